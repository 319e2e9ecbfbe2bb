/- Plain part. -/
import Derived.Test.YtjnfipkbgmdpaaaGreatDoorXAlgRisesN0
import Derived.Laws.Bits64b
import Derived.Laws.Closers25b
namespace Go.Proofs.YtjnfipkbgmdpaaaGreatDoor.Nf
open RowKit YtjnfipkbgmdpaaaGreatDoor.PAll YtjnfipkbgmdpaaaGreatDoorW.PrintWords YtjnfipkbgmdpaaaGreatDoorW.PrintLast YtjnfipkbgmdpaaaGreatDoorW.PrintMore YtjnfipkbgmdpaaaGreatDoor.Nm
set_option linter.unusedVariables false
set_option linter.unusedSimpArgs false
theorem Z3X {x : Int} (h0 : 0 ≤ x) (h1 : x < 18446744073709551616) : IntKind.u64.wrap x = x := by
 rw [IntKind.wrap_u64]; omega
theorem ZL {x : Int} (h0 : -9223372036854775808 ≤ x) (h1 : x < 9223372036854775808) : wrap64 x = x := by
 unfold wrap64; omega
theorem Z06 (l : List Int) (j : Nat) : rd l (j : Int) = l.getD j 0 := by simp [rd]
theorem Z4 {α β : Type} (a : α) (f : α → Option β) : (some a).bind f = f a := by simp
theorem Z2D (n : Nat) : ∀ (l : List Int) (k : Nat), l.length = n → Ws l → n < 4611686018427387904 → n < k → ZY.f k l = some (ofN (val l)) := by
 unfold ZY.f
 induction n with
 | zero =>
  intro l k hl hw hn hk
  obtain ⟨k, rfl⟩ : ∃ m, k = m + 1 := ⟨k - 1, by omega⟩
  obtain rfl := List.eq_nil_of_length_eq_zero hl
  simp [ZY.l0, val, Z0e]
 | succ n ih =>
  intro l k hl hw hn hk
  obtain ⟨k, rfl⟩ : ∃ m, k = m + 1 := ⟨k - 1, by omega⟩
  simp only [ZY.l0]
  have e : wrap64 ((l.length : Int) - 1) = (n : Int) := by rw [ZL Zo Zo]; omega
  rw [e, if_pos Zo, if_pos Zo, if_pos Zo, Z06]
  have hv := Z05 l n Zo
  rw [Zr l (n + 1) Zo] at hv
  by_cases h : l.getD n 0 = 0
  ·rw [if_pos h, if_pos Zo, zk0, ih (l.take n) k (by rw [zk8]; omega) (Z2X hw n) Zo Zo]
   rw [h] at hv
   simp at hv; rw [hv]
  rw [if_neg h]
  congr 1
  refine Zbc hw ?_
  have hs : l = l.take n ++ [l.getD n 0] := by
   have := List.take_succ_eq_append_getElem (l := l) (i := n) Zo
   rw [List.take_of_length_le Zo] at this
   rw [List.getD_eq_getElem?_getD, List.getElem?_eq_getElem Zo]
   exact this
  rw [hs]; exact Z6b h
theorem ZcN (l : List Int) : Z09.f l = some (decide (1024 < l.length)) := by
 unfold Z09.f; congr 1; rw [zko]; simp; omega
theorem Z4G (v : Nat) : Z09.f (ofN v) = some (decide (¬ v < big)) := by
 have e : (1024 < (ofN v).length) ↔ ¬ v < big := by rw [← Z4T]; omega
 rw [ZcN, decide_eq_decide.2 e]
theorem Z42 (l : List Int) (k : Nat) (hw : Ws l) (hn : l.length < 4611686018427387904) (hk : l.length < k) :
  Z1I.f k l = some (if val l < big then (ofN (val l), 0) else ([], 3)) := by
 unfold Z1I.f; rw [Z2D _ l k rfl hw hn hk]; simp only [Z4]; rw [Z4G]; simp only [Z4]
 by_cases h : val l < big <;> simp [h]
theorem Z9p (a b : List Int) (k : Nat) (ha : Ws a) (hb : Ws b) (na : a.length < 4611686018427387904) (nb : b.length < 4611686018427387904) (hk : a.length < k) (hk2 : b.length < k) :
  Z31.f k a b = some (if val a < big ∧ val b < big then (ofN (val a), ofN (val b), 0) else ([], [], 3)) := by
 unfold Z31.f; rw [Z2D _ a k rfl ha na hk, Z2D _ b k rfl hb nb hk2]; simp only [Z4]; rw [Z4G, Z4G]; simp only [Z4]
 by_cases h : val a < big <;> by_cases g : val b < big <;> simp [h, g]
theorem Z3p (l : List Int) (h : l.length < 17592186044416) : ZZ.f l = some l := by
 unfold ZZ.f; rw [if_pos (by simpa using h)]; rfl
theorem Z5C (v : Nat) : Z2w.f (ofN v) = some (if v < big then (ofN v, 0) else ([], 3)) := by
 unfold Z2w.f; rw [Z4G]; simp only [Z4]
 by_cases h : v < big
 ·have := (Z4T v).2 h
  rw [Z3p _ Zo]; simp [h]
 simp [h]
theorem ZcO (x y : List Int) (hx : Ws x) (hy : Ws y) (e : x.length = y.length) (hn : x.length < 4611686018427387904) (j : Nat) : ∀ (k : Nat), j ≤ x.length → j < k →
  Z08.l0 k x y ((j : Int) - 1) = some (Z2y (val (x.take j)) (val (y.take j))) := by
 induction j with
 | zero =>
  intro k hj hk
  obtain ⟨k, rfl⟩ : ∃ m, k = m + 1 := ⟨k - 1, by omega⟩
  simp only [Z08.l0]; rw [if_neg Zo]; simp [val, Z2y]
 | succ j ih =>
  intro k hj hk
  obtain ⟨k, rfl⟩ : ∃ m, k = m + 1 := ⟨k - 1, by omega⟩
  have e1 : ((j + 1 : Nat) : Int) - 1 = (j : Int) := by omega
  rw [e1]
  simp only [Z08.l0]
  rw [if_pos Zo, if_pos Zo, if_pos Zo, if_pos Zo, Z06, Z06, ZL Zo Zo, ih k Zo Zo]
  rw [Z05 x j Zo, Z05 y j Zo]
  have a := Z1M (Z2X hx j); have b := Z1M (Z2X hy j)
  rw [zk8, Zkc Zo] at a b
  rw [Z6i a b]
  have p := Z01 hx j; have q := Z01 hy j
  by_cases h : x.getD j 0 < y.getD j 0
  ·rw [if_pos h, if_pos Zo]
  rw [if_neg h, if_neg (c := (x.getD j 0).toNat < (y.getD j 0).toNat) Zo]
  by_cases g : x.getD j 0 > y.getD j 0
  ·rw [if_pos g, if_pos Zo]
  rw [if_neg g, if_neg Zo]
theorem Z8v (a b : Nat) (k : Nat) (na : (ofN a).length < 4611686018427387904) (hk : (ofN a).length < k) : Z08.f k (ofN a) (ofN b) = some (Z2y a b) := by
 unfold Z08.f
 by_cases e : (ofN a).length = (ofN b).length
 ·rw [if_pos Zo, ZL Zo Zo, ZcO _ _ (ZE a) (ZE b) e na _ k (zk6 _) hk, Zr _ _ (zk6 _), Zr _ _ Zo, Ze, Ze]
 rw [if_neg Zo]
 by_cases h : (ofN a).length < (ofN b).length
 ·rw [if_pos Zo]; have := Z4r h; unfold Z2y; rw [if_pos this]
 rw [if_neg Zo]; have := Z4r (a := b) (b := a) Zo; unfold Z2y; rw [if_neg Zo, if_neg Zo]
theorem Z49 (x y c : Int) : add64s x y c = (((x.toNat + y.toNat + c.toNat) % 18446744073709551616 : Nat) : Int) := rfl
theorem Z7f (x y c : Int) : 0 ≤ add64s x y c := by rw [Z49]; omega
theorem Z7g (x y c : Int) : add64s x y c < 18446744073709551616 := by rw [Z49]; omega
theorem Z4L (x y c : Int) : add64c x y c = (((x.toNat + y.toNat + c.toNat) / 18446744073709551616 : Nat) : Int) := rfl
theorem Z7h {x y : Int} {c : Nat} (hx : x < 18446744073709551616) (hy : y < 18446744073709551616) (hc : c ≤ 1) : ∃ d : Nat, d ≤ 1 ∧ add64c x y c = d := ⟨_, by simp only [zk0]; omega, rfl⟩
theorem ZcP {P v w s c d x y : Nat} (h : s + 18446744073709551616 * d = x + y + c) : v + P * c + 0 + (P * x + P * y) = v + P * s + P * 18446744073709551616 * d := by
 have : P * (s + 18446744073709551616 * d) = P * (x + y + c) := by rw [h]
 rw [zkp, zkp, zkp, ← zkc] at this
 omega
theorem Z3u {P va vb vo c x y s d : Nat} (h : s + 18446744073709551616 * d = x + y + c) (e : vo + P * c = va + vb) : vo + P * s + P * 18446744073709551616 * d = va + P * x + (vb + P * y) := by
 have := ZcP (P := P) (v := vo) (w := 0) h
 omega
theorem Zbj (a b : List Int) (ha : Ws a) (hb : Ws b) (na : a.length < 4611686018427387900) (nb : b.length ≤ a.length) (r : Nat) : ∀ (j : Nat) (k : Nat) (o : List Int) (c : Nat), a.length - j = r → j ≤ a.length → r + a.length + 2 < k → o.length = a.length + 1 → Ws o → c ≤ 1 →
  val (o.take j) + 18446744073709551616 ^ j * c = val (a.take j) + val (b.take j) →
  ZH.l100 k a b o c a a.length j = some (ofN (val a + val b)) := by
 induction r with
 | zero =>
  intro j k o c hr hj hk ho hw hc hv
  obtain ⟨k, rfl⟩ : ∃ m, k = m + 1 := ⟨k - 1, by omega⟩
  obtain rfl : j = a.length := by omega
  simp only [ZH.l100]
  rw [if_neg Zo, if_pos Zo, if_pos Zo, zk0]
  rw [Z2D _ _ k rfl (Z1V hw _ Zo Zo) (by rw [zk9]; omega) (by rw [zk9]; omega), Z4]
  have e := Z0S o a.length (c : Int) Zo
  rw [Zr _ (a.length + 1) (by rw [zk9]; omega), zk0] at e
  rw [Zr a _ (zk6 _), Zr b _ nb] at hv
  rw [e, hv]
 | succ r ih =>
  intro j k o c hr hj hk ho hw hc hv
  obtain ⟨k, rfl⟩ : ∃ m, k = m + 1 := ⟨k - 1, by omega⟩
  simp only [ZH.l100]
  have i5 : ¬ (j : Int) < (b.length : Int) → 0 = b.getD j 0 := fun h => (Z2C _ _ Zo).symm
  have i4 : j < o.length := by omega
  have i1 : a.length - (j + 1) = r := by omega
  have i2 : j + 1 ≤ a.length := by omega
  have i3 : r + a.length + 2 < k := by omega
  have pa := Z01 ha j; have pb := Z01 hb j
  rw [if_pos Zo, if_pos Zo, if_pos Zo]
  simp only [Z06]
  rw [if_pos (c := (c : Int) ≤ 1) Zo, if_pos (c := (c : Int) ≤ 1) Zo]
  simp only [if_pos (show (j : Int) < (o.length : Int) by omega), zk0]
  have wj : wrap64 ((j : Int) + 1) = ((j + 1 : Nat) : Int) := by rw [ZL Zo Zo]; omega
  rw [wj]
  have key : ∀ y : Int, 0 ≤ y → y < 18446744073709551616 → y = b.getD j 0 →
    ZH.l100 k a b (o.set j (add64s (a.getD j 0) y c)) (add64c (a.getD j 0) y c) a a.length ((j + 1 : Nat) : Int) = some (ofN (val a + val b)) := by
   intro y y0 y1 hy
   obtain ⟨d, hd, ed⟩ := Z7h (x := a.getD j 0) (y := y) (c := c) pa.2 y1 hc
   rw [ed]
   have hs : (add64s (a.getD j 0) y c).toNat + 18446744073709551616 * d = (a.getD j 0).toNat + y.toNat + c := by
    rw [Z49]; rw [Z4L] at ed
    simp only [zk0] at ed ⊢
    omega
   refine ih (j + 1) k _ d i1 i2 i3 (by rw [zk9]; exact ho) (Z1V hw _ (Z7f _ _ _) (Z7g _ _ _)) hd ?_
   rw [Z0S o j _ i4, ZU a, ZU b, ← hy, zkk]
   exact Z3u hs hv
  by_cases h : (j : Int) < (b.length : Int)
  ·rw [if_pos h]; exact key _ pb.1 pb.2 rfl
  rw [if_neg h]; exact key 0 (Int.le_refl 0) Zd (i5 h)
theorem Z3z (l : List Int) (i : Nat) : Z0h.f l (i : Int) = some (l.getD i 0) := by
 unfold Z0h.f
 by_cases h : i < l.length
 ·rw [if_pos Zo, if_pos Zo, Z06]
 rw [if_neg Zo, Z2C _ _ Zo]
theorem Z8w {l : List Int} (hw : Ws l) {j : Nat} (hj : j < l.length) (h : l.getD j 0 ≠ 0) : l.take (j + 1) = ofN (val (l.take (j + 1))) := by
 refine Zbc (Z2X hw _) ?_
 rw [List.take_succ_eq_append_getElem hj]
 refine Z6b ?_
 rwa [List.getD_eq_getElem?_getD, List.getElem?_eq_getElem hj] at h
theorem Zao (l : List Int) (hw : Ws l) (hn : l.length < 17592186044416) (n : Nat) : ∀ k, n ≤ l.length → n < k → ZM.l0 k l n = some (ofN (val (l.take n))) := by
 induction n with
 | zero =>
  intro k hj hk
  obtain ⟨k, rfl⟩ : ∃ m, k = m + 1 := ⟨k - 1, by omega⟩
  simp only [ZM.l0]
  rw [if_neg Zo, if_pos Zo, if_pos Zo, if_pos (by simp)]
  simp [val, Z0e]
 | succ n ih =>
  intro k hj hk
  obtain ⟨k, rfl⟩ : ∃ m, k = m + 1 := ⟨k - 1, by omega⟩
  simp only [ZM.l0]
  have e : wrap64 (((n + 1 : Nat) : Int) - 1) = (n : Int) := by rw [ZL Zo Zo]; omega
  rw [e, if_pos Zo, if_pos Zo, if_pos Zo, Z06]
  by_cases h : l.getD n 0 = 0
  ·rw [if_pos h, ih k Zo Zo, Z05 l n Zo, h]; simp
  rw [if_neg h, if_pos Zo, if_pos Zo, zk0, if_pos (by rw [zk8]; simp; omega), List.nil_append, ← Z8w hw Zo h]
theorem Z3v (l : List Int) (k : Nat) (hw : Ws l) (hn : l.length < 17592186044416) (hk : l.length < k) : ZM.f k l = some (ofN (val l)) := by
 unfold ZM.f
 rw [Zao l hw hn _ k (zk6 _) hk, Zr _ _ (zk6 _)]
theorem Z2l {l : List Int} (h : Ws l) (j : Nat) : val (l.take j) < 18446744073709551616 ^ j := by
 have a := Z1M (Z2X h j)
 refine zkn a (zkj Zd ?_)
 rw [zk8]; omega
theorem Z5D (a b : Nat) : mx (a : Int) (b : Int) = ((max a b : Nat) : Int) := by unfold mx; split <;> omega
theorem Z0d {j : Nat} (h : j < 4611686018427387904) : wrap64 ((j : Int) + 1) = ((j + 1 : Nat) : Int) := by rw [ZL Zo Zo]; omega
theorem Z3N (o : List Int) (w : Int) : val (o ++ [w]) = val o + 18446744073709551616 ^ o.length * w.toNat := by rw [Z33]; simp [val]
theorem Zbk (a b : List Int) (ha : Ws a) (hb : Ws b) (na : a.length < 17592186044000) (nb : b.length < 17592186044000) (r : Nat) : ∀ (j k : Nat) (o : List Int) (c : Nat), max a.length b.length - j = r → j ≤ max a.length b.length → r + max a.length b.length + 3 < k → o.length = j → Ws o → c ≤ 1 →
  val o + 18446744073709551616 ^ j * c = val (a.take j) + val (b.take j) →
  Z0s.l0 k a b o c j = some (ofN (val a + val b)) := by
 induction r with
 | zero =>
  intro j k o c hr hj hk ho hw hc hv
  obtain ⟨k, rfl⟩ : ∃ m, k = m + 1 := ⟨k - 1, by omega⟩
  obtain rfl : j = max a.length b.length := by omega
  simp only [Z0s.l0, Z5D]
  rw [if_neg Zo, if_pos Zo]
  rw [Z3v _ k (Z2O.2 ⟨hw, Z2c.2 ⟨by omega, Z2d⟩⟩) (by simp; omega) (by simp; omega), Z4]
  rw [Z3N, ho, zk0, hv, Zr _ _ Zo, Zr _ _ Zo]
 | succ r ih =>
  intro j k o c hr hj hk ho hw hc hv
  obtain ⟨k, rfl⟩ : ∃ m, k = m + 1 := ⟨k - 1, by omega⟩
  simp only [Z0s.l0, Z5D]
  have i1 : max a.length b.length - (j + 1) = r := by omega
  have i2 : j + 1 ≤ max a.length b.length := by omega
  have i3 : r + max a.length b.length + 3 < k := by omega
  have pa := Z01 ha j; have pb := Z01 hb j
  rw [if_pos Zo, Z3z, Z3z, Z4, Z4, Z0d Zo]
  have key : ∀ (s : Int) (d : Nat), 0 ≤ s → s < 18446744073709551616 → d ≤ 1 → s.toNat + 18446744073709551616 * d = (a.getD j 0).toNat + (b.getD j 0).toNat + c →
    Z0s.l0 k a b (o ++ [s]) d ((j + 1 : Nat) : Int) = some (ofN (val a + val b)) := by
   intro s d s0 s1 hd hs
   refine ih (j + 1) k _ d i1 i2 i3 (by simp [ho]) (Z2O.2 ⟨hw, Z2c.2 ⟨⟨s0, s1⟩, Z2d⟩⟩) hd ?_
   rw [Z3N, ho, ZU a, ZU b, zkk]
   exact Z3u hs hv
  generalize es : IntKind.u64.wrap (IntKind.u64.wrap (a.getD j 0 + b.getD j 0) + (c : Int)) = s
  have es' : s = (a.getD j 0 + b.getD j 0 + c) % 18446744073709551616 := by rw [← es, IntKind.wrap_u64, IntKind.wrap_u64]; omega
  have k0 := key s 0 Zo Zo Zo
  have k1 := key s 1 Zo Zo Zo
  have ho' : o.length < 17592186044416 := by omega
  by_cases h1 : s < a.getD j 0
  ·rw [if_pos h1, if_pos ho']; exact k1 Zo
  rw [if_neg h1]
  by_cases h2 : s = a.getD j 0
  ·rw [if_pos h2]
   by_cases h3 : (c : Int) = 1
   ·rw [if_pos h3]
    by_cases h4 : b.getD j 0 > 0
    ·rw [if_pos h4, if_pos ho']; exact k1 Zo
    rw [if_neg h4, if_pos ho']; exact k0 Zo
   rw [if_neg h3, if_pos ho']; exact k0 Zo
  rw [if_neg h2, if_pos ho']; exact k0 Zo
theorem Ze8 (a b : List Int) (k : Nat) (ha : Ws a) (hb : Ws b) (na : a.length < 17592186044000) (nb : b.length < 17592186044000) (hk : 2 * (a.length + b.length) + 3 < k) : Z0s.f k a b = some (ofN (val a + val b)) := by
 unfold Z0s.f
 exact Zbk a b ha hb na nb _ 0 k [] 0 rfl Zo Zo rfl Z2d Zo (by simp [val])
theorem Zbl (a b : List Int) (ha : Ws a) (hb : Ws b) (na : a.length < 17592186044000) (nb : b.length < 17592186044000) (hle : val b ≤ val a) (r : Nat) : ∀ (j k : Nat) (o : List Int) (c : Nat), max a.length b.length - j = r → j ≤ max a.length b.length → r + max a.length b.length + 3 < k → o.length = j → Ws o → c ≤ 1 →
  val (a.take j) + 18446744073709551616 ^ j * c = val o + val (b.take j) →
  Z0l.l0 k a b o c j = some (ofN (val a - val b)) := by
 induction r with
 | zero =>
  intro j k o c hr hj hk ho hw hc hv
  obtain ⟨k, rfl⟩ : ∃ m, k = m + 1 := ⟨k - 1, by omega⟩
  obtain rfl : j = max a.length b.length := by omega
  simp only [Z0l.l0, Z5D]
  rw [if_neg Zo, Z3v _ k hw Zo Zo, Z4]
  have := Z1M hw
  rw [ho] at this
  rw [Zr _ _ Zo, Zr _ _ Zo] at hv
  generalize 18446744073709551616 ^ max a.length b.length = p at *
  have : c = 0 := by
   rcases Nat.lt_or_ge c 1 with h | h
   ·omega
   have : c = 1 := by omega
   subst this; omega
  subst this
  rw [Zk3] at hv
  congr 2; omega
 | succ r ih =>
  intro j k o c hr hj hk ho hw hc hv
  obtain ⟨k, rfl⟩ : ∃ m, k = m + 1 := ⟨k - 1, by omega⟩
  simp only [Z0l.l0, Z5D]
  have i1 : max a.length b.length - (j + 1) = r := by omega
  have i2 : j + 1 ≤ max a.length b.length := by omega
  have i3 : r + max a.length b.length + 3 < k := by omega
  have pa := Z01 ha j; have pb := Z01 hb j
  rw [if_pos Zo, Z3z, Z3z, Z4, Z4, Z0d Zo]
  have key : ∀ (s : Int) (d : Nat), 0 ≤ s → s < 18446744073709551616 → d ≤ 1 → (a.getD j 0).toNat + 18446744073709551616 * d = s.toNat + (b.getD j 0).toNat + c →
    Z0l.l0 k a b (o ++ [s]) d ((j + 1 : Nat) : Int) = some (ofN (val a - val b)) := by
   intro s d s0 s1 hd hs
   refine ih (j + 1) k _ d i1 i2 i3 (by simp [ho]) (Z2O.2 ⟨hw, Z2c.2 ⟨⟨s0, s1⟩, Z2d⟩⟩) hd ?_
   rw [Z3N, ho, ZU a, ZU b, zkk]
   exact Z3u hs hv
  generalize es : IntKind.u64.wrap (IntKind.u64.wrap (a.getD j 0 - b.getD j 0) - (c : Int)) = s
  have es' : s = (a.getD j 0 - b.getD j 0 - c) % 18446744073709551616 := by rw [← es, IntKind.wrap_u64, IntKind.wrap_u64]; omega
  have k0 := key s 0 Zo Zo Zo
  have k1 := key s 1 Zo Zo Zo
  have ho' : o.length < 17592186044416 := by omega
  by_cases h1 : a.getD j 0 < b.getD j 0
  ·rw [if_pos h1, if_pos ho']; exact k1 Zo
  rw [if_neg h1]
  by_cases h2 : a.getD j 0 = b.getD j 0
  ·rw [if_pos h2]
   by_cases h3 : (c : Int) = 1
   ·rw [if_pos h3, if_pos ho']; exact k1 Zo
   rw [if_neg h3, if_pos ho']; exact k0 Zo
  rw [if_neg h2, if_pos ho']; exact k0 Zo
theorem Z9q (a b : List Int) (k : Nat) (ha : Ws a) (hb : Ws b) (na : a.length < 17592186044000) (nb : b.length < 17592186044000) (hle : val b ≤ val a) (hk : 2 * (a.length + b.length) + 3 < k) : Z0l.f k a b = some (ofN (val a - val b)) := by
 unfold Z0l.f
 exact Zbl a b ha hb na nb hle _ 0 k [] 0 rfl Zo Zo rfl Z2d Zo (by simp [val])
theorem Zbm (a b : List Int) (ha : Ws a) (hb : Ws b) (j : Nat) : ∀ (k : Nat), j < 4611686018427387904 → j < k → Z0J.l0 k a b ((j : Int) - 1) = some (Z2y (val (a.take j)) (val (b.take j))) := by
 induction j with
 | zero =>
  intro k hj hk
  obtain ⟨k, rfl⟩ : ∃ m, k = m + 1 := ⟨k - 1, by omega⟩
  simp only [Z0J.l0]; rw [if_neg Zo]; simp [val, Z2y]
 | succ j ih =>
  intro k hj hk
  obtain ⟨k, rfl⟩ : ∃ m, k = m + 1 := ⟨k - 1, by omega⟩
  have e1 : ((j + 1 : Nat) : Int) - 1 = (j : Int) := by omega
  rw [e1]
  simp only [Z0J.l0]
  rw [if_pos Zo, Z3z, Z3z, Z4, Z4, ZL Zo Zo, ih k Zo Zo, ZU, ZU, Z6i (Z2l ha j) (Z2l hb j)]
  have p := Z01 ha j; have q := Z01 hb j
  by_cases h : a.getD j 0 < b.getD j 0
  ·rw [if_pos h, if_pos Zo]
  rw [if_neg h, if_neg (c := (a.getD j 0).toNat < (b.getD j 0).toNat) Zo]
  by_cases g : a.getD j 0 > b.getD j 0
  ·rw [if_pos g, if_pos Zo]
  rw [if_neg g, if_neg Zo]
theorem Ze9 (a b : List Int) (k : Nat) (ha : Ws a) (hb : Ws b) (na : a.length < 4611686018427387904) (nb : b.length < 4611686018427387904) (hk : a.length + b.length < k) : Z0J.f k a b = some (Z2y (val a) (val b)) := by
 unfold Z0J.f
 rw [Z5D, ZL Zo Zo, Zbm a b ha hb _ k Zo Zo, Zr _ _ Zo, Zr _ _ Zo]
theorem ZcQ (k : Nat) : ∀ a b o c r n j, ZH.l0 k a b o c r n j = ZH.l100 k a b o c r n j := by
 induction k with
 | zero => intros; rfl
 | succ k ih => intro a b o c r n j; simp only [ZH.l0, ZH.l100, ih]
theorem Zbn (a b : List Int) (ha : Ws a) (hb : Ws b) (na : a.length < 35184372088000) (nb : b.length < 35184372088000) (k : Nat) (hk : 2 * (a.length + b.length) + 3 < k) : ZH.f k a b = some (ofN (val a + val b)) := by
 have key : ∀ (a b : List Int), Ws a → Ws b → a.length < 35184372088000 → b.length ≤ a.length → 2 * (a.length + b.length) + 3 < k → ZH.l100 k a b (List.replicate (wrap64 ((a.length : Int) + 1)).toNat 0) 0 a a.length 0 = some (ofN (val a + val b)) := by
  intro a b ha hb na nb hk
  rw [Z0d Zo, zk0]
  exact Zbj a b ha hb Zo nb _ 0 k _ 0 rfl Zo Zo (by simp) (Z0Y _) Zo (by simp [val])
 unfold ZH.f
 by_cases h : (a.length : Int) < (b.length : Int)
 ·rw [if_pos h, if_pos (by rw [Z0d Zo]; omega), if_pos (by rw [Z0d Zo]; omega), ZcQ, key b a hb ha nb Zo Zo, zkO]
 rw [if_neg h, if_pos (by rw [Z0d Zo]; omega), if_pos (by rw [Z0d Zo]; omega), key a b ha hb na Zo Zo]
theorem Zfs (x y c : Int) : sub64s x y c = (((x.toNat + 18446744073709551616 - y.toNat - c.toNat) % 18446744073709551616 : Nat) : Int) := rfl
theorem Z5Q (x y c : Int) : 0 ≤ sub64s x y c := by rw [Zfs]; omega
theorem Z5R (x y c : Int) : sub64s x y c < 18446744073709551616 := by rw [Zfs]; omega
theorem ZcR {m x y c : Nat} (hx : x < m) (hy : y < m) (hc : c ≤ 1) (h : x < y + c) : x + m * 1 = (x + m - y - c) % m + y + c := by
 rw [zkA Zo]; omega
theorem ZcS {m x y c : Nat} (hx : x < m) (hy : y < m) (hc : c ≤ 1) (h : ¬ x < y + c) : x + m * 0 = (x + m - y - c) % m + y + c := by
 have : x + m - y - c = (x - y - c) + m := by omega
 rw [this, Nat.add_mod_right, zkA Zo]; omega
theorem ZcT (x y : Int) (c : Nat) : (sub64s x y c).toNat = (x.toNat + 18446744073709551616 - y.toNat - c) % 18446744073709551616 := by unfold sub64s; rw [zk0, zk0]
theorem ZcU (x y : Int) (c : Nat) : sub64c x y c = if x.toNat < y.toNat + c then 1 else 0 := by unfold sub64c; rw [zk0]
theorem Z5e {x y : Int} {c : Nat} (x0 : 0 ≤ x) (x1 : x < 18446744073709551616) (y0 : 0 ≤ y) (y1 : y < 18446744073709551616) (hc : c ≤ 1) :
  ∃ d : Nat, d ≤ 1 ∧ sub64c x y c = d ∧ x.toNat + 18446744073709551616 * d = (sub64s x y c).toNat + y.toNat + c := by
 have hx : x.toNat < 18446744073709551616 := by omega
 have hy : y.toNat < 18446744073709551616 := by omega
 rw [ZcT, ZcU]
 by_cases h : x.toNat < y.toNat + c
 ·exact ⟨1, zk6 1, if_pos h, ZcR hx hy hc h⟩
 exact ⟨0, zkD 1, if_neg h, ZcS hx hy hc h⟩
theorem ZcV (a b : List Int) (ha : Ws a) (hb : Ws b) (na : a.length < 4611686018427387904) (hle : val b ≤ val a) (hl : b.length ≤ a.length) (r : Nat) : ∀ (j : Nat) (k : Nat) (o : List Int) (c : Nat), a.length - j = r → j ≤ a.length → r + a.length + 2 < k → o.length = a.length → Ws o → c ≤ 1 →
  val (a.take j) + 18446744073709551616 ^ j * c = val (o.take j) + val (b.take j) →
  Z0k.l0 k b o c a a.length j = some (ofN (val a - val b)) := by
 induction r with
 | zero =>
  intro j k o c hr hj hk ho hw hc hv
  obtain ⟨k, rfl⟩ : ∃ m, k = m + 1 := ⟨k - 1, by omega⟩
  obtain rfl : j = a.length := by omega
  simp only [Z0k.l0]
  rw [if_neg Zo, Z2D _ _ k rfl hw Zo Zo, Z4]
  have := Z1M hw
  rw [ho] at this
  rw [Zr _ _ Zo, Zr _ _ Zo, Zr _ _ Zo] at hv
  generalize 18446744073709551616 ^ a.length = p at *
  have : c = 0 := by
   rcases Nat.lt_or_ge c 1 with h | h
   ·omega
   have : c = 1 := by omega
   subst this; omega
  subst this
  rw [Zk3] at hv
  congr 2; omega
 | succ r ih =>
  intro j k o c hr hj hk ho hw hc hv
  obtain ⟨k, rfl⟩ : ∃ m, k = m + 1 := ⟨k - 1, by omega⟩
  simp only [Z0k.l0]
  have i5 : ¬ (j : Int) < (b.length : Int) → 0 = b.getD j 0 := fun h => (Z2C _ _ Zo).symm
  have i4 : j < o.length := by omega
  have i1 : a.length - (j + 1) = r := by omega
  have i2 : j + 1 ≤ a.length := by omega
  have i3 : r + a.length + 2 < k := by omega
  have pa := Z01 ha j; have pb := Z01 hb j
  rw [if_pos Zo, if_pos Zo, if_pos Zo]
  simp only [Z06]
  rw [if_pos (c := (c : Int) ≤ 1) Zo, if_pos (c := (c : Int) ≤ 1) Zo]
  simp only [if_pos (show (j : Int) < (o.length : Int) by omega), zk0]
  rw [Z0d Zo]
  have key : ∀ y : Int, 0 ≤ y → y < 18446744073709551616 → y = b.getD j 0 →
    Z0k.l0 k b (o.set j (sub64s (a.getD j 0) y c)) (sub64c (a.getD j 0) y c) a a.length ((j + 1 : Nat) : Int) = some (ofN (val a - val b)) := by
   intro y y0 y1 hy
   obtain ⟨d, hd, ed, hs⟩ := Z5e pa.1 pa.2 y0 y1 hc
   rw [ed]
   refine ih (j + 1) k _ d i1 i2 i3 (by rw [zk9]; exact ho) (Z1V hw _ (Z5Q _ _ _) (Z5R _ _ _)) hd ?_
   rw [Z0S o j _ i4, ZU a, ZU b, ← hy, zkk]
   exact Z3u hs hv
  by_cases h : (j : Int) < (b.length : Int)
  ·rw [if_pos h]; exact key _ pb.1 pb.2 rfl
  rw [if_neg h]; exact key 0 (Int.le_refl 0) Zd (i5 h)
theorem Z0E {a b : Nat} (h : b ≤ a) : (ofN b).length ≤ (ofN a).length := by
 rcases Nat.lt_or_ge (ofN a).length (ofN b).length with g | g
 ·have := Z4r g; omega
 exact g
theorem Zbo (a b : Nat) (h : b ≤ a) (k : Nat) (na : (ofN a).length < 35184372088000) (hk : 2 * (ofN a).length + 3 < k) : Z0k.f k (ofN a) (ofN b) = some (ofN (a - b)) := by
 unfold Z0k.f
 rw [if_pos Zo, if_pos (by rw [zk0]; omega), zk0]
 have := ZcV (ofN a) (ofN b) (ZE a) (ZE b) Zo (by rw [Ze, Ze]; exact h) (Z0E h) _ 0 k (List.replicate (ofN a).length 0) 0 rfl Zo Zo (by simp) (Z0Y _) Zo (by simp [val])
 rw [Ze, Ze] at this
 exact this
theorem Z8x (n m : Nat) : (ofN n).length ≤ m + 1 ↔ n < 18446744073709551616 ^ m * 18446744073709551616 := by rw [Z0N, zkk]
theorem Z9d {p m a b : Nat} (hp : p = 18446744073709551616 ^ m) (ha : a < p) (hb : b < p) : (ofN (a + b)).length ≤ m + 1 := by
 refine (Z8x (a + b) m).2 ?_
 rw [← hp]; omega
theorem Z0X {a : Nat} (ha : a < big) : (ofN a).length ≤ 1024 := (Z4T a).2 ha
theorem Zft (a b : List Int) (k : Nat) (ha : Ws a) (hb : Ws b) (na : a.length < 4611686018427387904) (nb : b.length < 4611686018427387904) (hk : 2 * (a.length + b.length) + 10000 < k) :
  Z3J.f k a b = some (if val a < big ∧ val b < big then (if val a + val b < big then (ofN (val a + val b), 0) else ([], 3)) else ([], 3)) := by
 unfold Z3J.f
 rw [Z9p a b k ha hb na nb Zo Zo, Z4]
 by_cases h : val a < big ∧ val b < big
 ·have h1 := Z0X h.1; have h2 := Z0X h.2
  rw [if_pos h, if_pos rfl, Zbn _ _ (ZE _) (ZE _) Zo Zo k Zo, Z4, Ze, Ze, Z5C, Z4, if_pos h]
 rw [if_neg h, if_neg Zd, if_neg h]
theorem Z6E (s : Nat) : ((2 : Int) ^ s) = ((2 ^ s : Nat) : Int) := by simp
theorem Z4W (w s : Nat) (hs : s ≤ 64) : shl .u64 (w : Int) (s : Int) = ((w * 2 ^ s % 18446744073709551616 : Nat) : Int) := by
 unfold shl
 rw [zk0, Zkc (show s ≤ IntKind.u64.bits from hs), IntKind.wrap_u64, Z6E, ← zkE]; rfl
theorem Z3e (w s : Nat) (hs : s ≤ 64) : shr .u64 (w : Int) (s : Int) = ((w / 2 ^ s : Nat) : Int) := by
 unfold shr
 rw [zk0, Zkc (show s ≤ IntKind.u64.bits from hs), Z6E]
 rfl
theorem Z1e {s : Nat} (hs : s ≤ 64) : 2 ^ s * 2 ^ (64 - s) = 18446744073709551616 := by
 rw [← zkb, Nat.add_sub_cancel' hs]
theorem Zbp (a s c : Nat) (hc : c < 2 ^ s) : 2 ^ s * a ||| c = 2 ^ s * a + c := (Nat.two_pow_add_eq_or_of_lt hc a).symm
theorem Z2P {w s : Nat} (hs : s ≤ 64) : w * 2 ^ s % 18446744073709551616 = 2 ^ s * (w % 2 ^ (64 - s)) ∧ w * 2 ^ s = w * 2 ^ s % 18446744073709551616 + 18446744073709551616 * (w / 2 ^ (64 - s)) := by
 have e : w * 2 ^ s % 18446744073709551616 = 2 ^ s * (w % 2 ^ (64 - s)) := by
  rw [← Z1e hs, zkl w, Nat.mul_mod_mul_left]
 refine ⟨e, ?_⟩
 have := zkF w (2 ^ (64 - s))
 rw [e, ← Z1e hs, zkc, ← zkp, zkO, this, zkl]
theorem Zbq {w s c : Nat} (hs : s ≤ 64) (hc : c < 2 ^ s) : Go.bits .or .u64 (shl .u64 (w : Int) (s : Int)) (c : Int) = ((w * 2 ^ s % 18446744073709551616 + c : Nat) : Int) := by
 have h2 : 2 ^ s ≤ 18446744073709551616 := by rw [← Z1e hs]; exact zku _ (zkh Zd)
 rw [Z4W w s hs, u64_or_nat _ _ (zks _ Zd) Zo, (Z2P hs).1, Zbp _ _ _ hc]
theorem Z7i {w s c : Nat} (hs : s ≤ 64) (hc : c < 2 ^ s) : Go.bits .or .u64 (c : Int) (shl .u64 (w : Int) (s : Int)) = ((w * 2 ^ s % 18446744073709551616 + c : Nat) : Int) := by
 have h2 : 2 ^ s ≤ 18446744073709551616 := by rw [← Z1e hs]; exact zku _ (zkh Zd)
 rw [Z4W w s hs, u64_or_nat _ _ Zo (zks _ Zd), Nat.or_comm, (Z2P hs).1, Zbp _ _ _ hc]
theorem Z5E {w s c : Nat} (hs : s ≤ 64) (hc : c < 2 ^ s) : w * 2 ^ s % 18446744073709551616 + c < 18446744073709551616 := by
 rw [(Z2P hs).1]
 have : w % 2 ^ (64 - s) < 2 ^ (64 - s) := zks _ (zkh Zd)
 have := zky (2 ^ s) this
 rw [Z1e hs, Nat.mul_succ] at this
 omega
theorem Z4H {w s : Nat} (hs : s ≤ 64) (hw : w < 18446744073709551616) : w / 2 ^ (64 - s) < 2 ^ s := by
 rw [zkM (zkh Zd), Z1e hs]; exact hw
theorem Z5F (n : Nat) : 2 ^ n = 18446744073709551616 ^ (n / 64) * 2 ^ (n % 64) := by
 have e : 2 ^ n = 2 ^ (64 * (n / 64) + n % 64) := by rw [zkF]
 rw [e, zkb, zkK]
theorem Z6m {P Q vo c V S w lo d B : Nat} (e : w * S = lo + B * d) (hv : vo + P * Q * c = P * (V * S)) : vo + P * Q * (lo + c) + P * Q * B * d = P * ((V + Q * w) * S) := by
 rw [zkH, zkp P, ← hv, zkc Q w S, e, ← zkc P Q (lo + B * d), zkp, zkp, zkc (P * Q) B d]
 omega
theorem Z8y {a b : Nat} (h : a + b < 4611686018427387904) : wrap64 ((a : Int) + (b : Int)) = ((b + a : Nat) : Int) := by rw [ZL Zo Zo]; omega
theorem Z1D {x : Int} (h : 0 ≤ x) : x = ((x.toNat : Nat) : Int) := by omega
theorem Zbr (a : List Int) (ha : Ws a) (q s : Nat) (hs : s < 64) (na : a.length + q < 17592186044000) (r : Nat) : ∀ (j k : Nat) (o : List Int) (c : Nat), a.length - j = r → j ≤ a.length → r + a.length + q + 3 < k → o.length = q + j → Ws o → c < 2 ^ s →
  val o + 18446744073709551616 ^ (q + j) * c = 18446744073709551616 ^ q * (val (a.take j) * 2 ^ s) →
  Z0a.l0 k o s c a a.length j = some (ofN (18446744073709551616 ^ q * (val a * 2 ^ s))) := by
 have h2 : 2 ^ s ≤ 18446744073709551616 := by rw [← Z1e (show s ≤ 64 by omega)]; exact zku _ (zkh Zd)
 induction r with
 | zero =>
  intro j k o c hr hj hk ho hw hc hv
  obtain ⟨k, rfl⟩ : ∃ m, k = m + 1 := ⟨k - 1, by omega⟩
  obtain rfl : j = a.length := by omega
  simp only [Z0a.l0]
  rw [if_neg Zo, if_pos Zo, Z3v _ k (Z2O.2 ⟨hw, Z2c.2 ⟨by omega, Z2d⟩⟩) (by simp; omega) (by simp; omega), Z4, Z3N, ho, zk0, hv, Zr _ _ (zk6 _)]
 | succ r ih =>
  intro j k o c hr hj hk ho hw hc hv
  obtain ⟨k, rfl⟩ : ∃ m, k = m + 1 := ⟨k - 1, by omega⟩
  have i1 : a.length - (j + 1) = r := by omega
  have i2 : j + 1 ≤ a.length := by omega
  have i3 : r + a.length + q + 3 < k := by omega
  have i4 : o.length < 17592186044416 := by omega
  simp only [Z0a.l0]
  rw [if_pos Zo, if_pos Zo, if_pos Zo, if_pos Zo, if_pos i4, Z0d Zo, Z06]
  obtain ⟨p0, p1⟩ := Z01 ha j
  have ew := Z1D p0
  generalize hwn : (a.getD j 0).toNat = w at ew
  have w1 : w < 18446744073709551616 := by omega
  rw [ew, Zbq Zo hc, Z4]
  have key : ∀ d : Nat, d = w / 2 ^ (64 - s) → Z0a.l0 k (o ++ [((w * 2 ^ s % 18446744073709551616 + c : Nat) : Int)]) s d a a.length ((j + 1 : Nat) : Int) = some (ofN (18446744073709551616 ^ q * (val a * 2 ^ s))) := by
   intro d hd
   have l1 := Z5E (w := w) (show s ≤ 64 by omega) hc
   have l2 : d < 2 ^ s := by rw [hd]; exact Z4H Zo w1
   refine ih (j + 1) k _ d i1 i2 i3 (by rw [zkW, ho]; rfl) (Z2O.2 ⟨hw, Z2c.2 ⟨⟨zk1 _, by omega⟩, Z2d⟩⟩) l2 ?_
   rw [Z3N, ho, ZU a, hwn, zk0]
   have e := (Z2P (w := w) (s := s) Zo).2
   rw [← hd] at e
   rw [zkb] at hv ⊢
   rw [zkb, zkk, ← zkc]
   exact Z6m e hv
  by_cases h : (s : Int) > 0
  ·have e64 : IntKind.u64.wrap (64 - (s : Int)) = ((64 - s : Nat) : Int) := by rw [IntKind.wrap_u64]; omega
   rw [if_pos h, e64, if_pos Zo, Z3e _ _ Zo]
   exact key _ rfl
  have : s = 0 := by omega
  rw [if_neg h]
  refine key 0 ?_
  subst this
  rw [zkP (show w < 2 ^ (64 - 0) from w1)]
theorem Z9r (a : List Int) (n : Nat) (k : Nat) (ha : Ws a) (hn : n < 4611686018427387904) (na : a.length + n / 64 < 17592186044000) (hk : 2 * a.length + n / 64 + 3 < k) : Z0a.f k a n = some (ofN (val a * 2 ^ n)) := by
 unfold Z0a.f
 have e1 : wrap64 (Int.tdiv (n : Int) 64) = ((n / 64 : Nat) : Int) := by
  rw [zkr Zo, ZL Zo Zo]; omega
 have e2 : IntKind.u64.wrap (Int.tmod (n : Int) 64) = ((n % 64 : Nat) : Int) := by
  rw [zkt Zo, IntKind.wrap_u64]; omega
 rw [e1, e2, zk0, if_pos Zo, if_pos Zo]
 have := Zbr a ha (n / 64) (n % 64) Zo Zo _ 0 k (List.replicate (n / 64) 0) 0 rfl Zo Zo (by simp) (Z0Y _) (zkh Zd) (by rw [Z2M]; simp [val])
 rw [Z5F n, zkT]
 exact this
theorem Z8z (o : List Int) (i x y : Nat) (hi : i + 1 < o.length) : val (((o.set i (x : Int)).set (i + 1) (y : Int)).take (i + 2)) = val (o.take i) + 18446744073709551616 ^ i * x + 18446744073709551616 ^ (i + 1) * y := by
 rw [Z0S _ _ _ (by rw [zk9]; exact hi), Z0S _ _ _ Zo, zk0, zk0]
theorem ZcW (a : List Int) (ha : Ws a) (q s : Nat) (hs : s < 64) (na : a.length + q < 35184372088000) (r : Nat) : ∀ (j k : Nat) (o : List Int) (c : Nat), a.length - j = r → j ≤ a.length → r + a.length + q + 3 < k → o.length = a.length + q + 1 → Ws o → c < 2 ^ s → o.getD (q + j) 0 = c → (∀ i, q + j < i → o.getD i 0 = 0) →
  val (o.take (q + j)) + 18446744073709551616 ^ (q + j) * c = 18446744073709551616 ^ q * (val (a.take j) * 2 ^ s) →
  ZD.l0 k q s o a a.length j = some (ofN (18446744073709551616 ^ q * (val a * 2 ^ s))) := by
 have h2 : 2 ^ s ≤ 18446744073709551616 := by rw [← Z1e (show s ≤ 64 by omega)]; exact zku _ (zkh Zd)
 induction r with
 | zero =>
  intro j k o c hr hj hk ho hw hc hg hz hv
  obtain ⟨k, rfl⟩ : ∃ m, k = m + 1 := ⟨k - 1, by omega⟩
  obtain rfl : j = a.length := by omega
  simp only [ZD.l0]
  rw [if_neg Zo, Z2D _ _ k rfl hw Zo Zo, Z4]
  have e := Z05 o (q + a.length) Zo
  rw [hg, zk0, hv, Zr _ _ Zo, Zr _ _ (zk6 _)] at e
  rw [e]
 | succ r ih =>
  intro j k o c hr hj hk ho hw hc hg hz
  obtain ⟨k, rfl⟩ : ∃ m, k = m + 1 := ⟨k - 1, by omega⟩
  have i1 : a.length - (j + 1) = r := by omega
  have i2 : j + 1 ≤ a.length := by omega
  have i3 : r + a.length + q + 3 < k := by omega
  have i4 : q + j + 1 < o.length := by omega
  have b1 : j + q < 4611686018427387904 := by omega
  have b2 : q + j < 4611686018427387904 := by omega
  have b3 : j < 4611686018427387904 := by omega
  have g1 : (j : Int) < (a.length : Int) := by omega
  have g2 : ((q + j : Nat) : Int) < (o.length : Int) := by omega
  have g3 : ((q + j + 1 : Nat) : Int) < (o.length : Int) := by omega
  have hs' : s ≤ 64 := by omega
  have l0 : 2 ^ s ≤ 18446744073709551616 := h2
  have hz' : ∀ i, q + (j + 1) < i → q + j < i ∧ q + j + 1 ≠ i ∧ q + j ≠ i := fun i hi => by omega
  have hq1 : q + j < q + j + 1 := by omega
  intro hv
  simp only [ZD.l0]
  rw [if_pos g1, if_pos (zk1 _), if_pos g1, Z8y b1, Z0d b2, if_pos (zk1 _), if_pos g2, if_pos (zk1 _), Z0d b3]
  simp only [Z06, zk0]
  obtain ⟨p0, p1⟩ := Z01 ha j
  have ew := Z1D p0
  generalize hwn : (a.getD j 0).toNat = w at ew
  have w1 : w < 18446744073709551616 := zki.1 (ew ▸ p1)
  rw [ew, hg, Z7i hs' hc, Z4]
  have l1 := Z5E (w := w) hs' hc
  have e := (Z2P (w := w) (s := s) hs').2
  have key : ∀ d : Nat, d = w / 2 ^ (64 - s) → ZD.l0 k q s ((o.set (q + j) ((w * 2 ^ s % 18446744073709551616 + c : Nat) : Int)).set (q + j + 1) (d : Int)) a a.length ((j + 1 : Nat) : Int) = some (ofN (18446744073709551616 ^ q * (val a * 2 ^ s))) := by
   intro d hd
   have l2 : d < 2 ^ s := by rw [hd]; exact Z4H hs' w1
   refine ih (j + 1) k _ d i1 i2 i3 (by rw [zk9, zk9]; exact ho) (Z1V (Z1V hw _ (zk1 _) (zki.2 l1)) _ (zk1 _) (zki.2 (zkn l2 h2))) l2 ?_ ?_ ?_
   ·exact Nm.Z2B _ _ _ (by rw [zk9]; exact i4)
   ·intro i hi
    obtain ⟨z1, z2, z3⟩ := hz' i hi
    rw [Nm.Z1p _ _ _ _ z2, Nm.Z1p _ _ _ _ z3]
    exact hz i z1
   rw [← hd] at e
   have := Z05 ((o.set (q + j) ((w * 2 ^ s % 18446744073709551616 + c : Nat) : Int)).set (q + j + 1) (d : Int)) (q + j + 1) (by rw [zk9, zk9]; exact i4)
   rw [Z8z _ _ _ _ i4, Nm.Z2B _ _ _ (by rw [zk9]; exact i4), zk0] at this
   have e3 : q + (j + 1) = q + j + 1 := rfl
   rw [e3]
   rw [← this, ZU a, hwn, zkk, zkb]
   rw [zkb] at hv
   exact Z6m e hv
  by_cases h : (s : Int) > 0
  ·have hs64 : 64 - s ≤ 64 := by omega
   have e64 : wrap64 (64 - (s : Int)) = ((64 - s : Nat) : Int) := by rw [ZL Zo Zo]; omega
   rw [if_pos h, e64, if_pos (zk1 _), if_pos (zk1 _), if_pos g3, Z3e _ _ hs64]
   exact key _ rfl
  have : s = 0 := by omega
  rw [if_neg h]
  have k0 := key 0 (by subst this; rw [zkP (show w < 2 ^ (64 - 0) from w1)])
  have same : ((o.set (q + j) ((w * 2 ^ s % 18446744073709551616 + c : Nat) : Int)).set (q + j + 1) ((0 : Nat) : Int)) = o.set (q + j) ((w * 2 ^ s % 18446744073709551616 + c : Nat) : Int) := by
   have h0 := hz (q + j + 1) hq1
   refine List.ext_getElem (by simp) fun i g1 g2 => ?_
   by_cases hi : i = q + j + 1
   ·subst hi
    rw [List.getElem_set_self, List.getElem_set_ne Zo]
    rw [List.getD_eq_getElem?_getD, List.getElem?_eq_getElem i4] at h0
    exact h0.symm
   rw [List.getElem_set_ne Zo]
  rw [same] at k0
  exact k0
theorem Z8A {w w' s : Nat} (h0 : 0 < s) (hs : s < 64) (hw : w < 18446744073709551616) : Go.bits .or .u64 ((w / 2 ^ s : Nat) : Int) (shl .u64 (w' : Int) ((64 - s : Nat) : Int)) = ((w / 2 ^ s + 2 ^ (64 - s) * (w' % 2 ^ s) : Nat) : Int) := by
 have hc : w / 2 ^ s < 2 ^ (64 - s) := by
  rw [zkM (zkh Zd), zkl, Z1e (show s ≤ 64 by omega)]; exact hw
 rw [Z7i (show 64 - s ≤ 64 by omega) hc, (Z2P (w := w') (s := 64 - s) Zo).1]
 have e : 64 - (64 - s) = s := by omega
 rw [e, zkO]
theorem Z4M {w c s : Nat} (hs : s ≤ 64) (hw : w < 18446744073709551616) : w / 2 ^ s + 2 ^ (64 - s) * (c % 2 ^ s) < 18446744073709551616 := by
 have h1 : w / 2 ^ s < 2 ^ (64 - s) := by
  rw [zkM (zkh Zd), zkl, Z1e hs]; exact hw
 have h2 : c % 2 ^ s < 2 ^ s := zks _ (zkh Zd)
 have h3 := zky (2 ^ (64 - s)) h2
 rw [Nat.mul_succ, zkl _ (2 ^ s), Z1e hs] at h3
 omega
theorem Zea {w c s : Nat} (hs : s ≤ 64) : (w + 18446744073709551616 * c) % 2 ^ s = w % 2 ^ s := by
 rw [← Z1e hs, zkc, Nat.add_mul_mod_self_left]
theorem Zeb (l : List Int) {s : Nat} (hs : s ≤ 64) : val l % 2 ^ s = (l.getD 0 0).toNat % 2 ^ s := by
 cases l with
 | nil => simp [val]
 | cons w l => rw [Z24, Zea hs]; rfl
theorem Z5G (l : List Int) (q j : Nat) : (l.drop q).getD j 0 = l.getD (j + q) 0 := by
 rw [List.getD_eq_getElem?_getD, List.getD_eq_getElem?_getD, List.getElem?_drop, zkO]
theorem Z5H {a : List Int} (ha : Ws a) {q s : Nat} (hs : s < 64) (hq : q ≤ a.length) :
  val a / 2 ^ (64 * q + s) = val (a.drop q) / 2 ^ s ∧ (val a % 2 ^ (64 * q + s) ≠ 0 ↔ val (a.take q) ≠ 0 ∨ (a.getD q 0).toNat % 2 ^ s ≠ 0) := by
 have e : 2 ^ (64 * q + s) = 18446744073709551616 ^ q * 2 ^ s := by rw [zkb, zkK]
 have ht := Z2l ha q
 obtain ⟨h1, h2⟩ := Z9n (S := 2 ^ s) ht (Z1O a q hq)
 rw [e, h1, h2, Zeb _ Zo, Z5G, zkU]
 refine ⟨rfl, ?_⟩
 have hp := pow_pos q
 constructor
 ·intro h
  by_cases g : val (a.take q) = 0
  ·right; intro z; rw [g, z] at h; exact h rfl
  exact .inl g
 rintro (h | h)
 ·omega
 have : 0 < 18446744073709551616 ^ q * ((a.getD q 0).toNat % 2 ^ s) := zkz hp Zo
 omega
theorem ZcX {w s : Nat} (hs : s < 64) (hw : w < 18446744073709551616) : (Go.bits .and .u64 (w : Int) (IntKind.u64.wrap ((shl .u64 1 (s : Int)) - 1)) != 0) = decide (w % 2 ^ s ≠ 0) := by
 have h1 : shl .u64 1 (s : Int) = ((2 ^ s : Nat) : Int) := by
  have := Z4W 1 s Zo
  rw [Zk6, zkA (Zk1 Zd hs : 2 ^ s < 2 ^ 64)] at this
  exact this
 have h2 : 2 ^ s < 18446744073709551616 := (Zk1 Zd hs : 2 ^ s < 2 ^ 64)
 have h3 : 0 < 2 ^ s := zkh Zd
 have h4 : IntKind.u64.wrap (((2 ^ s : Nat) : Int) - 1) = ((2 ^ s - 1 : Nat) : Int) := by
  generalize 2 ^ s = p at *
  rw [IntKind.wrap_u64]; omega
 rw [h1, h4, u64_and_nat _ _ hw Zo, zkV]
 rw [zko]; simp only [bne_iff_ne, decide_eq_true_eq]
 generalize w % 2 ^ s = z; omega
theorem ZcY {w s : Nat} (h0 : 0 < s) (hs : s < 64) : ((shl .u64 (w : Int) ((64 - s : Nat) : Int)) != 0) = decide (w % 2 ^ s ≠ 0) := by
 rw [Z4W _ _ Zo, (Z2P (w := w) (s := 64 - s) Zo).1]
 have e : 64 - (64 - s) = s := by omega
 rw [e]
 have hp : 0 < 2 ^ (64 - s) := zkh Zd
 rw [zko]
 by_cases h : w % 2 ^ s = 0
 ·simp [h]
 have := zkz hp (show 0 < w % 2 ^ s by omega)
 simp only [bne_iff_ne, decide_eq_true_eq]
 constructor
 ·intro _; exact h
 intro _ g; omega
theorem Zec (a : List Int) (ha : Ws a) (q s : Nat) (hs : s < 64) (lost : Bool) (hq : q < a.length) (na : a.length < 1152921504606846976) (r : Nat) : ∀ (j k : Nat) (o : List Int), a.length - q - j = r → j ≤ a.length - q → r + a.length + 3 < k → o.length = a.length - q → Ws o →
  2 ^ s * val (o.take j) + (a.getD q 0).toNat % 2 ^ s = val ((a.drop q).take j) + 18446744073709551616 ^ j * ((a.getD (j + q) 0).toNat % 2 ^ s) →
  Zn.l1 k a q s lost o ((a.length - q : Nat) : Int) j = some (ofN (val (a.drop q) / 2 ^ s), lost) := by
 induction r with
 | zero =>
  intro j k o hr hj hk ho hw hv
  obtain ⟨k, rfl⟩ : ∃ m, k = m + 1 := ⟨k - 1, by omega⟩
  obtain rfl : j = a.length - q := by omega
  simp only [Zn.l1]
  rw [if_neg Zo, Z2D _ _ k rfl hw Zo Zo, Z4]
  rw [Z2C a (a.length - q + q) Zo, Zr o _ Zo, Zr (a.drop q) _ (by rw [zke]; omega)] at hv
  have h0 : (a.getD q 0).toNat % 2 ^ s < 2 ^ s := zks _ (zkh Zd)
  have := (Z7c h0 (show 2 ^ s * val o + (a.getD q 0).toNat % 2 ^ s = val (a.drop q) by rw [hv]; simp)).1
  rw [this]
 | succ r ih =>
  intro j k o hr hj hk ho hw hv
  obtain ⟨k, rfl⟩ : ∃ m, k = m + 1 := ⟨k - 1, by omega⟩
  have i1 : a.length - q - (j + 1) = r := by omega
  have i2 : j + 1 ≤ a.length - q := by omega
  have i3 : r + a.length + 3 < k := by omega
  have i4 : j < o.length := by omega
  have g1 : (j : Int) < ((a.length - q : Nat) : Int) := by omega
  have g2 : ((q + j : Nat) : Int) < (a.length : Int) := by omega
  have g3 : (j : Int) < (o.length : Int) := by omega
  have g4 : ((q + j + 1 : Nat) : Int) < (a.length : Int) ↔ q + j + 1 < a.length := by omega
  have b1 : j + q < 4611686018427387904 := by omega
  have b2 : q + j < 4611686018427387904 := by omega
  have b3 : j < 4611686018427387904 := by omega
  have hs' : s ≤ 64 := by omega
  have hs6 : 64 - s ≤ 64 := by omega
  have e1 : j + 1 + q = q + j + 1 := by omega
  have e2 : j + q = q + j := by omega
  have hsp : (s : Int) > 0 ↔ 0 < s := by omega
  have hs1 : -9223372036854775808 ≤ (64 : Int) - (s : Int) := by omega
  have hs2 : (64 : Int) - (s : Int) < 9223372036854775808 := by omega
  have hs3 : (64 : Int) - (s : Int) = ((64 - s : Nat) : Int) := by omega
  have hs0 : ¬ 0 < s → s = 0 := by omega
  have hge : ¬ q + j + 1 < a.length → a.length ≤ q + j + 1 := by omega
  simp only [Zn.l1]
  rw [if_pos g1, Z8y b1, if_pos (zk1 _), if_pos g2, if_pos (zk1 _), if_pos (zk1 _), if_pos g3, Z0d b2, Z0d b3, Z4]
  simp only [Z06, zk0]
  obtain ⟨p0, p1⟩ := Z01 ha (q + j)
  obtain ⟨p2, p3⟩ := Z01 ha (q + j + 1)
  have ew := Z1D p0
  have ew' := Z1D p2
  generalize hwn : (a.getD (q + j) 0).toNat = w at ew
  generalize hwn' : (a.getD (q + j + 1) 0).toNat = w' at ew'
  have w1 : w < 18446744073709551616 := zki.1 (ew ▸ p1)
  rw [ew, Z3e _ _ hs', Nm.Z2B _ _ _ i4, List.set_set]
  have key : ∀ v : Nat, v = w / 2 ^ s + 2 ^ (64 - s) * (w' % 2 ^ s) → Zn.l1 k a q s lost (o.set j (v : Int)) ((a.length - q : Nat) : Int) ((j + 1 : Nat) : Int) = some (ofN (val (a.drop q) / 2 ^ s), lost) := by
   intro v hv2
   have l1 : v < 18446744073709551616 := by rw [hv2]; exact Z4M hs' w1
   refine ih (j + 1) k _ i1 i2 i3 (by rw [zk9]; exact ho) (Z1V hw _ (zk1 _) (zki.2 l1)) ?_
   rw [Z0S o j _ i4, ZU, Z5G, e1, e2, hwn', hwn, zk0, zkk]
   rw [e2, hwn] at hv
   exact Z6j (Z1e hs') hv2 hv
  by_cases h : 0 < s
  ·rw [if_pos (hsp.2 h)]
   by_cases g : q + j + 1 < a.length
   ·rw [if_pos (g4.2 g), if_pos (zk1 _), ZL hs1 hs2, hs3, if_pos (zk1 _), ew', Z8A h hs w1]
    exact key _ rfl
   rw [if_neg (fun x => g (g4.1 x))]
   refine key _ ?_
   rw [Z2C a _ (hge g)] at hwn'
   have : w' = 0 := hwn'.symm
   rw [this]; simp
  have h00 := hs0 h
  rw [if_neg (fun x => h (hsp.1 x))]
  refine key _ ?_
  rw [h00]; simp [Nat.mod_one]
theorem Z7G {x : Int} (h : 0 ≤ x) : (x != 0) = decide (x.toNat ≠ 0) := by rw [zko]; simp; omega
theorem Z9s (lost : Bool) (a b : Nat) : (lost || decide (a + 18446744073709551616 * b ≠ 0)) = ((lost || decide (a ≠ 0)) || decide (b ≠ 0)) := by
 rw [zko]
 cases lost <;> simp
 omega
theorem Zed (a : List Int) (ha : Ws a) (q s : Nat) (hs : s < 64) (hq : q < a.length) (na : a.length < 35184372088832) (r : Nat) : ∀ (j k : Nat) (lost : Bool), q - j = r → j ≤ q → r + 2 * a.length + 5 < k →
  Zn.l0 k a q s lost (a.take q) q j = some (ofN (val (a.drop q) / 2 ^ s), lost || decide (val ((a.take q).drop j) ≠ 0)) := by
 have hl : (a.take q).length = q := by rw [zk8]; omega
 induction r with
 | zero =>
  intro j k lost hr hj hk
  obtain ⟨k, rfl⟩ : ∃ m, k = m + 1 := ⟨k - 1, by omega⟩
  obtain rfl : j = q := by omega
  have e : wrap64 ((a.length : Int) - (j : Int)) = ((a.length - j : Nat) : Int) := by rw [ZL Zo Zo]; omega
  have hv : val ((a.take j).drop j) = 0 := by
   rw [Zk7 Zo]; rfl
  have := Zec a ha j s hs lost hq Zo _ 0 k (List.replicate (a.length - j) 0) rfl Zo Zo (by simp) (Z0Y _) (by simp [val])
  simp only [Zn.l0]
  rw [e, if_neg Zo, if_pos Zo, if_pos (by rw [zk0]; omega), Z4, zk0, List.length_replicate, hv]
  simpa using this
 | succ r ih =>
  intro j k lost hr hj hk
  obtain ⟨k, rfl⟩ : ∃ m, k = m + 1 := ⟨k - 1, by omega⟩
  have b3 : j < 4611686018427387904 := by omega
  have hd := Z2S (a.take q) j Zo
  obtain ⟨p0, p1⟩ := Z01 (Z2X ha q) j
  have i1 : q - (j + 1) = r := by omega
  have i2 : j + 1 ≤ q := by omega
  have i3 : r + 2 * a.length + 5 < k := by omega
  simp only [Zn.l0]
  rw [if_pos Zo, if_pos Zo, if_pos Zo, Z0d b3, Z06, ih _ k _ i1 i2 i3, ih _ k _ i1 i2 i3, hd, Z9s, Z7G p0]
  cases lost <;> simp
theorem Z9t (a : List Int) (n k : Nat) (ha : Ws a) (hn : n < 9223372036854775808) (na : a.length < 35184372088832) (hz : val a = 0 → a = []) (hk : 3 * a.length + 10 < k) :
  Zn.f k a n = some (ofN (val a / 2 ^ n), decide (val a % 2 ^ n ≠ 0)) := by
 unfold Zn.f
 have e1 : wrap64 (Int.tdiv (n : Int) 64) = ((n / 64 : Nat) : Int) := by
  rw [zkr Zo, ZL Zo Zo]; omega
 have e2 : Int.tmod (n : Int) 64 = ((n % 64 : Nat) : Int) := by
  rw [zkt Zo]; omega
 have en : n = 64 * (n / 64) + n % 64 := by omega
 have hs : n % 64 < 64 := by omega
 rw [e1, e2]
 generalize n / 64 = q at *
 generalize n % 64 = s at *
 by_cases h : a.length ≤ q
 ·rw [if_pos Zo]
  have h1 : val a < 2 ^ n := by
   refine zkn (Z1M ha) ?_
   have e : 18446744073709551616 ^ a.length = 2 ^ (64 * a.length) := by rw [zkK]
   rw [e]; exact zkj Zd Zo
  rw [zkP h1, zkA h1, Z0e]
  congr 2
  rw [decide_eq_decide]
  constructor
  ·intro g z; rw [hz z] at g; simp at g
  intro g
  have : a ≠ [] := fun z => g (by rw [z]; rfl)
  have := List.length_pos_iff.2 this
  omega
 have c1 : ¬ ((q : Int) ≥ (a.length : Int)) := by omega
 have c2 : (q : Int) < (a.length : Int) := by omega
 have c3 : (q : Int) ≤ (a.length : Int) := by omega
 have c4 : max (q : Int) 0 = (q : Int) := by omega
 have c5 : q < a.length := by omega
 have c6 : q + 2 * a.length + 5 < k := by omega
 rw [if_neg c1, if_pos (zk1 _), if_pos c2, if_pos (zk1 _), if_pos c3, c4, Z06, zk0]
 obtain ⟨p0, p1⟩ := Z01 ha q
 have ew := Z1D p0
 obtain ⟨h1, h2⟩ := Z5H ha hs (zkG c5)
 generalize hwn : (a.getD q 0).toNat = w at *
 have w1 : w < 18446744073709551616 := zki.1 (ew ▸ p1)
 rw [ew, ZcX hs w1]
 have := Zed a ha q s hs c5 na _ 0 k (decide (w % 2 ^ s ≠ 0)) rfl (zkD _) c6
 rw [Zk9] at this
 rw [en, h1]
 refine this.trans ?_
 congr 2
 rw [zko, Zkd, decide_eq_true_eq, decide_eq_true_eq, decide_eq_true_eq, h2, Or.comm]
theorem Zbs (w : Nat) : ∀ (m k : Nat), w < 18446744073709551616 → m + bl w < 4611686018427387904 → bl w < k → Z0G.l0 k m w = some ((m + bl w : Nat) : Int) := by
 induction w using Nat.strongRecOn with
 | _ w ih =>
  intro m k hw hm hk
  obtain ⟨k, rfl⟩ : ∃ z, k = z + 1 := ⟨k - 1, by omega⟩
  simp only [Z0G.l0]
  by_cases h : w = 0
  ·subst h; rw [if_neg Zo, Z2q]; rfl
  rw [Z8n h] at hm hk ⊢
  have e : IntKind.u64.wrap (Int.tdiv (w : Int) 2) = ((w / 2 : Nat) : Int) := by
   rw [zkr Zo, Z3X Zo Zo]; omega
  rw [if_pos Zo, Z0d Zo, e, ih (w / 2) Zo (m + 1) k Zo Zo Zo]
  congr 2; omega
theorem Z4i {w : Nat} (h : w < 18446744073709551616) : bl w ≤ 64 := Z0D.2 h
theorem ZcZ {v : Nat} (h : v ≠ 0) : ∃ m t w : Nat, (ofN v).length = m + 1 ∧ v = t + 18446744073709551616 ^ m * w ∧ t < 18446744073709551616 ^ m ∧ w ≠ 0 ∧ w < 18446744073709551616 ∧ (ofN v).getD m 0 = (w : Int) := by
 have hl : ofN v ≠ [] := fun z => h (Z4U.1 z)
 have hp := List.length_pos_iff.2 hl
 obtain ⟨m, hm⟩ : ∃ m, (ofN v).length = m + 1 := ⟨(ofN v).length - 1, by omega⟩
 have hv := Z05 (ofN v) m Zo
 rw [Zr _ _ Zo, Ze] at hv
 obtain ⟨p0, p1⟩ := Z01 (ZE v) m
 have ht := Z2l (ZE v) m
 refine ⟨m, _, ((ofN v).getD m 0).toNat, hm, hv, ht, ?_, by omega, by omega⟩
 intro z
 rw [z, Zk3, zkB] at hv
 have := (Z0N v m).2 Zo
 omega
theorem Z6F {v : Nat} (h : v ≠ 0) : ∃ m w : Nat, (ofN v).length = m + 1 ∧ bl v = 64 * m + bl w ∧ w ≠ 0 ∧ w < 18446744073709551616 ∧ (ofN v).getD m 0 = (w : Int) := by
 obtain ⟨m, t, w, h1, h2, h3, h4, h5, h6⟩ := ZcZ h
 refine ⟨m, w, h1, ?_, h4, h5, h6⟩
 rw [h2, Zfl h3 h4]
theorem Z9u (a : List Int) (k : Nat) (ha : Ws a) (na : a.length < 17592186044000) (hk : a.length + 100 < k) : Z0G.f k a = some ((bl (val a) : Nat) : Int) := by
 unfold Z0G.f
 have hlen : (ofN (val a)).length ≤ a.length := (Z0N _ _).2 (Z1M ha)
 rw [Z3v a k ha Zo Zo, Z4]
 by_cases h : val a = 0
 ·rw [h, Z0e, Z2q]; rfl
 obtain ⟨m, w, h1, h2, h3, h4, h5⟩ := Z6F h
 have hb := Z4i h4
 have e1 : wrap64 (((ofN (val a)).length : Int) - 1) = (m : Int) := by rw [ZL Zo Zo]; omega
 have e2 : wrap64 (64 * (m : Int)) = ((64 * m : Nat) : Int) := by rw [ZL Zo Zo]; omega
 have hk2 : bl w < k := by omega
 have hm : 64 * m + bl w < 4611686018427387904 := by omega
 rw [if_neg Zo, e1, e2, if_pos Zo, if_pos Zo, Z06, h5, Zbs w _ k h4 hm hk2, h2]
theorem Zee (a : List Int) (ha : Ws a) (q s : Nat) (n : Int) (hn : wrap64 (Int.tdiv n 64) = (q : Int)) (hs : s < 64) (lost : Bool) (hq : q < a.length) (na : a.length < 17592186044000) (r : Nat) : ∀ (j k : Nat) (o : List Int), a.length - q - j = r → j ≤ a.length - q → r + a.length + 3 < k → o.length = j → Ws o →
  2 ^ s * val o + (a.getD q 0).toNat % 2 ^ s = val ((a.drop q).take j) + 18446744073709551616 ^ j * ((a.getD (j + q) 0).toNat % 2 ^ s) →
  ZW.l1 k a n lost s o ((j + q : Nat) : Int) = some (ofN (val (a.drop q) / 2 ^ s), lost || decide ((a.getD q 0).toNat % 2 ^ s ≠ 0)) := by
 induction r with
 | zero =>
  intro j k o hr hj hk ho hw hv
  obtain ⟨k, rfl⟩ : ∃ m, k = m + 1 := ⟨k - 1, by omega⟩
  obtain rfl : j = a.length - q := by omega
  have f1 := Z3v o k hw Zo Zo
  have c1 : ¬ (((a.length - q + q : Nat) : Int) < (a.length : Int)) := by omega
  have c2 : (q : Int) < (a.length : Int) := by omega
  have hsp : (s : Int) > 0 ↔ 0 < s := by omega
  have hs3 : IntKind.u64.wrap (64 - (s : Int)) = ((64 - s : Nat) : Int) := by rw [IntKind.wrap_u64]; omega
  have hs0 : ¬ 0 < s → s = 0 := by omega
  rw [Z2C a (a.length - q + q) Zo, Zr (a.drop q) _ (by rw [zke]; omega)] at hv
  have h0 : (a.getD q 0).toNat % 2 ^ s < 2 ^ s := zks _ (zkh Zd)
  have h1 := (Z7c h0 (show 2 ^ s * val o + (a.getD q 0).toNat % 2 ^ s = val (a.drop q) by rw [hv]; simp)).1
  simp only [ZW.l1]
  rw [if_neg c1, hn, hs3, if_pos (zk1 _), if_pos c2, if_pos (zk1 _), f1, Z4, Z4, Z4, h1, Z06]
  by_cases h : 0 < s
  ·rw [if_pos (hsp.2 h)]
   obtain ⟨p0, p1⟩ := Z01 ha q
   have ew := Z1D p0
   generalize hwn : (a.getD q 0).toNat = w at *
   rw [ew, ZcY h hs]
   cases lost <;> simp
  rw [if_neg (fun x => h (hsp.1 x)), hs0 h]
  simp [Nat.mod_one]
 | succ r ih =>
  intro j k o hr hj hk ho hw hv
  obtain ⟨k, rfl⟩ : ∃ m, k = m + 1 := ⟨k - 1, by omega⟩
  have i1 : a.length - q - (j + 1) = r := by omega
  have i2 : j + 1 ≤ a.length - q := by omega
  have i3 : r + a.length + 3 < k := by omega
  have i4 : o.length < 17592186044416 := by omega
  have g2 : ((j + q : Nat) : Int) < (a.length : Int) := by omega
  have b2 : j + q < 4611686018427387904 := by omega
  have hs' : s ≤ 64 := by omega
  have hs6 : 64 - s ≤ 64 := by omega
  have e1 : j + 1 + q = j + q + 1 := by omega
  have hsp : (s : Int) > 0 ↔ 0 < s := by omega
  have hs3 : IntKind.u64.wrap (64 - (s : Int)) = ((64 - s : Nat) : Int) := by rw [IntKind.wrap_u64]; omega
  have hs0 : ¬ 0 < s → s = 0 := by omega
  simp only [ZW.l1]
  rw [if_pos g2, if_pos (zk1 _), if_pos (zk1 _), Z0d b2, Z3z, Z4, hs3, if_pos (zk1 _)]
  simp only [Z06]
  obtain ⟨p0, p1⟩ := Z01 ha (j + q)
  obtain ⟨p2, p3⟩ := Z01 ha (j + q + 1)
  have ew := Z1D p0
  have ew' := Z1D p2
  generalize hwn : (a.getD (j + q) 0).toNat = w at ew
  generalize hwn' : (a.getD (j + q + 1) 0).toNat = w' at ew'
  have w1 : w < 18446744073709551616 := zki.1 (ew ▸ p1)
  rw [ew, Z3e _ _ hs', ew']
  have key : ∀ v : Nat, v = w / 2 ^ s + 2 ^ (64 - s) * (w' % 2 ^ s) → ZW.l1 k a n lost s (o ++ [(v : Int)]) ((j + q + 1 : Nat) : Int) = some (ofN (val (a.drop q) / 2 ^ s), lost || decide ((a.getD q 0).toNat % 2 ^ s ≠ 0)) := by
   intro v hv2
   have l1 : v < 18446744073709551616 := by rw [hv2]; exact Z4M hs' w1
   rw [← e1]
   refine ih (j + 1) k _ i1 i2 i3 (by rw [zkW, ho]; rfl) (Z2O.2 ⟨hw, Z2c.2 ⟨⟨zk1 _, zki.2 l1⟩, Z2d⟩⟩) ?_
   rw [Z3N, ho, ZU, Z5G, e1, hwn', hwn, zk0, zkk]
   rw [hwn] at hv
   exact Z6j (Z1e hs') hv2 hv
  by_cases h : 0 < s
  ·rw [if_pos (hsp.2 h), if_pos i4, Z8A h hs w1]
   exact key _ rfl
  have h00 := hs0 h
  rw [if_neg (fun x => h (hsp.1 x)), if_pos i4]
  refine key _ ?_
  rw [h00]; simp [Nat.mod_one]
theorem Zef (a : List Int) (ha : Ws a) (q s : Nat) (n : Int) (hn : wrap64 (Int.tdiv n 64) = (q : Int)) (hm : IntKind.u64.wrap (Int.tmod n 64) = (s : Int)) (hs : s < 64) (hq : q < a.length) (na : a.length < 17592186044000) (r : Nat) : ∀ (j k : Nat) (lost : Bool), q - j = r → j ≤ q → r + 2 * a.length + 5 < k →
  ZW.l0 k a n lost (a.take q) q j = some (ofN (val (a.drop q) / 2 ^ s), (lost || decide (val ((a.take q).drop j) ≠ 0)) || decide ((a.getD q 0).toNat % 2 ^ s ≠ 0)) := by
 have hl : (a.take q).length = q := by rw [zk8]; omega
 induction r with
 | zero =>
  intro j k lost hr hj hk
  obtain ⟨k, rfl⟩ : ∃ m, k = m + 1 := ⟨k - 1, by omega⟩
  obtain rfl : j = q := by omega
  have c1 : ¬ ((j : Int) < (j : Int)) := by omega
  have hv : val ((a.take j).drop j) = 0 := by
   rw [Zk7 Zo]; rfl
  have := Zee a ha j s n hn hs lost hq na _ 0 k [] rfl Zo Zo rfl Z2d (by simp [val])
  simp only [ZW.l0]
  rw [if_neg c1, hm, hn, hv]
  simpa using this
 | succ r ih =>
  intro j k lost hr hj hk
  obtain ⟨k, rfl⟩ : ∃ m, k = m + 1 := ⟨k - 1, by omega⟩
  have b3 : j < 4611686018427387904 := by omega
  have hd := Z2S (a.take q) j Zo
  obtain ⟨p0, p1⟩ := Z01 (Z2X ha q) j
  have i1 : q - (j + 1) = r := by omega
  have i2 : j + 1 ≤ q := by omega
  have i3 : r + 2 * a.length + 5 < k := by omega
  have c1 : (j : Int) < (q : Int) := by omega
  have c2 : (j : Int) < ((a.take q).length : Int) := by omega
  simp only [ZW.l0]
  rw [if_pos c1, if_pos (zk1 _), if_pos c2, Z0d b3, Z06, ih _ k _ i1 i2 i3, ih _ k _ i1 i2 i3, hd, Z9s, Z7G p0]
  cases lost <;> simp
theorem Zeg (a : List Int) (n k : Nat) (ha : Ws a) (hn : n < 9223372036854775808) (na : a.length < 17592186044000) (hk : 3 * a.length + 200 < k) :
  ZW.f k a n = some (ofN (val a / 2 ^ n), decide (val a % 2 ^ n ≠ 0)) := by
 unfold ZW.f
 have e1 : wrap64 (Int.tdiv (n : Int) 64) = ((n / 64 : Nat) : Int) := by
  rw [zkr Zo, ZL Zo Zo]; omega
 have e2 : IntKind.u64.wrap (Int.tmod (n : Int) 64) = ((n % 64 : Nat) : Int) := by
  rw [zkt Zo, IntKind.wrap_u64]; omega
 have e3 : wrap64 (64 * (a.length : Int)) = ((64 * a.length : Nat) : Int) := by rw [ZL Zo Zo]; omega
 by_cases h : 64 * a.length ≤ n
 ·rw [e3, if_pos Zo, Z9u a k ha na Zo, Z4]
  have h1 : val a < 2 ^ n := by
   refine zkn (Z1M ha) ?_
   have e : 18446744073709551616 ^ a.length = 2 ^ (64 * a.length) := by rw [zkK]
   rw [e]; exact zkj Zd h
  rw [zkP h1, zkA h1, Z0e]
  congr 2
  rw [decide_eq_decide]
  have := Zag (n := val a)
  omega
 have c1 : ¬ ((n : Int) ≥ ((64 * a.length : Nat) : Int)) := by omega
 have en : n = 64 * (n / 64) + n % 64 := by omega
 have hs : n % 64 < 64 := by omega
 have c5 : n / 64 < a.length := by omega
 have c3 : ((n / 64 : Nat) : Int) ≤ (a.length : Int) := by omega
 have c4 : max ((n / 64 : Nat) : Int) 0 = ((n / 64 : Nat) : Int) := by omega
 have c6 : n / 64 + 2 * a.length + 5 < k := by omega
 have := Zef a ha (n / 64) (n % 64) n e1 e2 hs c5 na _ 0 k false rfl (zkD _) c6
 obtain ⟨h1, h2⟩ := Z5H ha hs (zkG c5)
 rw [← en] at h1 h2
 rw [e3, if_neg c1, e1, if_pos (zk1 _), if_pos c3, c4, zk0, h1]
 refine this.trans ?_
 rw [Zk9]
 congr 2
 rw [zko, Zkd, Zkb, decide_eq_true_eq, decide_eq_true_eq, decide_eq_true_eq, h2]
theorem Z3O (n i : Nat) : (List.replicate n (0 : Int)).getD i 0 = 0 := by
 rw [List.getD_eq_getElem?_getD, List.getElem?_replicate]; split <;> rfl
theorem Z4X (a : List Int) (n k : Nat) (ha : Ws a) (hn : n < 4611686018427387904) (h0 : a ≠ []) (na : a.length + n / 64 < 35184372088000) (hk : 2 * a.length + n / 64 + 10 < k) : ZD.f k a n = some (ofN (val a * 2 ^ n)) := by
 unfold ZD.f
 have e1 : wrap64 (Int.tdiv (n : Int) 64) = ((n / 64 : Nat) : Int) := by
  rw [zkr Zo, ZL Zo Zo]; omega
 have e2 : Int.tmod (n : Int) 64 = ((n % 64 : Nat) : Int) := by
  rw [zkt Zo]; omega
 have hl := List.length_pos_iff.2 h0
 have e3 : wrap64 ((wrap64 ((a.length : Int) + ((n / 64 : Nat) : Int))) + 1) = ((a.length + n / 64 + 1 : Nat) : Int) := by
  rw [ZL (x := (a.length : Int) + ((n / 64 : Nat) : Int)) Zo Zo, ZL Zo Zo]; omega
 have c1 : ((a.length + n / 64 + 1 : Nat) : Int).toNat ≤ 35184372088832 := by rw [zk0]; omega
 have c2 : ¬ ((a.length : Int) = 0) := by omega
 have := ZcW a ha (n / 64) (n % 64) Zo na _ 0 k (List.replicate (a.length + n / 64 + 1) 0) 0 rfl Zo Zo (by simp) (Z0Y _) (zkh Zd) (by rw [Z3O]; rfl) (fun i _ => Z3O _ _) (by simp [Z2M, val])
 rw [if_neg c2, e1, e2, e3, if_pos (zk1 _), if_pos c1, zk0, Z5F n, zkT]
 exact this
def Z4u (v : Nat) (n : Int) : List Int × Int := if v < big then (if n < 0 then ([], 2) else if v = 0 then ([], 0) else if bl v + n.toNat ≤ 65536 then (ofN (v * 2 ^ n.toNat), 0) else ([], 3)) else ([], 3)
def Z8B (v : Nat) (n : Int) : List Int × Bool × Int := if v < big then (if n < 0 then ([], false, 2) else (ofN (v / 2 ^ n.toNat), decide (v % 2 ^ n.toNat ≠ 0), 0)) else ([], false, 3)
theorem Z1f {v : Nat} : (ofN v).length = 0 ↔ v = 0 := by rw [List.length_eq_zero_iff, Z4U]
theorem Z5I (a : List Int) (n : Int) (k : Nat) (ha : Ws a) (na : a.length < 17592186044000) (hk : 4 * a.length + 10000 < k) : Z2b.f k a n = some (Z4u (val a) n) := by
 unfold Z2b.f Z4u
 rw [Z42 a k ha Zo Zo, Z4]
 by_cases h : val a < big
 ·have hl := Z0X h
  simp only [if_pos h]
  rw [if_pos trivial]
  by_cases g : n < 0
  ·rw [if_pos g, if_pos g]
  obtain ⟨m, rfl⟩ : ∃ m : Nat, n = (m : Int) := ⟨n.toNat, by omega⟩
  rw [if_neg g, if_neg g, zk0]
  by_cases z : val a = 0
  ·have z' := Z1f.2 z
   rw [if_pos z, if_pos Zo]
  have z' : (ofN (val a)).length ≠ 0 := fun x => z (Z1f.1 x)
  have hb := Z3W z
  rw [if_neg z, if_neg Zo]
  by_cases w : bl (val a) + m ≤ 65536
  ·have hm : m / 64 ≤ 1024 := by omega
   have hr := (Z9m z).2 w
   rw [if_pos w, if_neg Zo, Z4X _ _ _ (ZE _) Zo (fun x => z' (by rw [x]; rfl)) Zo Zo, Z4, Ze, Z5C, Z4, if_pos hr]
  rw [if_neg w]
  by_cases u : (m : Int) > 65536
  ·rw [if_pos u]
  have hm : m / 64 ≤ 1024 := by omega
  have hr : ¬ val a * 2 ^ m < big := fun x => w ((Z9m z).1 x)
  rw [if_neg u, Z4X _ _ _ (ZE _) Zo (fun x => z' (by rw [x]; rfl)) Zo Zo, Z4, Ze, Z5C, Z4, if_neg hr]
 simp only [if_neg h]
 rw [if_neg Zd]
theorem Zbt (a : List Int) (n : Int) (k : Nat) (ha : Ws a) (hn : n < 9223372036854775808) (na : a.length < 17592186044000) (hk : 4 * a.length + 10000 < k) : Z2L.f k a n = some (Z8B (val a) n) := by
 unfold Z2L.f Z8B
 rw [Z42 a k ha Zo Zo, Z4]
 by_cases h : val a < big
 ·have hl := Z0X h
  simp only [if_pos h]
  rw [if_pos trivial]
  by_cases g : n < 0
  ·rw [if_pos g, if_pos g]
  obtain ⟨m, rfl⟩ : ∃ m : Nat, n = (m : Int) := ⟨n.toNat, by omega⟩
  have hd : (ofN (val a / 2 ^ m)).length ≤ 1024 := Z0X (zkq (zkI _ _) h)
  rw [if_neg g, if_neg g, zk0, Z9t _ _ _ (ZE _) Zo Zo (fun x => by rw [Ze] at x; exact Z4U.2 x) Zo, Z4, Ze]
  have ho := Z3p (ofN (val a / 2 ^ m)) Zo
  dsimp only
  rw [ho, Z4]
 simp only [if_neg h]
 rw [if_neg Zd]
theorem Z6G {w : Nat} (hw : w < 18446744073709551616) : Go.bits .and .u64 (w : Int) 4294967295 = ((w % 4294967296 : Nat) : Int) := by
 have h := u64_and_nat w 4294967295 hw Zd
 have e : w &&& 4294967295 = w % 4294967296 := zkV w 32
 rw [e] at h; exact h
theorem Z2V {x : Nat} (h : x < 18446744073709551616) : IntKind.u64.wrap (x : Int) = (x : Int) := Z3X Zo Zo
theorem Z4v (x n : Nat) : (x : Int) / (n : Int) = ((x / n : Nat) : Int) := (Int.natCast_ediv x n).symm
theorem ZdA (x n : Nat) : Int.tmod (x : Int) (n : Int) = ((x % n : Nat) : Int) := (Int.ofNat_tmod x n).symm
theorem Z80 (x n : Nat) : Int.tdiv (x : Int) (n : Int) = ((x / n : Nat) : Int) := (Int.ofNat_tdiv x n).symm
theorem Zbu {p00 p10 p01 p11 v : Nat} (h : v = 18446744073709551616 * p11 + 4294967296 * p10 + 4294967296 * p01 + p00) : v / 18446744073709551616 = p11 + (p10 + p00 / 4294967296) / 4294967296 + ((p10 + p00 / 4294967296) % 4294967296 + p01) / 4294967296 := by omega
theorem Z5f (x y : Nat) (hx : x < 18446744073709551616) (hy : y < 18446744073709551616) : Z1S.f x y = some (((x * y / 18446744073709551616 : Nat) : Int), ((x * y % 18446744073709551616 : Nat) : Int)) := by
 unfold Z1S.f
 have c1 : (x : Int) / 4294967296 = ((x / 4294967296 : Nat) : Int) := Z4v x 4294967296
 have c2 : (y : Int) / 4294967296 = ((y / 4294967296 : Nat) : Int) := Z4v y 4294967296
 have hh := Zbu (Zfr x y)
 have b1 : x / 4294967296 < 4294967296 := by omega
 have b2 : y / 4294967296 < 4294967296 := by omega
 have b3 : x % 4294967296 < 4294967296 := by omega
 have b4 : y % 4294967296 < 4294967296 := by omega
 have p1 := Z4V b1 b2
 have p2 := Z4V b1 b4
 have p3 := Z4V b3 b2
 have p4 := Z4V b3 b4
 rw [Z6G hx, Z6G hy, c1, c2]
 simp only [← zkE]
 generalize x / 4294967296 * (y / 4294967296) = p11 at *
 generalize x / 4294967296 * (y % 4294967296) = p10 at *
 generalize x % 4294967296 * (y / 4294967296) = p01 at *
 generalize x % 4294967296 * (y % 4294967296) = p00 at *
 have d1 : ((p00 : Nat) : Int) / 4294967296 = ((p00 / 4294967296 : Nat) : Int) := Z4v _ 4294967296
 have e2 : IntKind.u64.wrap ((p10 : Int) + ((p00 / 4294967296 : Nat) : Int)) = ((p10 + p00 / 4294967296 : Nat) : Int) := by rw [← zkL]; exact Z2V Zo
 rw [Z2V (show p11 < 18446744073709551616 by omega), Z2V (show p10 < 18446744073709551616 by omega), Z2V (show p01 < 18446744073709551616 by omega), Z2V (show p00 < 18446744073709551616 by omega), d1, e2, Z6G Zo]
 have d2 : ((p10 + p00 / 4294967296 : Nat) : Int) / 4294967296 = (((p10 + p00 / 4294967296) / 4294967296 : Nat) : Int) := Z4v _ 4294967296
 rw [d2, ← zkL, ← zkL, Z2V (show (p10 + p00 / 4294967296) % 4294967296 + p01 < 18446744073709551616 by omega)]
 have d3 : (((p10 + p00 / 4294967296) % 4294967296 + p01 : Nat) : Int) / 4294967296 = ((((p10 + p00 / 4294967296) % 4294967296 + p01) / 4294967296 : Nat) : Int) := Z4v _ 4294967296
 have hb := Ze7 hx hy
 have hs : p11 + (p10 + p00 / 4294967296) / 4294967296 < 18446744073709551616 := by omega
 rw [d3, Z2V hs, ← zkL, ← hh, Z2V hb, IntKind.wrap_u64]
 rfl
theorem Zd0 : ∀ i : Fin 256, (i.val = 0 ∧ bt (⟨#[0, 1, 2, 2, 3, 3, 3, 3, 4, 4, 4, 4, 4, 4, 4, 4, 5, 5, 5, 5, 5, 5, 5, 5, 5, 5, 5, 5, 5, 5, 5, 5, 6, 6, 6, 6, 6, 6, 6, 6, 6, 6, 6, 6, 6, 6, 6, 6, 6, 6, 6, 6, 6, 6, 6, 6, 6, 6, 6, 6, 6, 6, 6, 6, 7, 7, 7, 7, 7, 7, 7, 7, 7, 7, 7, 7, 7, 7, 7, 7, 7, 7, 7, 7, 7, 7, 7, 7, 7, 7, 7, 7, 7, 7, 7, 7, 7, 7, 7, 7, 7, 7, 7, 7, 7, 7, 7, 7, 7, 7, 7, 7, 7, 7, 7, 7, 7, 7, 7, 7, 7, 7, 7, 7, 7, 7, 7, 7, 8, 8, 8, 8, 8, 8, 8, 8, 8, 8, 8, 8, 8, 8, 8, 8, 8, 8, 8, 8, 8, 8, 8, 8, 8, 8, 8, 8, 8, 8, 8, 8, 8, 8, 8, 8, 8, 8, 8, 8, 8, 8, 8, 8, 8, 8, 8, 8, 8, 8, 8, 8, 8, 8, 8, 8, 8, 8, 8, 8, 8, 8, 8, 8, 8, 8, 8, 8, 8, 8, 8, 8, 8, 8, 8, 8, 8, 8, 8, 8, 8, 8, 8, 8, 8, 8, 8, 8, 8, 8, 8, 8, 8, 8, 8, 8, 8, 8, 8, 8, 8, 8, 8, 8, 8, 8, 8, 8, 8, 8, 8, 8, 8, 8, 8, 8, 8, 8, 8, 8, 8, 8, 8, 8, 8, 8, 8, 8]⟩ : ByteArray) (i.val : Int) = 0) ∨
  ∃ t : Fin 8, 2 ^ t.val ≤ i.val ∧ i.val < 2 ^ (t.val + 1) ∧ bt (⟨#[0, 1, 2, 2, 3, 3, 3, 3, 4, 4, 4, 4, 4, 4, 4, 4, 5, 5, 5, 5, 5, 5, 5, 5, 5, 5, 5, 5, 5, 5, 5, 5, 6, 6, 6, 6, 6, 6, 6, 6, 6, 6, 6, 6, 6, 6, 6, 6, 6, 6, 6, 6, 6, 6, 6, 6, 6, 6, 6, 6, 6, 6, 6, 6, 7, 7, 7, 7, 7, 7, 7, 7, 7, 7, 7, 7, 7, 7, 7, 7, 7, 7, 7, 7, 7, 7, 7, 7, 7, 7, 7, 7, 7, 7, 7, 7, 7, 7, 7, 7, 7, 7, 7, 7, 7, 7, 7, 7, 7, 7, 7, 7, 7, 7, 7, 7, 7, 7, 7, 7, 7, 7, 7, 7, 7, 7, 7, 7, 8, 8, 8, 8, 8, 8, 8, 8, 8, 8, 8, 8, 8, 8, 8, 8, 8, 8, 8, 8, 8, 8, 8, 8, 8, 8, 8, 8, 8, 8, 8, 8, 8, 8, 8, 8, 8, 8, 8, 8, 8, 8, 8, 8, 8, 8, 8, 8, 8, 8, 8, 8, 8, 8, 8, 8, 8, 8, 8, 8, 8, 8, 8, 8, 8, 8, 8, 8, 8, 8, 8, 8, 8, 8, 8, 8, 8, 8, 8, 8, 8, 8, 8, 8, 8, 8, 8, 8, 8, 8, 8, 8, 8, 8, 8, 8, 8, 8, 8, 8, 8, 8, 8, 8, 8, 8, 8, 8, 8, 8, 8, 8, 8, 8, 8, 8, 8, 8, 8, 8, 8, 8, 8, 8, 8, 8, 8, 8]⟩ : ByteArray) (i.val : Int) = ((t.val + 1 : Nat) : Int) := by decide +kernel
def Zgv : ByteArray := ⟨#[0, 1, 2, 2, 3, 3, 3, 3, 4, 4, 4, 4, 4, 4, 4, 4, 5, 5, 5, 5, 5, 5, 5, 5, 5, 5, 5, 5, 5, 5, 5, 5, 6, 6, 6, 6, 6, 6, 6, 6, 6, 6, 6, 6, 6, 6, 6, 6, 6, 6, 6, 6, 6, 6, 6, 6, 6, 6, 6, 6, 6, 6, 6, 6, 7, 7, 7, 7, 7, 7, 7, 7, 7, 7, 7, 7, 7, 7, 7, 7, 7, 7, 7, 7, 7, 7, 7, 7, 7, 7, 7, 7, 7, 7, 7, 7, 7, 7, 7, 7, 7, 7, 7, 7, 7, 7, 7, 7, 7, 7, 7, 7, 7, 7, 7, 7, 7, 7, 7, 7, 7, 7, 7, 7, 7, 7, 7, 7, 8, 8, 8, 8, 8, 8, 8, 8, 8, 8, 8, 8, 8, 8, 8, 8, 8, 8, 8, 8, 8, 8, 8, 8, 8, 8, 8, 8, 8, 8, 8, 8, 8, 8, 8, 8, 8, 8, 8, 8, 8, 8, 8, 8, 8, 8, 8, 8, 8, 8, 8, 8, 8, 8, 8, 8, 8, 8, 8, 8, 8, 8, 8, 8, 8, 8, 8, 8, 8, 8, 8, 8, 8, 8, 8, 8, 8, 8, 8, 8, 8, 8, 8, 8, 8, 8, 8, 8, 8, 8, 8, 8, 8, 8, 8, 8, 8, 8, 8, 8, 8, 8, 8, 8, 8, 8, 8, 8, 8, 8, 8, 8, 8, 8, 8, 8, 8, 8, 8, 8, 8, 8, 8, 8, 8, 8, 8, 8]⟩
theorem Zeh (i : Nat) (h : i < 256) : bt Zgv (i : Int) = (bl i : Int) := by
 rcases Zd0 ⟨i, h⟩ with ⟨h1, h2⟩ | ⟨t, h1, h2, h3⟩
 ·have h1' : i = 0 := h1
  subst h1'
  rw [Z2q]; exact h2
 rw [Z27 h1 h2]; exact h3
theorem Z5g {w t : Nat} (h : 2 ^ t ≤ w) : bl w = bl (w / 2 ^ t) + t := by
 have hp : 0 < 2 ^ t := zkh Zd
 have hn : w / 2 ^ t ≠ 0 := by
  have := (zkN hp (x := 1) (y := w)).2 Zo
  omega
 have a := Z2J (w / 2 ^ t); have b := Z4c hn; have c := Z3W hn
 have d := zkF w (2 ^ t)
 have e := zks w hp
 have e2 : bl (w / 2 ^ t) + t = (bl (w / 2 ^ t) - 1 + t) + 1 := by omega
 rw [e2]
 apply Z27
 ·have : bl (w / 2 ^ t) = (bl (w / 2 ^ t) - 1) + 1 := by omega
  rw [this, zkk] at b
  rw [zkb, zkl]
  exact zk2 (zky (2 ^ t) (show 2 ^ (bl (w / 2 ^ t) - 1) ≤ w / 2 ^ t by omega)) (Nat.mul_div_le w (2 ^ t))
 rw [← e2, zkb]
 exact (zkM hp).1 a
set_option maxRecDepth 100000 in
theorem Z8C (k w m : Nat) (hw : w < 4294967296) (hm : m ≤ 32) : Z1c.j0 (k + 1) w m = some ((m + bl w : Nat) : Int) := by
 have q16 : wrap64 ((m : Int) + 16) = ((m + 16 : Nat) : Int) := by rw [ZL Zo Zo]; rfl
 have q168 : wrap64 (((m + 16 : Nat) : Int) + 8) = ((m + 16 + 8 : Nat) : Int) := by rw [ZL Zo Zo]; rfl
 have q8 : wrap64 ((m : Int) + 8) = ((m + 8 : Nat) : Int) := by rw [ZL Zo Zo]; rfl
 have qb : ∀ x : Nat, x ≤ 8 → wrap64 (x : Int) = (x : Int) := fun x h => ZL Zo Zo
 have qa : ∀ a x : Nat, a ≤ 100 → x ≤ 8 → wrap64 ((a : Int) + (x : Int)) = ((a + x : Nat) : Int) := fun a x h g => by rw [ZL Zo Zo]; omega
 simp only [Z1c.j0]
 have d1 : (w : Int) / 65536 = ((w / 65536 : Nat) : Int) := Z4v w 65536
 have d2 : ((w / 65536 : Nat) : Int) / 256 = ((w / 65536 / 256 : Nat) : Int) := Z4v _ 256
 have d3 : (w : Int) / 256 = ((w / 256 : Nat) : Int) := Z4v w 256
 have m1 : ∀ x : Nat, x < 256 → ((x : Nat) : Int) % 256 = (x : Int) := fun x h => by omega
 have bl8 : ∀ x, x < 256 → bl x ≤ 8 := fun x h => Z0D.2 h
 have t1 : ∀ x : Nat, x < 256 → bt (⟨#[0, 1, 2, 2, 3, 3, 3, 3, 4, 4, 4, 4, 4, 4, 4, 4, 5, 5, 5, 5, 5, 5, 5, 5, 5, 5, 5, 5, 5, 5, 5, 5, 6, 6, 6, 6, 6, 6, 6, 6, 6, 6, 6, 6, 6, 6, 6, 6, 6, 6, 6, 6, 6, 6, 6, 6, 6, 6, 6, 6, 6, 6, 6, 6, 7, 7, 7, 7, 7, 7, 7, 7, 7, 7, 7, 7, 7, 7, 7, 7, 7, 7, 7, 7, 7, 7, 7, 7, 7, 7, 7, 7, 7, 7, 7, 7, 7, 7, 7, 7, 7, 7, 7, 7, 7, 7, 7, 7, 7, 7, 7, 7, 7, 7, 7, 7, 7, 7, 7, 7, 7, 7, 7, 7, 7, 7, 7, 7, 8, 8, 8, 8, 8, 8, 8, 8, 8, 8, 8, 8, 8, 8, 8, 8, 8, 8, 8, 8, 8, 8, 8, 8, 8, 8, 8, 8, 8, 8, 8, 8, 8, 8, 8, 8, 8, 8, 8, 8, 8, 8, 8, 8, 8, 8, 8, 8, 8, 8, 8, 8, 8, 8, 8, 8, 8, 8, 8, 8, 8, 8, 8, 8, 8, 8, 8, 8, 8, 8, 8, 8, 8, 8, 8, 8, 8, 8, 8, 8, 8, 8, 8, 8, 8, 8, 8, 8, 8, 8, 8, 8, 8, 8, 8, 8, 8, 8, 8, 8, 8, 8, 8, 8, 8, 8, 8, 8, 8, 8, 8, 8, 8, 8, 8, 8, 8, 8, 8, 8, 8, 8, 8, 8, 8, 8, 8, 8]⟩ : ByteArray) (x : Int) = (bl x : Int) := Zeh
 rw [d1, d2, d3]
 by_cases h : 65536 ≤ w
 ·have s1 := Z5g (w := w) (t := 16) h
  have l1 : w / 65536 < 65536 := by omega
  rw [if_pos Zo]
  by_cases g : 256 ≤ w / 65536
  ·have s2 := Z5g (w := w / 65536) (t := 8) g
   have l2 : w / 65536 / 256 < 256 := by omega
   have l3 := bl8 _ l2
   rw [if_pos Zo, m1 _ l2, if_pos Zo, if_pos Zo, t1 _ l2, q16, q168, qb _ l3, qa _ _ Zo l3]
   rw [s1]
   have s2' : bl (w / 65536) = bl (w / 65536 / 256) + 8 := s2
   have s3 : bl (w / 2 ^ 16) = bl (w / 65536 / 256) + 8 := s2
   rw [s3]; congr 1; omega
  have l2 : w / 65536 < 256 := by omega
  have l3 := bl8 _ l2
  rw [if_neg Zo, m1 _ l2, if_pos Zo, if_pos Zo, t1 _ l2, q16, qb _ l3, qa _ _ Zo l3]
  have s3 : bl w = bl (w / 65536) + 16 := s1
  rw [s3]; congr 1; omega
 rw [if_neg Zo]
 by_cases g : 256 ≤ w
 ·have s2 := Z5g (w := w) (t := 8) g
  have l2 : w / 256 < 256 := by omega
  have l3 := bl8 _ l2
  rw [if_pos Zo, m1 _ l2, if_pos Zo, if_pos Zo, t1 _ l2, q8, qb _ l3, qa _ _ Zo l3]
  have s3 : bl w = bl (w / 256) + 8 := s2
  rw [s3]; congr 1; omega
 have l2 : w < 256 := by omega
 have l3 := bl8 _ l2
 rw [if_neg Zo, m1 _ l2, if_pos Zo, if_pos Zo, t1 _ l2, qb _ l3, qa _ _ Zo l3]
theorem Z8D (k w : Nat) (hw : w < 18446744073709551616) (hk : 1 < k) : Z1c.f k w = some ((bl w : Nat) : Int) := by
 obtain ⟨k, rfl⟩ : ∃ m, k = m + 1 := ⟨k - 1, by omega⟩
 unfold Z1c.f
 by_cases h : 4294967296 ≤ w
 ·have d1 : (w : Int) / 4294967296 = ((w / 4294967296 : Nat) : Int) := Z4v w 4294967296
  have s1 : bl w = bl (w / 4294967296) + 32 := Z5g (w := w) (t := 32) h
  have := Z8C k (w / 4294967296) 32 Zo Zo
  rw [if_pos Zo, d1, s1]
  refine this.trans ?_
  congr 1; omega
 have := Z8C k w 0 Zo Zo
 rw [zkU] at this
 rw [if_neg Zo]; exact this
theorem Z7H (k w : Nat) (hw : w < 18446744073709551616) (hk : 1 < k) : Z0F.f k w = some ((64 - bl w : Nat) : Int) := by
 unfold Z0F.f
 have := Z4i hw
 rw [Z8D k w hw hk, Z4, ZL Zo Zo]
 congr 1; omega
theorem Z5h {q : Nat} (h : 0 < q) (g : q < 18446744073709551616) : IntKind.u64.wrap ((q : Int) - 1) = ((q - 1 : Nat) : Int) := by rw [IntKind.wrap_u64]; omega
theorem Zd1 {M P d u : Int} (hM : M = 18446744073709551616) (h0 : P ≤ u * 4294967296 + d) (h1 : u * 4294967296 + d - P < M) : ((u * 4294967296 % M + d) % M - P % M) % M = u * 4294967296 + d - P := by subst hM; omega
theorem Z9v {u d q y : Nat} (h0 : q * y ≤ u * 4294967296 + d) (h1 : u * 4294967296 + d - q * y < 18446744073709551616) :
  IntKind.u64.wrap ((IntKind.u64.wrap ((IntKind.u64.wrap ((u : Int) * 4294967296)) + (d : Int))) - (IntKind.u64.wrap ((q : Int) * (y : Int)))) = ((u * 4294967296 + d - q * y : Nat) : Int) := by
 rw [← zkE]
 simp only [IntKind.wrap_u64]
 rw [Zd1 rfl Zo Zo]
 omega
theorem Z9w {q y0 r d : Nat} (hq : q < 4294967296) (hy : y0 < 4294967296) (hr : r < 4294967296) (hd : d < 4294967296) :
  decide ((IntKind.u64.wrap ((q : Int) * (y0 : Int))) > (IntKind.u64.wrap ((IntKind.u64.wrap (4294967296 * (r : Int))) + (d : Int)))) = decide (4294967296 * r + d < q * y0) := by
 have b := Z4V hq hy
 have e1 : IntKind.u64.wrap (4294967296 * (r : Int)) = ((4294967296 * r : Nat) : Int) := by rw [IntKind.wrap_u64]; omega
 rw [← zkE, Z2V (show q * y0 < 18446744073709551616 by omega), e1, ← zkL, Z2V (show 4294967296 * r + d < 18446744073709551616 by omega), decide_eq_decide]
 omega
theorem Z4Y {a b : Nat} (h : a + b < 18446744073709551616) : IntKind.u64.wrap ((a : Int) + (b : Int)) = ((a + b : Nat) : Int) := by rw [← zkL]; exact Z2V h
theorem Z7j {q y1 r u : Nat} (h : 0 < q) (e : q * y1 + r = u) : (q - 1) * y1 + (r + y1) = u := by
 obtain ⟨p, rfl⟩ : ∃ p, q = p + 1 := ⟨q - 1, by omega⟩
 rw [zkH] at e
 rw [Nat.add_sub_cancel]; omega
theorem dl0 {y y1 y0 u d : Nat} (s e : Int) (hy : y = y1 * 4294967296 + y0) (h1 : 2147483648 ≤ y1) (h1' : y1 < 4294967296) (h0 : y0 < 4294967296) (hu : u < y) (hd : d < 4294967296) (n : Nat) : ∀ (k q r : Nat), q * y1 + r = u → (u * 4294967296 + d) / y ≤ q → q ≤ 4294967297 → r < 4294967296 → 4294967296 ≤ r + n * 2147483648 → 2 * n + 2 < k →
  ∃ k', k ≤ k' + 2 * n + 2 ∧ ZA.l0 k y s y1 y0 u d e q r = ZA.j2 k' y s y1 y0 u d e (((u * 4294967296 + d) / y : Nat) : Int) := by
 induction n with
 | zero => intro k q r _ _ _ hr hn _; omega
 | succ n ih =>
  intro k q r he hq hq2 hr hn hk
  obtain ⟨k, rfl⟩ : ∃ m, k = m + 2 := ⟨k - 2, by omega⟩
  have hyp : 0 < y := by omega
  have hQ := (Z4d hyp hu hd).1
  have dn := Z6C (r := r) hy hu hd he
  have lw := fun q r (e : q * y1 + r = u) (h : q * y0 ≤ 4294967296 * r + d) => Z7F (d := d) hy hyp e h
  have ih' := fun q r a b c d e => ih k q r a b c d e Zo
  clear ih
  generalize (u * 4294967296 + d) / y = Q at *
  have down : ∀ b, (4294967296 ≤ q ∨ 4294967296 * r + d < q * y0) → b = true → ∃ k', k + 2 ≤ k' + 2 * (n + 1) + 2 ∧ ZA.j1 (k + 1) y s y1 y0 u d e q r b = ZA.j2 k' y s y1 y0 u d e (Q : Int) := by
   intro b hc hb
   have lt := dn hc
   have q0 : 0 < q := by omega
   have q1 : q < 18446744073709551616 := by omega
   have rb : r + y1 < 18446744073709551616 := by omega
   have e2 := Z7j q0 he
   have gi : ((r + y1 : Nat) : Int) ≥ 4294967296 ↔ 4294967296 ≤ r + y1 := by omega
   have ex : 4294967296 ≤ r + y1 → q - 1 = Q := fun g => by
    have hz : (q - 1) * y0 ≤ 4294967296 * 4294967296 := zkR Zo Zo
    have := lw (q - 1) (r + y1) e2 Zo
    omega
   have ii : ¬ 4294967296 ≤ r + y1 → _ := fun g => ih' (q - 1) (r + y1) e2 Zo Zo Zo Zo
   subst hb
   simp only [ZA.j1]
   rw [if_pos trivial, Z4Y rb, Z5h q0 q1]
   by_cases g : 4294967296 ≤ r + y1
   ·rw [if_pos (gi.2 g), ex g]
    exact ⟨k, by omega, rfl⟩
   rw [if_neg (fun x => g (gi.1 x))]
   obtain ⟨k', h1, h2⟩ := ii g
   exact ⟨k', by omega, h2⟩
  have gq : (q : Int) ≥ 4294967296 ↔ 4294967296 ≤ q := by omega
  have gq2 : ¬ 4294967296 ≤ q → q < 4294967296 := by omega
  have ex : ¬ 4294967296 * r + d < q * y0 → q = Q := fun c => by
   have := lw q r he Zo
   omega
  simp only [ZA.l0]
  by_cases g : 4294967296 ≤ q
  ·rw [if_pos (gq.2 g)]
   exact down true (.inl g) rfl
  rw [if_neg (fun x => g (gq.1 x)), Z9w (gq2 g) h0 hr hd]
  by_cases c : 4294967296 * r + d < q * y0
  ·exact down _ (.inr c) (decide_eq_true c)
  rw [decide_eq_false c]
  simp only [ZA.j1]
  rw [if_neg Zd, ex c]
  exact ⟨k, by omega, rfl⟩
theorem dl1 {y y1 y0 u d : Nat} (s : Nat) (q1 : Int) (hy : y = y1 * 4294967296 + y0) (h1 : 2147483648 ≤ y1) (h1' : y1 < 4294967296) (h0 : y0 < 4294967296) (hu : u < y) (hd : d < 4294967296) (n : Nat) : ∀ (k q r : Nat), q * y1 + r = u → (u * 4294967296 + d) / y ≤ q → q ≤ 4294967297 → r < 4294967296 → 4294967296 ≤ r + n * 2147483648 → 2 * n + 2 < k →
  ZA.l1 k y s y1 y0 d q1 r u q = some (IntKind.u64.wrap ((IntKind.u64.wrap (q1 * 4294967296)) + (((u * 4294967296 + d) / y : Nat) : Int)), shr .u64 (((u * 4294967296 + d) % y : Nat) : Int) s) := by
 induction n with
 | zero => intro k q r _ _ _ hr hn _; omega
 | succ n ih =>
  intro k q r he hq hq2 hr hn hk
  obtain ⟨k, rfl⟩ : ∃ m, k = m + 2 := ⟨k - 2, by omega⟩
  have hyp : 0 < y := by omega
  obtain ⟨hQ, hR, hR2⟩ := Z4d hyp hu hd
  have dn := Z6C (r := r) hy hu hd he
  have lw := fun q r (e : q * y1 + r = u) (h : q * y0 ≤ 4294967296 * r + d) => Z7F (d := d) hy hyp e h
  have ih' := fun q r a b c d e => ih k q r a b c d e Zo
  clear ih
  generalize (u * 4294967296 + d) / y = Q at *
  generalize (u * 4294967296 + d) % y = R at *
  have rest : IntKind.u64.wrap ((IntKind.u64.wrap ((IntKind.u64.wrap ((u : Int) * 4294967296)) + (d : Int))) - (IntKind.u64.wrap ((Q : Int) * (y : Int)))) = (R : Int) := by
   rw [Z9v Zo Zo]
   congr 1; omega
  have gq : (q : Int) ≥ 4294967296 ↔ 4294967296 ≤ q := by omega
  have gq2 : ¬ 4294967296 ≤ q → q < 4294967296 := by clear rest; omega
  have ex2 : ¬ 4294967296 * r + d < q * y0 → q = Q := fun c => by
   clear rest
   have := lw q r he Zo
   omega
  have down : ∀ b, (4294967296 ≤ q ∨ 4294967296 * r + d < q * y0) → b = true → ZA.j4 (k + 1) y s y1 y0 d q1 r u q b = some (IntKind.u64.wrap ((IntKind.u64.wrap (q1 * 4294967296)) + (Q : Int)), shr .u64 (R : Int) s) := by
   intro b hc hb
   have lt := dn hc
   have q0 : 0 < q := by clear rest; omega
   have q1 : q < 18446744073709551616 := by clear rest; omega
   have rb : r + y1 < 18446744073709551616 := by clear rest; omega
   have e2 := Z7j q0 he
   have gi : ((r + y1 : Nat) : Int) ≥ 4294967296 ↔ 4294967296 ≤ r + y1 := by clear rest; omega
   have ex : 4294967296 ≤ r + y1 → q - 1 = Q := fun g => by
    clear rest
    have hz : (q - 1) * y0 ≤ 4294967296 * 4294967296 := zkR Zo Zo
    have := lw (q - 1) (r + y1) e2 Zo
    omega
   have i1 : Q ≤ q - 1 := by clear rest; omega
   have i2 : q - 1 ≤ 4294967297 := by clear rest; omega
   have i3 : ¬ 4294967296 ≤ r + y1 → r + y1 < 4294967296 := by clear rest; omega
   have i4 : 4294967296 ≤ r + y1 + n * 2147483648 := by clear rest; omega
   subst hb
   simp only [ZA.j4]
   rw [if_pos trivial, Z4Y rb, Z5h q0 q1]
   by_cases g : 4294967296 ≤ r + y1
   ·rw [if_pos (gi.2 g), ex g, if_pos (zk1 _), rest]
   rw [if_neg (fun x => g (gi.1 x))]
   exact ih' (q - 1) (r + y1) e2 i1 i2 (i3 g) i4
  simp only [ZA.l1]
  by_cases g : 4294967296 ≤ q
  ·rw [if_pos (gq.2 g)]
   exact down true (.inl g) rfl
  rw [if_neg (fun x => g (gq.1 x)), Z9w (gq2 g) h0 hr hd]
  by_cases c : 4294967296 * r + d < q * y0
  ·exact down _ (.inr c) (decide_eq_true c)
  rw [decide_eq_false c]
  simp only [ZA.j4]
  rw [if_neg Zd, if_pos (zk1 _), ex2 c, rest]
theorem ZdB {u y1 : Nat} (h : 0 < y1) (hu : u < 18446744073709551616) : IntKind.u64.wrap (Int.tdiv (u : Int) (y1 : Int)) = ((u / y1 : Nat) : Int) ∧ IntKind.u64.wrap ((u : Int) - IntKind.u64.wrap (((u / y1 : Nat) : Int) * (y1 : Int))) = ((u % y1 : Nat) : Int) ∧ u / y1 * y1 + u % y1 = u := by
 have e := zkF u y1
 rw [zkl] at e
 have := zkI u y1
 refine ⟨by rw [Z80]; exact Z2V Zo, ?_, e⟩
 rw [← zkE]
 generalize u / y1 * y1 = p at *
 generalize u % y1 = r at *
 rw [Z2V Zo, Z3X Zo Zo]; omega
theorem q32 {Q : Nat} (h : Q < 4294967296) : Q * 4294967296 < 18446744073709551616 := by omega
theorem Zgw {Q x : Nat} (h : Q < 4294967296) (g : x < 4294967296) : Q * 4294967296 + x < 18446744073709551616 := by omega
theorem dj2 {y y1 y0 u d e0 : Nat} (s : Nat) (hy : y = y1 * 4294967296 + y0) (h1 : 2147483648 ≤ y1) (h1' : y1 < 4294967296) (h0 : y0 < 4294967296) (hu : u < y) (hd : d < 4294967296) (he : e0 < 4294967296) (k : Nat) (hk : 9 < k) (Q R : Nat) (eQ : (u * 4294967296 + d) / y = Q) (eR : (u * 4294967296 + d) % y = R) :
  ZA.j2 k y s y1 y0 u d e0 (Q : Int) = some (((Q * 4294967296 + (R * 4294967296 + e0) / y : Nat) : Int), shr .u64 (((R * 4294967296 + e0) % y : Nat) : Int) s) := by
 obtain ⟨k, rfl⟩ : ∃ m, k = m + 1 := ⟨k - 1, by omega⟩
 have hyp : 0 < y := by omega
 obtain ⟨hQ, hR, hR2⟩ := Z4d hyp hu hd
 rw [eQ] at hQ hR
 rw [eR] at hR hR2
 clear eQ eR
 have c1 : Q * y ≤ u * 4294967296 + d := by omega
 have c2 : u * 4294967296 + d - Q * y = R := by omega
 have c3 : R < 18446744073709551616 := by omega
 have c4 : ¬ (y1 : Int) = 0 := by omega
 have c5 : 0 < y1 := by omega
 have hm : R % y1 < y1 := zks _ c5
 have c6 : R % y1 < 4294967296 := by omega
 have c7 : 4294967296 ≤ R % y1 + 3 * 2147483648 := by omega
 have c8 : 2 * 3 + 2 < k := by omega
 have c10 := q32 hQ
 obtain ⟨f1, f2⟩ := Z6c hy h1 h0 hR2 he
 obtain ⟨q2, _, _⟩ := Z4d hyp hR2 he
 have c9 := Zgw hQ q2
 have c11 := Z9v c1 (by rw [c2]; exact c3)
 rw [c2] at c11
 obtain ⟨g1, g2, g3⟩ := ZdB c5 c3
 have e3 : IntKind.u64.wrap ((Q : Int) * 4294967296) = ((Q * 4294967296 : Nat) : Int) := Z2V c10
 simp only [ZA.j2]
 rw [c11, if_neg c4, g1, g2, dl1 s Q hy h1 h1' h0 hR2 he 3 k _ _ g3 f1 f2 c6 c7 c8, e3, Z4Y c9]
theorem Zei {y : Nat} (h : y ≠ 0) (hy : y < 18446744073709551616) : y * 2 ^ (64 - bl y) < 18446744073709551616 ∧ 9223372036854775808 ≤ y * 2 ^ (64 - bl y) ∧ 64 - bl y ≤ 63 := by
 have a := Z2J y; have b := Z4c h; have c := Z4i hy; have d := Z3W h
 have e : 2 ^ bl y * 2 ^ (64 - bl y) = 18446744073709551616 := by rw [← zkb, Nat.add_sub_cancel' c]
 have hp : 0 < 2 ^ (64 - bl y) := zkh Zd
 refine ⟨?_, ?_, by omega⟩
 ·rw [← e]; exact zkx a hp
 have := zka (2 ^ (64 - bl y)) b
 rw [e, zkc] at this
 omega
theorem Zap (k hi lo y s : Nat) (z : ¬ hi = 0) (hh : hi < y) (hl : lo < 18446744073709551616) (hy : y < 18446744073709551616) (n1 : y * 2 ^ s < 18446744073709551616) (n2 : 9223372036854775808 ≤ y * 2 ^ s) (n3 : s ≤ 63) (hk : 40 < k) :
  (if 0 ≤ (IntKind.u64.wrap ((s : Nat) : Int)) then (if 0 ≤ (IntKind.u64.wrap (64 - (IntKind.u64.wrap ((s : Nat) : Int)))) then (if ((shl .u64 (y : Int) (IntKind.u64.wrap ((s : Nat) : Int))) / 4294967296) = 0 then (none) else (ZA.l0 k (shl .u64 (y : Int) (IntKind.u64.wrap ((s : Nat) : Int))) (IntKind.u64.wrap ((s : Nat) : Int)) ((shl .u64 (y : Int) (IntKind.u64.wrap ((s : Nat) : Int))) / 4294967296) (Go.bits .and .u64 (shl .u64 (y : Int) (IntKind.u64.wrap ((s : Nat) : Int))) 4294967295) (Go.bits .or .u64 (shl .u64 (hi : Int) (IntKind.u64.wrap ((s : Nat) : Int))) (shr .u64 (lo : Int) (IntKind.u64.wrap (64 - (IntKind.u64.wrap ((s : Nat) : Int)))))) ((shl .u64 (lo : Int) (IntKind.u64.wrap ((s : Nat) : Int))) / 4294967296) (Go.bits .and .u64 (shl .u64 (lo : Int) (IntKind.u64.wrap ((s : Nat) : Int))) 4294967295) (IntKind.u64.wrap (Int.tdiv (Go.bits .or .u64 (shl .u64 (hi : Int) (IntKind.u64.wrap ((s : Nat) : Int))) (shr .u64 (lo : Int) (IntKind.u64.wrap (64 - (IntKind.u64.wrap ((s : Nat) : Int)))))) ((shl .u64 (y : Int) (IntKind.u64.wrap ((s : Nat) : Int))) / 4294967296))) (IntKind.u64.wrap ((Go.bits .or .u64 (shl .u64 (hi : Int) (IntKind.u64.wrap ((s : Nat) : Int))) (shr .u64 (lo : Int) (IntKind.u64.wrap (64 - (IntKind.u64.wrap ((s : Nat) : Int)))))) - (IntKind.u64.wrap ((IntKind.u64.wrap (Int.tdiv (Go.bits .or .u64 (shl .u64 (hi : Int) (IntKind.u64.wrap ((s : Nat) : Int))) (shr .u64 (lo : Int) (IntKind.u64.wrap (64 - (IntKind.u64.wrap ((s : Nat) : Int)))))) ((shl .u64 (y : Int) (IntKind.u64.wrap ((s : Nat) : Int))) / 4294967296))) * ((shl .u64 (y : Int) (IntKind.u64.wrap ((s : Nat) : Int))) / 4294967296))))))) else (none)) else (none)) = some ((((hi * 18446744073709551616 + lo) / y : Nat) : Int), (((hi * 18446744073709551616 + lo) % y : Nat) : Int)) := by
 have s1 : s ≤ 64 := by omega
 have s2 : 64 - s ≤ 64 := by omega
 have s3 : s < 18446744073709551616 := by omega
 have hp : 0 < 2 ^ s := zkh Zd
 have hc : lo / 2 ^ (64 - s) < 2 ^ s := Z4H s1 hl
 have hhi : (hi + 1) * 2 ^ s ≤ y * 2 ^ s := zka _ hh
 rw [zkH] at hhi
 have hub : hi * 2 ^ s + lo / 2 ^ (64 - s) < y * 2 ^ s := by omega
 have c0 : hi * 2 ^ s < 18446744073709551616 := by omega
 obtain ⟨-, parts⟩ := Z2P (w := lo) s1
 have hv : (hi * 18446744073709551616 + lo) * 2 ^ s = (hi * 2 ^ s + lo / 2 ^ (64 - s)) * 18446744073709551616 + lo * 2 ^ s % 18446744073709551616 := by
  rw [zkH, zkH, zkX]; omega
 have hm : lo * 2 ^ s % 18446744073709551616 < 18446744073709551616 := zks _ Zd
 obtain ⟨b1, b2⟩ := Z6D (v := hi * 18446744073709551616 + lo) (s := s) (show 0 < y by omega)
 rw [hv] at b1 b2
 rw [← b1, ← b2]
 clear b1 b2
 obtain ⟨V, hV⟩ : ∃ V, V = (hi * 2 ^ s + lo / 2 ^ (64 - s)) * 18446744073709551616 + lo * 2 ^ s % 18446744073709551616 := ⟨_, rfl⟩
 rw [← hV]
 have w1 : shl .u64 (y : Int) (s : Int) = ((y * 2 ^ s : Nat) : Int) := by rw [Z4W _ _ s1, zkA n1]
 have w2 : Go.bits .or .u64 (shl .u64 (hi : Int) (s : Int)) (shr .u64 (lo : Int) ((64 - s : Nat) : Int)) = ((hi * 2 ^ s + lo / 2 ^ (64 - s) : Nat) : Int) := by
  rw [Z3e _ _ s2, Zbq s1 hc, zkA c0]
 have w3 : shl .u64 (lo : Int) (s : Int) = ((lo * 2 ^ s % 18446744073709551616 : Nat) : Int) := Z4W _ _ s1
 have e64 : IntKind.u64.wrap (64 - (s : Int)) = ((64 - s : Nat) : Int) := by rw [IntKind.wrap_u64]; omega
 rw [Z2V s3, if_pos (zk1 _), e64, if_pos (zk1 _), w1, w2, w3]
 clear w1 w2 w3 e64 hv parts hc hhi c0 hp
 generalize y * 2 ^ s = Y at *
 generalize hi * 2 ^ s + lo / 2 ^ (64 - s) = u at *
 generalize lo * 2 ^ s % 18446744073709551616 = m at *
 have c1 : (Y : Int) / 4294967296 = ((Y / 4294967296 : Nat) : Int) := Z4v Y 4294967296
 have c2 : (m : Int) / 4294967296 = ((m / 4294967296 : Nat) : Int) := Z4v m 4294967296
 have hY : Y = Y / 4294967296 * 4294967296 + Y % 4294967296 := by clear c1 c2; omega
 have hM : m = m / 4294967296 * 4294967296 + m % 4294967296 := by clear c1 c2; omega
 have h1 : 2147483648 ≤ Y / 4294967296 := by clear c1 c2; omega
 have h1' : Y / 4294967296 < 4294967296 := by clear c1 c2; omega
 have h0 : Y % 4294967296 < 4294967296 := by clear c1 c2; omega
 have hd : m / 4294967296 < 4294967296 := by clear c1 c2; omega
 have he : m % 4294967296 < 4294967296 := by clear c1 c2; omega
 have hy0 : ¬ ((Y / 4294967296 : Nat) : Int) = 0 := by clear c1 c2; omega
 rw [c1, c2, Z6G n1, Z6G hm, if_neg hy0]
 clear c1 c2
 generalize Y / 4294967296 = y1 at *
 generalize Y % 4294967296 = y0 at *
 generalize m / 4294967296 = d at *
 generalize m % 4294967296 = e0 at *
 have hYp : 0 < Y := by omega
 rw [hM] at hV
 obtain ⟨t1, t2⟩ := Zan hYp hV
 clear hV
 have c5 : 0 < y1 := by omega
 have c3 : u < 18446744073709551616 := by omega
 obtain ⟨f1, f2⟩ := Z6c hY h1 h0 hub hd
 have hmm : u % y1 < y1 := zks _ c5
 have c6 : u % y1 < 4294967296 := by omega
 have c7 : 4294967296 ≤ u % y1 + 3 * 2147483648 := by omega
 have c8 : 2 * 3 + 2 < k := by omega
 have c9 : ∀ k', k ≤ k' + 2 * 3 + 2 → 9 < k' := fun k' h => by omega
 obtain ⟨g1, g2, g3⟩ := ZdB c5 c3
 rw [g1, g2]
 obtain ⟨k', hk', e⟩ := dl0 (s : Int) (e0 : Int) hY h1 h1' h0 hub hd 3 k _ _ g3 f1 f2 c6 c7 c8
 rw [e, dj2 s hY h1 h1' h0 hub hd he k' (c9 k' hk') _ _ rfl rfl, Z3e _ _ s1, t1, t2]
theorem Z8E (k hi lo y : Nat) (hh : hi < y) (hl : lo < 18446744073709551616) (hy : y < 18446744073709551616) (hk : 40 < k) :
  ZA.f k hi lo y = some ((((hi * 18446744073709551616 + lo) / y : Nat) : Int), (((hi * 18446744073709551616 + lo) % y : Nat) : Int)) := by
 unfold ZA.f
 rw [if_neg Zo, if_neg Zo]
 by_cases z : hi = 0
 ·subst z
  rw [if_pos (show ((0 : Nat) : Int) = 0 from rfl), Z80, ZdA, zkC, zkU, Z2V (zkq (zkI _ _) hl)]
 obtain ⟨n1, n2, n3⟩ := Zei (show y ≠ 0 by omega) hy
 have z1 : ¬ (hi : Int) = 0 := by omega
 have z2 : 1 < k := by omega
 rw [if_neg z1, Z7H k y hy z2, Z4]
 generalize 64 - bl y = s at *
 exact Zap k hi lo y s z hh hl hy n1 n2 n3 hk
theorem Z5J {j : Nat} (h : j < 4611686018427387904) : wrap64 ((j : Int) - 1) = (j : Int) - 1 := ZL Zo Zo
theorem Z6d {r a d : Nat} (hr : r < d) (ha : a < 18446744073709551616) : (r * 18446744073709551616 + a) / d < 18446744073709551616 := by
 rw [zkM Zo]
 have : 18446744073709551616 * (r + 1) ≤ 18446744073709551616 * d := zky _ (Nat.succ_le_of_lt hr)
 omega
theorem Zaq (a : List Int) (ha : Ws a) (d : Nat) (hd0 : 0 < d) (hd : d < 18446744073709551616) (na : a.length < 35184372088832) (j : Nat) : ∀ (k : Nat) (o : List Int) (r : Nat), j ≤ a.length → j + a.length + 100 < k → o.length = a.length → Ws o → r < d →
  val (a.drop j) = d * val (o.drop j) + r →
  Z00.l0 k a d o r ((j : Int) - 1) = some (ofN (val a / d), ((val a % d : Nat) : Int)) := by
 induction j with
 | zero =>
  intro k o r hj hk ho hw hr hv
  obtain ⟨k, rfl⟩ : ∃ m, k = m + 1 := ⟨k - 1, by omega⟩
  simp only [Z00.l0]
  rw [if_neg Zo, Z2D _ _ k rfl hw Zo Zo, Z4]
  rw [Zk9, Zk9] at hv
  obtain ⟨h1, h2⟩ := Z6B hv hr
  rw [h1, h2]
 | succ j ih =>
  intro k o r hj hk ho hw hr hv
  obtain ⟨k, rfl⟩ : ∃ m, k = m + 1 := ⟨k - 1, by omega⟩
  have e0 : ((j + 1 : Nat) : Int) - 1 = (j : Int) := by omega
  have g1 : (j : Int) < (a.length : Int) := by omega
  have g2 : (j : Int) < (o.length : Int) := by omega
  have g3 : (j : Int) ≥ 0 := by omega
  have i1 : j ≤ a.length := by omega
  have i2 : j + a.length + 100 < k := by omega
  have i3 : 40 < k := by omega
  have i4 : j < o.length := by omega
  have i5 : j < a.length := by omega
  have i6 : j < 4611686018427387904 := by omega
  obtain ⟨p0, p1⟩ := Z01 ha j
  have ew := Z1D p0
  have hda := Z2S a j i5
  have hdo := Z2S (o.set j (((r * 18446744073709551616 + (a.getD j 0).toNat) / d : Nat) : Int)) j (by rw [zk9]; exact i4)
  rw [Z8u, Nm.Z2B _ _ _ i4, zk0] at hdo
  generalize hwn : (a.getD j 0).toNat = w at *
  have w1 : w < 18446744073709551616 := zki.1 (ew ▸ p1)
  have hq := Z6d hr w1
  have hm : (r * 18446744073709551616 + w) % d < d := zks _ hd0
  have hz := zkF (r * 18446744073709551616 + w) d
  rw [e0]
  simp only [Z00.l0]
  rw [if_pos g3, if_pos g3, if_pos g1, Z06, ew, Z8E k r w d hr w1 hd i3, Z4, if_pos g2, zk0, Z5J i6]
  refine ih k _ _ i1 i2 (by rw [zk9]; exact ho) (Z1V hw _ (zk1 _) (zki.2 hq)) hm ?_
  rw [hda, hdo]
  refine Z9c ?_ hv
  rw [zkl _ r, zkl _ d]; exact hz.symm
theorem Z8F (a : List Int) (ha : Ws a) (d k : Nat) (hd0 : 0 < d) (hd : d < 18446744073709551616) (na : a.length < 35184372088832) (hk : 2 * a.length + 100 < k) : Z00.f k a d = some (ofN (val a / d), ((val a % d : Nat) : Int)) := by
 unfold Z00.f
 rw [if_pos Zo, if_pos (by rw [zk0]; omega), zk0, Z5J Zo]
 have hv : val (a.drop a.length) = d * val ((List.replicate a.length (0 : Int)).drop a.length) + 0 := by
  rw [Z8t, Zk7 (by simp)]; simp [val]
 exact Zaq a ha d hd0 hd na a.length k _ 0 (zk6 _) Zo (by simp) (Z0Y _) hd0 hv
theorem Zgg (a b : Nat) : IntKind.u64.wrap ((a : Int) + (b : Int)) = (((a + b) % 18446744073709551616 : Nat) : Int) := by rw [IntKind.wrap_u64]; omega
theorem Z9x {o c p h l : Nat} (e : p = h * 18446744073709551616 + l) (hl : l < 18446744073709551616) : ((l + o) % 18446744073709551616 + c) % 18446744073709551616 = (o + c + p) % 18446744073709551616 ∧ h + (l + o) / 18446744073709551616 + ((l + o) % 18446744073709551616 + c) / 18446744073709551616 = (o + c + p) / 18446744073709551616 := by
 subst e; constructor <;> omega
theorem Zbv {o c p : Nat} (h : (o + c + p) / 18446744073709551616 < 18446744073709551616) :
  add64s (add64s ((p % 18446744073709551616 : Nat) : Int) (o : Int) 0) (c : Int) 0 = (((o + c + p) % 18446744073709551616 : Nat) : Int) ∧
  IntKind.u64.wrap ((IntKind.u64.wrap (((p / 18446744073709551616 : Nat) : Int) + add64c ((p % 18446744073709551616 : Nat) : Int) (o : Int) 0)) + add64c (add64s ((p % 18446744073709551616 : Nat) : Int) (o : Int) 0) (c : Int) 0) = (((o + c + p) / 18446744073709551616 : Nat) : Int) := by
 obtain ⟨m1, m2⟩ := Z9x (o := o) (c := c) (p := p) (h := p / 18446744073709551616) (l := p % 18446744073709551616) Zo (zks _ Zd)
 rw [Z49, Z4L, Z49, Z4L]
 simp only [zk0, Zk2, zkB]
 rw [m1]
 refine ⟨rfl, ?_⟩
 rw [Z4Y Zo, Z4Y Zo, m2]
theorem Z8G (b : List Int) (i j x : Nat) : 18446744073709551616 ^ i * (x * val (b.take (j + 1))) = 18446744073709551616 ^ i * (x * val (b.take j)) + 18446744073709551616 ^ (i + j) * (x * (b.getD j 0).toNat) := by
 rw [ZU b, zkp, zkp, zkb, zkT x, ← zkc (18446744073709551616 ^ i) (18446744073709551616 ^ j)]
theorem Z8H (a b : List Int) (i : Nat) : val (a.take (i + 1)) * val b = val (a.take i) * val b + 18446744073709551616 ^ i * ((a.getD i 0).toNat * val b) := by
 rw [ZU a, zkH, zkc]
theorem Zar (a b : List Int) (hb : Ws b) (i x L F V0 : Nat) (R : Option (List Int)) (hx : x < 18446744073709551616) (hL : i + b.length + 1 ≤ L) (hL2 : L < 70368744177664)
  (next : ∀ (k : Nat) (o : List Int), F < k → o.length = L → Ws o → val (o.take (i + b.length + 1)) = V0 + 18446744073709551616 ^ i * (x * val b) → (∀ m, i + b.length + 1 ≤ m → o.getD m 0 = 0) → ZJ.l0 k b o a a.length ((i + 1 : Nat) : Int) = R) (s : Nat) :
  ∀ (j k : Nat) (o : List Int) (c : Nat), b.length - j = s → j ≤ b.length → F + s + 1 < k → o.length = L → Ws o → c < 18446744073709551616 → (∀ m, i + b.length ≤ m → o.getD m 0 = 0) →
  val (o.take (i + b.length)) + 18446744073709551616 ^ (i + j) * c = V0 + 18446744073709551616 ^ i * (x * val (b.take j)) →
  ZJ.l1 k b o i x c a a.length i b b.length j = R := by
 induction s with
 | zero =>
  intro j k o c hs hj hk ho hw hc hz hv
  obtain ⟨k, rfl⟩ : ∃ m, k = m + 1 := ⟨k - 1, by omega⟩
  obtain rfl : j = b.length := by omega
  have g0 : ¬ ((b.length : Int) < (b.length : Int)) := by omega
  have b1 : i + b.length < 4611686018427387904 := by omega
  have b2 : i < 4611686018427387904 := by omega
  have g2 : ((i + b.length : Nat) : Int) < (o.length : Int) := by omega
  have i1 : i + b.length < o.length := by omega
  have i2 : F < k := by omega
  have hz' : ∀ m, i + b.length + 1 ≤ m → i + b.length ≤ m ∧ i + b.length ≠ m := fun m h => by omega
  have ww : wrap64 ((i : Int) + (b.length : Int)) = ((i + b.length : Nat) : Int) := by rw [ZL Zo Zo]; omega
  simp only [ZJ.l1]
  rw [if_neg g0, ww, if_pos (zk1 _), if_pos g2, Z0d b2, zk0]
  refine next k _ i2 (by rw [zk9]; exact ho) (Z1V hw _ (zk1 _) (zki.2 hc)) ?_ ?_
  ·rw [Z0S o _ _ i1, zk0, hv, Zr _ _ (zk6 _)]
  intro m hm
  obtain ⟨h1, h2⟩ := hz' m hm
  rw [Nm.Z1p _ _ _ _ h2]; exact hz m h1
 | succ s ih =>
  intro j k o c hs hj hk ho hw hc hz hv
  obtain ⟨k, rfl⟩ : ∃ m, k = m + 1 := ⟨k - 1, by omega⟩
  have i1 : b.length - (j + 1) = s := by omega
  have i2 : j + 1 ≤ b.length := by omega
  have i3 : F + s + 1 < k := by omega
  have i4 : i + j < i + b.length := by omega
  have i5 : i + b.length ≤ o.length := by omega
  have g1 : (j : Int) < (b.length : Int) := by omega
  have g2 : ((i + j : Nat) : Int) < (o.length : Int) := by omega
  have b3 : j < 4611686018427387904 := by omega
  have hz' : ∀ m, i + b.length ≤ m → i + j ≠ m := fun m h => by omega
  have ww : wrap64 ((i : Int) + (j : Int)) = ((i + j : Nat) : Int) := by rw [ZL Zo Zo]; omega
  obtain ⟨p0, p1⟩ := Z01 hb j
  obtain ⟨q0, q1⟩ := Z01 hw (i + j)
  have ey := Z1D p0
  have eo := Z1D q0
  have rs := Z8G b i j x
  have vs := fun n : Nat => Z7d o (i + j) (i + b.length) (n : Int) i4 i5
  generalize hyn : (b.getD j 0).toNat = y at *
  generalize hon : (o.getD (i + j) 0).toNat = u at *
  have y1 : y < 18446744073709551616 := zki.1 (ey ▸ p1)
  have u1 : u < 18446744073709551616 := zki.1 (eo ▸ q1)
  have hd := Z5B u1 hc hx y1
  obtain ⟨m1, m2⟩ := Zbv (o := u) (c := c) (p := x * y) hd
  have hn : (u + c + x * y) % 18446744073709551616 < 18446744073709551616 := zks _ Zd
  have hdm := Nat.mod_add_div (u + c + x * y) 18446744073709551616
  simp only [ZJ.l1]
  rw [if_pos g1, if_pos (zk1 _), if_pos g1, Z06, ey, Z5f x y hx y1, Z4, ww, if_pos (zk1 _), if_pos g2, Z06, eo, Z0d b3, zk0]
  dsimp only
  rw [m1, m2]
  refine ih (j + 1) k _ _ i1 i2 i3 (by rw [zk9]; exact ho) (Z1V hw _ (zk1 _) (zki.2 hn)) hd ?_ ?_
  ·intro m hm
   rw [Nm.Z1p _ _ _ _ (hz' m hm)]; exact hz m hm
  have vs' := vs ((u + c + x * y) % 18446744073709551616)
  rw [zk0] at vs'
  rw [rs]
  exact Z7E vs' hdm hv
theorem Zas (a b : List Int) (ha : Ws a) (hb : Ws b) (L : Nat) (hL : a.length + b.length = L) (hL2 : L < 35184372088832) (s : Nat) : ∀ (i k : Nat) (o : List Int), a.length - i = s → i ≤ a.length → s * (b.length + 2) + L + 10 < k → o.length = L → Ws o → (∀ m, i + b.length ≤ m → o.getD m 0 = 0) →
  val (o.take (i + b.length)) = val (a.take i) * val b → ZJ.l0 k b o a a.length i = some (ofN (val a * val b)) := by
 induction s with
 | zero =>
  intro i k o hs hi hk ho hw hz hv
  obtain ⟨k, rfl⟩ : ∃ m, k = m + 1 := ⟨k - 1, by omega⟩
  obtain rfl : i = a.length := by omega
  have g0 : ¬ ((a.length : Int) < (a.length : Int)) := by omega
  simp only [ZJ.l0]
  rw [if_neg g0, Z2D _ o k rfl hw Zo Zo, Z4]
  rw [Zr o _ Zo, Zr a _ (zk6 _)] at hv
  rw [hv]
 | succ s ih =>
  intro i k o hs hi hk ho hw hz hv
  rw [Nat.succ_mul] at hk
  obtain ⟨k, rfl⟩ : ∃ m, k = m + 1 := ⟨k - 1, by omega⟩
  have i1 : a.length - (i + 1) = s := by omega
  have i2 : i + 1 ≤ a.length := by omega
  have g1 : (i : Int) < (a.length : Int) := by omega
  have hl : i + b.length + 1 ≤ L := by omega
  have hL3 : L < 70368744177664 := by omega
  have hF : (s * (b.length + 2) + L + 10) + b.length + 1 < k := by omega
  have e1 : i + 1 + b.length = i + b.length + 1 := by omega
  obtain ⟨p0, p1⟩ := Z01 ha i
  have ex := Z1D p0
  have cs := Z8H a b i
  generalize hxn : (a.getD i 0).toNat = x at *
  have x1 : x < 18446744073709551616 := zki.1 (ex ▸ p1)
  simp only [ZJ.l0]
  rw [if_pos g1, if_pos (zk1 _), if_pos g1, Z06, ex]
  refine Zar a b hb i x L (s * (b.length + 2) + L + 10) (val (a.take i) * val b) _ x1 hl hL3 ?_ b.length 0 k o 0 rfl (zkD _) hF ho hw Zd hz (by rw [hv]; simp [val])
  intro k' o' hk' ho' hw' hv' hz'
  refine ih (i + 1) k' o' i1 i2 hk' ho' hw' (by rw [e1]; exact hz') ?_
  rw [e1, hv', cs]
theorem Zej (a b : List Int) (k : Nat) (ha : Ws a) (hb : Ws b) (hL : a.length + b.length < 35184372088832) (hk : a.length * (b.length + 2) + a.length + b.length + 10 < k) : ZJ.f k a b = some (ofN (val a * val b)) := by
 unfold ZJ.f
 have e : wrap64 ((a.length : Int) + (b.length : Int)) = ((a.length + b.length : Nat) : Int) := by rw [ZL Zo Zo]; omega
 have c1 : a.length + b.length ≤ 35184372088832 := by omega
 have := Zas a b ha hb _ rfl hL a.length 0 k (List.replicate (a.length + b.length) 0) rfl (zkD _) Zo (by simp) (Z0Y _) (fun m _ => Z3O _ _) (by rw [List.take_zero, List.take_replicate, Z2M]; simp [val])
 rw [e, if_pos (zk1 _), zk0, if_pos c1]
 exact this
theorem ZdC (w k : Nat) (hw : w < 18446744073709551616) (hk : 1 < k) : Z1Z.f k w = some (ofN w) := by
 unfold Z1Z.f
 have : val [(w : Int)] = w := by simp [val]
 rw [Z3v _ k (Z2c.2 ⟨by omega, Z2d⟩) (by simp) (by simpa using hk), Z4, this]
theorem Zbw (u d : List Int) (hu : Ws u) (hd : Ws d) (n : Nat) (hn : n < 18446744073709551616) (hl : u.length = d.length + 1) (nd : d.length < 35184372088832) (s : Nat) : ∀ (i k : Nat) (o : List Int) (c b : Nat), d.length - i = s → i ≤ d.length → s < k → o.length = u.length → Ws o → c < 18446744073709551616 → b ≤ 1 → (∀ m, i ≤ m → o.getD m 0 = u.getD m 0) →
  val (o.take i) + n * val (d.take i) = val (u.take i) + 18446744073709551616 ^ i * (c + b) →
  ∃ (b' : Nat) (r : List Int), Z0v.l0 k o d n c b d d.length i = some (decide (b' > 0), r) ∧ b' ≤ 1 ∧ r.length = u.length ∧ Ws r ∧ val r + n * val d = val u + 18446744073709551616 ^ u.length * b' := by
 induction s with
 | zero =>
  intro i k o c b hs hi hk ho hw hc hb hz hv
  obtain ⟨k, rfl⟩ : ∃ m, k = m + 1 := ⟨k - 1, by omega⟩
  obtain rfl : i = d.length := by omega
  have g0 : ¬ ((d.length : Int) < (d.length : Int)) := by omega
  have g1 : (d.length : Int) < (o.length : Int) := by omega
  have g2 : (b : Int) ≤ 1 := by omega
  have i1 : d.length < o.length := by omega
  obtain ⟨p0, p1⟩ := Z01 hu d.length
  have hzm := hz d.length (zk6 _)
  obtain ⟨b', hb', eb, ew⟩ := Z5e (x := u.getD d.length 0) (y := (c : Int)) (c := b) p0 p1 (zk1 _) (zki.2 hc) hb
  have slo := Z5Q (u.getD d.length 0) (c : Int) (b : Int)
  have shi := Z5R (u.getD d.length 0) (c : Int) (b : Int)
  rw [zk0] at ew
  refine ⟨b', o.set d.length (sub64s (u.getD d.length 0) (c : Int) (b : Int)), ?_, hb', by rw [zk9]; exact ho, Z1V hw _ slo shi, ?_⟩
  ·simp only [Z0v.l0]
   rw [if_neg g0, if_pos (zk1 _), if_pos g1, if_pos g2, Z06, hzm, zk0, eb]
   congr 2
   rw [decide_eq_decide]; omega
  have e := Z0S o d.length (sub64s (u.getD d.length 0) (c : Int) (b : Int)) i1
  rw [Zr _ (d.length + 1) (by rw [zk9]; omega)] at e
  have eu := Z05 u d.length Zo
  rw [Zr u _ Zo] at eu
  rw [Zr d _ (zk6 _)] at hv
  rw [e, eu, hl, zkk]
  exact ZcM hv ew
 | succ s ih =>
  intro i k o c b hs hi hk ho hw hc hb hz hv
  obtain ⟨k, rfl⟩ : ∃ m, k = m + 1 := ⟨k - 1, by omega⟩
  have i1 : d.length - (i + 1) = s := by omega
  have i2 : i + 1 ≤ d.length := by omega
  have i3 : s < k := by omega
  have i4 : i < o.length := by omega
  have g0 : (i : Int) < (d.length : Int) := by omega
  have g1 : (i : Int) < (o.length : Int) := by omega
  have g2 : (b : Int) ≤ 1 := by omega
  have b3 : i < 4611686018427387904 := by omega
  have hzi := hz i (zk6 _)
  have tu := ZU u i
  have td := ZU d i
  obtain ⟨p0, p1⟩ := Z01 hu i
  obtain ⟨q0, q1⟩ := Z01 hd i
  have ed := Z1D q0
  generalize hwn : (d.getD i 0).toNat = w at *
  have w1 : w < 18446744073709551616 := zki.1 (ed ▸ q1)
  have hbd := Z5B (o := 0) (c := c) (x := w) (y := n) Zd hc w1 hn
  rw [zkU] at hbd
  obtain ⟨m1, m2⟩ := Z9x (o := c) (c := 0) (p := w * n) (h := w * n / 18446744073709551616) (l := w * n % 18446744073709551616) Zo (zks _ Zd)
  have c1 : (w * n % 18446744073709551616 + c) % 18446744073709551616 < 18446744073709551616 := zks _ Zd
  have c2 : w * n / 18446744073709551616 + (w * n % 18446744073709551616 + c) / 18446744073709551616 < 18446744073709551616 := by
   have : (c + w * n) / 18446744073709551616 = w * n / 18446744073709551616 + (w * n % 18446744073709551616 + c) / 18446744073709551616 := by omega
   omega
  have c3 : (w * n % 18446744073709551616 + c) % 18446744073709551616 + 18446744073709551616 * (w * n / 18446744073709551616 + (w * n % 18446744073709551616 + c) / 18446744073709551616) = w * n + c := by omega
  clear m1 m2 hbd
  generalize hL : (w * n % 18446744073709551616 + c) % 18446744073709551616 = L at *
  obtain ⟨b', hb', eb, ew⟩ := Z5e (x := u.getD i 0) (y := (L : Int)) (c := b) p0 p1 (zk1 _) (zki.2 c1) hb
  have slo := Z5Q (u.getD i 0) (L : Int) (b : Int)
  have shi := Z5R (u.getD i 0) (L : Int) (b : Int)
  rw [zk0] at ew
  have s1 : add64s ((w * n % 18446744073709551616 : Nat) : Int) (c : Int) 0 = (L : Int) := by
   rw [Z49]; simp only [zk0, Zk2, zkB]; rw [hL]
  have s2 : add64c ((w * n % 18446744073709551616 : Nat) : Int) (c : Int) 0 = (((w * n % 18446744073709551616 + c) / 18446744073709551616 : Nat) : Int) := by
   rw [Z4L]; simp only [zk0, Zk2, zkB]
  simp only [Z0v.l0]
  rw [if_pos g0, if_pos (zk1 _), if_pos g0, Z06, ed, Z5f w n w1 hn, Z4, if_pos g1, if_pos g2, Z06, hzi]
  dsimp only
  rw [s1, s2, Z4Y c2, eb, Z0d b3, zk0]
  refine ih (i + 1) k _ _ b' i1 i2 i3 (by rw [zk9]; exact ho) (Z1V hw _ slo shi) c2 hb' ?_ ?_
  ·intro m hm
   rw [Nm.Z1p _ _ _ _ (Zke hm)]
   exact hz m (Nat.le_of_succ_le hm)
  rw [Z0S o _ _ i4, td, tu, zkk]
  exact ZcL hv ew c3
theorem Z5P (u d : List Int) (hu : Ws u) (hd : Ws d) (n k : Nat) (hn : n < 18446744073709551616) (hl : u.length = d.length + 1) (nd : d.length < 35184372088832) (hk : d.length < k) :
  ∃ (b : Nat) (r : List Int), Z0v.f k u d n = some (decide (b > 0), r) ∧ b ≤ 1 ∧ r.length = u.length ∧ Ws r ∧ val r + n * val d = val u + 18446744073709551616 ^ u.length * b := by
 unfold Z0v.f
 exact Zbw u d hu hd n hn hl nd _ 0 k u 0 0 rfl (zkD _) hk rfl hu Zd Zd (fun _ _ => rfl) (by simp [val])
theorem Zbx (u d : List Int) (hu : Ws u) (hd : Ws d) (hl : u.length = d.length + 1) (nd : d.length < 35184372088832) (s : Nat) : ∀ (i k : Nat) (o : List Int) (c : Nat), d.length - i = s → i ≤ d.length → s < k → o.length = u.length → Ws o → c ≤ 1 → (∀ m, i ≤ m → o.getD m 0 = u.getD m 0) →
  val (o.take i) + 18446744073709551616 ^ i * c = val (u.take i) + val (d.take i) →
  ∃ (c' : Nat) (r : List Int), Z0w.l0 k o d c d d.length i = some r ∧ r.length = u.length ∧ Ws r ∧ val r + 18446744073709551616 ^ u.length * c' = val u + val d := by
 induction s with
 | zero =>
  intro i k o c hs hi hk ho hw hc hz hv
  obtain ⟨k, rfl⟩ : ∃ m, k = m + 1 := ⟨k - 1, by omega⟩
  obtain rfl : i = d.length := by omega
  have g0 : ¬ ((d.length : Int) < (d.length : Int)) := by omega
  have g1 : (d.length : Int) < (o.length : Int) := by omega
  have i1 : d.length < o.length := by omega
  obtain ⟨p0, p1⟩ := Z01 hu d.length
  have hzm := hz d.length (zk6 _)
  have eu := Z05 u d.length Zo
  rw [Zr u _ Zo] at eu
  rw [Zr d _ (zk6 _)] at hv
  have ew := Z1D p0
  generalize hwn : (u.getD d.length 0).toNat = w at *
  have c1 : (w + c) % 18446744073709551616 < 18446744073709551616 := zks _ Zd
  have c2 : (w + c) % 18446744073709551616 + 18446744073709551616 * ((w + c) / 18446744073709551616) = w + c := Nat.mod_add_div _ _
  refine ⟨(w + c) / 18446744073709551616, o.set d.length (((w + c) % 18446744073709551616 : Nat) : Int), ?_, by rw [zk9]; exact ho, Z1V hw _ (zk1 _) (zki.2 c1), ?_⟩
  ·simp only [Z0w.l0]
   rw [if_neg g0, if_pos (zk1 _), if_pos g1, Z06, hzm, ew, Zgg, zk0]
  have e := Z0S o d.length (((w + c) % 18446744073709551616 : Nat) : Int) i1
  rw [Zr _ (d.length + 1) (by rw [zk9]; omega), zk0] at e
  rw [e, eu, hl, zkk]
  have f : 18446744073709551616 ^ d.length * ((w + c) % 18446744073709551616 + 18446744073709551616 * ((w + c) / 18446744073709551616)) = 18446744073709551616 ^ d.length * (w + c) := by rw [c2]
  rw [zkp, zkp, ← zkc] at f
  omega
 | succ s ih =>
  intro i k o c hs hi hk ho hw hc hz hv
  obtain ⟨k, rfl⟩ : ∃ m, k = m + 1 := ⟨k - 1, by omega⟩
  have i1 : d.length - (i + 1) = s := by omega
  have i2 : i + 1 ≤ d.length := by omega
  have i3 : s < k := by omega
  have i4 : i < o.length := by omega
  have g0 : (i : Int) < (d.length : Int) := by omega
  have g1 : (i : Int) < (o.length : Int) := by omega
  have g2 : (c : Int) ≤ 1 := by omega
  have b3 : i < 4611686018427387904 := by omega
  have hzi := hz i (zk6 _)
  have tu := ZU u i
  have td := ZU d i
  obtain ⟨p0, p1⟩ := Z01 hu i
  obtain ⟨q0, q1⟩ := Z01 hd i
  obtain ⟨c', hc', ed⟩ := Z7h (x := u.getD i 0) (y := d.getD i 0) (c := c) p1 q1 hc
  have hs' : (add64s (u.getD i 0) (d.getD i 0) c).toNat + 18446744073709551616 * c' = (u.getD i 0).toNat + (d.getD i 0).toNat + c := by
   rw [Z49]; rw [Z4L] at ed
   simp only [zk0] at ed ⊢
   omega
  simp only [Z0w.l0]
  rw [if_pos g0, if_pos (zk1 _), if_pos g0, if_pos g1, if_pos g2, Z06, Z06, hzi, ed, Z0d b3, zk0]
  refine ih (i + 1) k _ c' i1 i2 i3 (by rw [zk9]; exact ho) (Z1V hw _ (Z7f _ _ _) (Z7g _ _ _)) hc' ?_ ?_
  ·intro m hm
   rw [Nm.Z1p _ _ _ _ (Zke hm)]
   exact hz m (Nat.le_of_succ_le hm)
  rw [Z0S o _ _ i4, td, tu, zkk]
  exact Z3u hs' hv
theorem Zek (u d : List Int) (hu : Ws u) (hd : Ws d) (k : Nat) (hl : u.length = d.length + 1) (nd : d.length < 35184372088832) (hk : d.length < k) :
  ∃ (c : Nat) (r : List Int), Z0w.f k u d = some r ∧ r.length = u.length ∧ Ws r ∧ val r + 18446744073709551616 ^ u.length * c = val u + val d := by
 unfold Z0w.f
 exact Zbx u d hu hd hl nd _ 0 k u 0 rfl (zkD _) hk rfl hu Zd (fun _ _ => rfl) (by simp [val])
theorem Zat {g e r c : Nat} (hc : c < 18446744073709551616) : (g * e ≤ r * 18446744073709551616 + c) ↔ (g * e / 18446744073709551616 < r ∨ (g * e / 18446744073709551616 = r ∧ g * e % 18446744073709551616 ≤ c)) := by
 generalize g * e = p
 omega
theorem Z6H {y d e u c Q : Nat} (hy : y = d * 18446744073709551616 + e) (hd : 9223372036854775808 ≤ d) (hd' : d < 18446744073709551616) (he : e < 18446744073709551616) (hc : c < 18446744073709551616) (hQ : Q = min 18446744073709551615 ((u * 18446744073709551616 + c) / y)) (n : Nat) : ∀ (k g r : Nat), g * d + r = u → Q ≤ g → g < 18446744073709551616 → r < 18446744073709551616 → 18446744073709551616 ≤ r + n * 9223372036854775808 → 2 * n < k →
  Z02.l0 k c d e g r = some (Q : Int) := by
 induction n with
 | zero => intro k g r _ _ _ hr hn _; omega
 | succ n ih =>
  intro k g r hg hq hg2 hr hn hk
  obtain ⟨k, rfl⟩ : ∃ m, k = m + 2 := ⟨k - 2, by omega⟩
  have hyp : 0 < y := by omega
  have t := Zat (g := g) (e := e) (r := r) hc
  have pass : g * e ≤ r * 18446744073709551616 + c → g = Q := fun h => by
   have := Z7e (d := c) hy hyp hg h
   omega
  have fin : (g * e ≤ r * 18446744073709551616 + c) → Z02.j2 (k + 1) c d e g r true = some (Q : Int) := fun h => by
   simp only [Z02.j2]; rw [if_pos trivial, pass h]
  have fail : ¬ (g * e ≤ r * 18446744073709551616 + c) → Z02.j2 (k + 1) c d e g r false = some (Q : Int) := fun h => by
   have lt := ZcK (d := c) hy hyp hg Zo
   have g0 : 0 < g := Nat.zero_lt_of_lt lt
   have e2 := Z7j g0 hg
   have i1 : Q ≤ g - 1 := by omega
   have ex : 18446744073709551616 ≤ r + d → g - 1 = Q := fun h2 => by
    have hz : (g - 1) * e ≤ 18446744073709551616 * 18446744073709551616 := zkR Zo Zo
    have := Z7e (q := g - 1) (r := r + d) (d := c) hy hyp e2 (by
     have : 18446744073709551616 * 18446744073709551616 ≤ (r + d) * 18446744073709551616 := zka _ h2
     omega)
    omega
   have i2 : g - 1 < 18446744073709551616 := by omega
   have i4 : 18446744073709551616 ≤ r + d + n * 9223372036854775808 := by omega
   have i5 : 2 * n < k := by omega
   have s1 : add64s (r : Int) (d : Int) 0 = (((r + d) % 18446744073709551616 : Nat) : Int) := by
    rw [Z49]; simp only [zk0, Zk2, zkB]
   have s2 : add64c (r : Int) (d : Int) 0 = (((r + d) / 18446744073709551616 : Nat) : Int) := by
    rw [Z4L]; simp only [zk0, Zk2, zkB]
   simp only [Z02.j2]
   rw [if_neg Zd, s1, s2, Z5h g0 hg2]
   by_cases h2 : 18446744073709551616 ≤ r + d
   ·rw [if_pos (by clear s1 s2; omega), ex h2]
   have m1 : (r + d) % 18446744073709551616 = r + d := zkA Zo
   rw [if_neg (by clear s1 s2; omega), m1]
   exact ih k (g - 1) (r + d) e2 i1 i2 (by clear s1 s2; omega) i4 i5
  have w1 : g < 18446744073709551616 := hg2
  simp only [Z02.l0]
  rw [Z5f g e w1 he, Z4]
  dsimp only
  generalize g * e / 18446744073709551616 = H at *
  generalize g * e % 18446744073709551616 = L at *
  by_cases h1 : H < r
  ·rw [if_pos (zki.2 h1)]
   exact fin (t.2 (.inl h1))
  rw [if_neg (fun h => h1 (zki.1 h))]
  by_cases h2 : H = r
  ·rw [if_pos (congrArg Nat.cast h2)]
   by_cases h3 : L ≤ c
   ·rw [decide_eq_true (Zkf.2 h3)]
    exact fin (t.2 (.inr ⟨h2, h3⟩))
   rw [decide_eq_false (fun h => h3 (Zkf.1 h))]
   exact fail (fun h => (t.1 h).elim h1 (fun h => h3 h.2))
  rw [if_neg (show ¬ (H : Int) = (r : Int) from fun h => h2 (Int.ofNat.inj h))]
  exact fail (fun h => (t.1 h).elim h1 (fun h => h2 h.1))
theorem Zd2 (k a b c d e : Nat) (hd : 9223372036854775808 ≤ d) (hd' : d < 18446744073709551616) (hb : b < 18446744073709551616) (hc : c < 18446744073709551616) (he : e < 18446744073709551616) (ha : a ≤ d) (hk : 60 < k) :
  Z02.f k a b c d e = some ((min 18446744073709551615 (((a * 18446744073709551616 + b) * 18446744073709551616 + c) / (d * 18446744073709551616 + e)) : Nat) : Int) := by
 unfold Z02.f
 obtain ⟨k, rfl⟩ : ∃ m, k = m + 1 := ⟨k - 1, by omega⟩
 obtain ⟨y, hy⟩ : ∃ y, y = d * 18446744073709551616 + e := ⟨_, rfl⟩
 obtain ⟨u, hu⟩ : ∃ u, u = a * 18446744073709551616 + b := ⟨_, rfl⟩
 obtain ⟨Q, hQ⟩ : ∃ Q, Q = min 18446744073709551615 ((u * 18446744073709551616 + c) / y) := ⟨_, rfl⟩
 rw [← hy, ← hu, ← hQ]
 have hyp : 0 < y := by omega
 by_cases h : a < d
 ·have hq := Z6d h hb
  have hm : (a * 18446744073709551616 + b) % d < d := zks _ Zo
  have hdm := zkF (a * 18446744073709551616 + b) d
  rw [if_pos (zki.2 h), Z8E (k + 1) a b d h hb hd' Zo, Z4]
  dsimp only
  simp only [Z02.j0]
  rw [← hu] at hq hm hdm ⊢
  refine Z6H hy hd hd' he hc hQ 3 k _ _ (by rw [zkl]; exact hdm) ?_ hq Zo Zo Zo
  rw [hQ]
  refine zk2 (Nat.min_le_right _ _) ?_
  rw [← Nat.lt_succ_iff, zkM hyp]
  have f1 : u < d * (u / d + 1) := Nat.lt_mul_div_succ u Zo
  have f2 : (u + 1) * 18446744073709551616 ≤ d * (u / d + 1) * 18446744073709551616 := zka _ f1
  have f3 : (u / d + 1) * y = d * (u / d + 1) * 18446744073709551616 + (u / d + 1) * e := by rw [hy, zkp, ← zkc, zkl (u / d + 1) d]
  have : u * 18446744073709551616 + c < (u / d + 1) * y := by rw [f3]; omega
  exact this
 have had : a = d := by omega
 subst had
 have s1 : add64s (b : Int) (a : Int) 0 = (((b + a) % 18446744073709551616 : Nat) : Int) := by
  rw [Z49]; simp only [zk0, Zk2, zkB]
 have s2 : add64c (b : Int) (a : Int) 0 = (((b + a) / 18446744073709551616 : Nat) : Int) := by
  rw [Z4L]; simp only [zk0, Zk2, zkB]
 have e0 : 18446744073709551615 * a + (b + a) = u := by omega
 rw [if_neg (fun h2 => h (zki.1 h2)), s1, s2]
 by_cases h2 : 18446744073709551616 ≤ b + a
 ·have hz : 18446744073709551615 * e ≤ (b + a) * 18446744073709551616 + c := by
   have : 18446744073709551616 * 18446744073709551616 ≤ (b + a) * 18446744073709551616 := zka _ h2
   omega
  have := Z7e (d := c) hy hyp e0 hz
  have hQ2 : Q = 18446744073709551615 := by omega
  rw [if_pos (by clear s1 s2; omega), hQ2]; rfl
 have m1 : (b + a) % 18446744073709551616 = b + a := zkA Zo
 rw [if_neg (by clear s1 s2; omega), m1]
 simp only [Z02.j0]
 exact Z6H hy hd hd' he hc hQ 3 k 18446744073709551615 (b + a) e0 (by rw [hQ]; exact Nat.min_le_left _ _) Zd (by clear s1 s2; omega) (by clear s1 s2; omega) Zo
theorem Zfu (U : List Int) (hU : Ws U) (j n : Nat) (hn : 2 ≤ n) (hl : j + n < U.length) : val ((U.take (j + n + 1)).drop j) =
  (((U.getD (j + n) 0).toNat * 18446744073709551616 + (U.getD (j + n - 1) 0).toNat) * 18446744073709551616 + (U.getD (j + n - 2) 0).toNat) * 18446744073709551616 ^ (n - 2) + val ((U.take (j + n - 2)).drop j) ∧ val ((U.take (j + n - 2)).drop j) < 18446744073709551616 ^ (n - 2) := by
 obtain ⟨m, rfl⟩ : ∃ m, n = m + 2 := ⟨n - 2, by omega⟩
 have e1 : j + (m + 2) - 1 = j + m + 1 := by omega
 have e2 : j + (m + 2) - 2 = j + m := by omega
 have e3 : m + 2 - 2 = m := by omega
 have e4 : j + (m + 2) = j + m + 2 := by omega
 rw [e1, e2, e3, e4]
 have st : ∀ i, j ≤ i → i < U.length → val ((U.take (i + 1)).drop j) = val ((U.take i).drop j) + 18446744073709551616 ^ (i - j) * (U.getD i 0).toNat := by
  intro i hi hl
  rw [List.take_succ_eq_append_getElem hl, List.drop_append_of_le_length (by rw [zk8]; omega), Z33, zke, zk8, Zkc Zo, List.getD_eq_getElem?_getD, List.getElem?_eq_getElem hl]
  simp [val]
 constructor
 ·have s1 := st (j + m + 2) Zo Zo
  have s2 := st (j + m + 1) Zo Zo
  have s3 := st (j + m) Zo Zo
  have f1 : j + m + 2 - j = m + 2 := by omega
  have f2 : j + m + 1 - j = m + 1 := by omega
  have f3 : j + m - j = m := by omega
  rw [f1] at s1
  rw [f2] at s2
  rw [f3] at s3
  have hp2 : 18446744073709551616 ^ (m + 2) = 18446744073709551616 ^ m * (18446744073709551616 * 18446744073709551616) := by rw [zkk, zkk, zkc]
  rw [s1, s2, s3, hp2, zkk]
  clear hp2 s1 s2 s3
  generalize (U.getD (j + m + 2) 0).toNat = a
  generalize (U.getD (j + m + 1) 0).toNat = b
  generalize (U.getD (j + m) 0).toNat = c
  generalize val ((U.take (j + m)).drop j) = v
  generalize 18446744073709551616 ^ m = P
  rw [zkH, zkH, zkH, zkc P, zkc P, zkl c P]
  have g0 : a * 18446744073709551616 * 18446744073709551616 = 18446744073709551616 * 18446744073709551616 * a := by omega
  have g1 : a * 18446744073709551616 * 18446744073709551616 * P = P * (18446744073709551616 * 18446744073709551616 * a) := by rw [g0, zkl]
  have g2 : b * 18446744073709551616 * P = P * (18446744073709551616 * b) := by rw [zkl _ P, zkl b]
  rw [g1, g2]
  have g3 : P * (18446744073709551616 * 18446744073709551616) * a = P * (18446744073709551616 * 18446744073709551616 * a) := by rw [zkc]
  have g4 : P * 18446744073709551616 * b = P * (18446744073709551616 * b) := by rw [zkc]
  omega
 have h := Z1M (Z5O (Z2X hU (j + m)) j)
 rw [zke, zk8, Zkc Zo] at h
 have : j + m - j = m := by omega
 rw [this] at h; exact h
theorem Zau (A r R : List Int) (j h : Nat) (hA : A.length = j) (hr : j + r.length = h) : ((A ++ r ++ R).take h).drop j = r ∧ (A ++ r ++ R).take j = A ∧ (A ++ r ++ R).drop h = R := by
 subst hA hr
 have e : A.length + r.length = (A ++ r).length := by simp
 refine ⟨?_, ?_, ?_⟩
 ·rw [e, List.take_left, List.drop_left]
 ·rw [zkS, List.take_left]
 rw [e, List.drop_left]
theorem Zav (U : List Int) (j h : Nat) (hj : j ≤ h) (hh : h ≤ U.length) : U = U.take j ++ (U.take h).drop j ++ U.drop h := by
 have e : U.take j = (U.take h).take j := by rw [List.take_take]; congr 1; omega
 rw [e, Zk8, Zk8]
theorem Zel (d : List Int) (hd : Ws d) (n : Nat) (hn : 2 ≤ n) (hl : d.length = n) : val d = ((d.getD (n - 1) 0).toNat * 18446744073709551616 + (d.getD (n - 2) 0).toNat) * 18446744073709551616 ^ (n - 2) + val (d.take (n - 2)) ∧ val (d.take (n - 2)) < 18446744073709551616 ^ (n - 2) := by
 obtain ⟨m, rfl⟩ : ∃ m, n = m + 2 := ⟨n - 2, by omega⟩
 have e1 : m + 2 - 1 = m + 1 := by omega
 have e3 : m + 2 - 2 = m := by omega
 rw [e1, e3]
 refine ⟨?_, Z2l hd m⟩
 have s1 := Z05 d (m + 1) Zo
 have s2 := Z05 d m Zo
 rw [Zr d _ Zo] at s1
 rw [s1, s2, zkk]
 generalize (d.getD (m + 1) 0).toNat = a
 generalize (d.getD m 0).toNat = b
 generalize val (d.take m) = v
 generalize 18446744073709551616 ^ m = P
 rw [zkH, zkl b P, zkl (a * 18446744073709551616) P, zkl a, ← zkc P]
 omega
theorem Zd3 {A P W V Q R q : Nat} (h : W = Q * V + R) : A + P * R + V * (P * (Q + 18446744073709551616 * q)) = A + P * W + V * (P * 18446744073709551616 * q) := by
 subst h
 rw [zkp, zkp, zkp, ← zkc P 18446744073709551616 q]
 have e : P * (Q * V) = V * (P * Q) := by rw [zkl Q V, zkT]
 rw [e]; omega
theorem Zaw (U d : List Int) (hU : Ws U) (hd : Ws d) (n j k : Nat) (hn : 2 ≤ n) (hl : d.length = n) (hj : j + n < U.length) (nU : U.length < 35184372088832) (htop : 9223372036854775808 ≤ (d.getD (n - 1) 0).toNat) (hlt : val (U.drop (j + 1)) < val d) (hk : n + 100 < k) :
  ∃ (G Q : Nat) (b : Nat) (r : List Int), Z02.f k (U.getD (j + n) 0) (U.getD (j + n - 1) 0) (U.getD (j + n - 2) 0) (d.getD (n - 1) 0) (d.getD (n - 2) 0) = some (G : Int) ∧ G < 18446744073709551616 ∧
   Z1A.f k U j ((j + n + 1 : Nat) : Int) d G = some (decide (b > 0), U.take j ++ r ++ U.drop (j + n + 1)) ∧ b ≤ 1 ∧ r.length = n + 1 ∧ Ws r ∧
   val (U.drop j) = val ((U.take (j + n + 1)).drop j) ∧ val (U.drop (j + n + 1)) = 0 ∧ Q = val ((U.take (j + n + 1)).drop j) / val d ∧
   (b = 0 → G = Q ∧ val r = val ((U.take (j + n + 1)).drop j) % val d) ∧
   (b = 1 → G = Q + 1 ∧ ∃ r', Z1W.f k (U.take j ++ r ++ U.drop (j + n + 1)) j ((j + n + 1 : Nat) : Int) d = some (U.take j ++ r' ++ U.drop (j + n + 1)) ∧ r'.length = n + 1 ∧ Ws r' ∧ val r' = val ((U.take (j + n + 1)).drop j) % val d) := by
 have hV : val d < 18446744073709551616 ^ n := by rw [← hl]; exact Z1M hd
 obtain ⟨t1, t2⟩ := Zel d hd n hn hl
 obtain ⟨w1, w2⟩ := Zfu U hU j n hn hj
 -- what lies above is 0
 have sp := Z1O (U.drop (j + 1)) n (by rw [zke]; omega)
 rw [List.drop_drop] at sp
 have e1 : j + 1 + n = j + n + 1 := by omega
 rw [e1] at sp
 have hz : val (U.drop (j + n + 1)) = 0 := by
  rcases Zk4 (val (U.drop (j + n + 1))) with h | h
  ·exact h
  have := zku (18446744073709551616 ^ n) h
  omega
 have sj := Z1O (U.drop j) (n + 1) (by rw [zke]; omega)
 rw [List.drop_drop] at sj
 have e2 : j + (n + 1) = j + n + 1 := by omega
 rw [e2, hz, Zk3, zkB] at sj
 have e3 : (U.drop j).take (n + 1) = (U.take (j + n + 1)).drop j := by
  rw [List.take_drop]
  have : j + (n + 1) = j + n + 1 := by omega
  rw [this]
 rw [e3] at sj
 have vd := Z2S U j Zo
 obtain ⟨a0, a1⟩ := Z01 hU (j + n)
 obtain ⟨b0, b1⟩ := Z01 hU (j + n - 1)
 obtain ⟨c0, c1⟩ := Z01 hU (j + n - 2)
 obtain ⟨d0, d1⟩ := Z01 hd (n - 1)
 obtain ⟨f0, f1⟩ := Z01 hd (n - 2)
 obtain ⟨u0, u1⟩ := Z01 hU j
 have ea := Z1D a0
 have eb := Z1D b0
 have ec := Z1D c0
 have ed := Z1D d0
 have ef := Z1D f0
 have ww : Ws ((U.take (j + n + 1)).drop j) := Z5O (Z2X hU _) _
 have wl : ((U.take (j + n + 1)).drop j).length = d.length + 1 := by rw [zke, zk8]; omega
 -- the highest word is no greater
 have had : (U.getD (j + n) 0).toNat ≤ (d.getD (n - 1) 0).toNat := by
  have s1 := Z1O (U.drop (j + 1)) (n - 1) (by rw [zke]; omega)
  rw [List.drop_drop] at s1
  have f1 : j + 1 + (n - 1) = j + n := by omega
  rw [f1, Z2S U (j + n) hj] at s1
  have s2 := Z05 d (n - 1) Zo
  have f2 : n - 1 + 1 = n := by omega
  rw [f2, Zr d n Zo] at s2
  have s3 := Z2l hd (n - 1)
  have g1 : 18446744073709551616 ^ (n - 1) * (U.getD (j + n) 0).toNat ≤ val (U.drop (j + 1)) := by
   rw [s1, zkp]; omega
  have g2 : 18446744073709551616 ^ (n - 1) * (U.getD (j + n) 0).toNat < 18446744073709551616 ^ (n - 1) * ((d.getD (n - 1) 0).toNat + 1) := by
   rw [zkp, Nat.mul_one]; omega
  have := Nat.lt_of_mul_lt_mul_left g2
  omega
 generalize ha : (U.getD (j + n) 0).toNat = a at *
 generalize hb : (U.getD (j + n - 1) 0).toNat = b at *
 generalize hc : (U.getD (j + n - 2) 0).toNat = c at *
 generalize hd1 : (d.getD (n - 1) 0).toNat = D at *
 generalize he1 : (d.getD (n - 2) 0).toNat = E at *
 have la : b < 18446744073709551616 := zki.1 (eb ▸ b1)
 have lc : c < 18446744073709551616 := zki.1 (ec ▸ c1)
 have lD : D < 18446744073709551616 := zki.1 (ed ▸ d1)
 have lE : E < 18446744073709551616 := zki.1 (ef ▸ f1)
 have hdig := Zd2 k a b c D E htop lD la lc lE had Zo
 obtain ⟨G, hG⟩ : ∃ G, G = min 18446744073709551615 (((a * 18446744073709551616 + b) * 18446744073709551616 + c) / (D * 18446744073709551616 + E)) := ⟨_, rfl⟩
 rw [← hG] at hdig
 have hGl : G < 18446744073709551616 := by rw [hG]; exact zkq (Nat.min_le_left _ _) Zd
 obtain ⟨bb, r, hless, hb1, hrl, hrw, hre⟩ := Z5P ((U.take (j + n + 1)).drop j) d ww hd G k hGl wl Zo Zo
 obtain ⟨cc, r', hback, hrl', hrw', hre'⟩ := Zek r d hrw hd k Zo Zo Zo
 have kn := Zgf (M := 18446744073709551616) (K := 18446744073709551616 ^ (n - 2)) (U := (a * 18446744073709551616 + b) * 18446744073709551616 + c) (u := val ((U.take (j + n - 2)).drop j)) (V := D * 18446744073709551616 + E) (v := val (d.take (n - 2))) (Q := val ((U.take (j + n + 1)).drop j) / val d) (G := G) w2 t2 Zo hG Zd (by rw [← w1, ← t1]) (by rw [← w1, ← t1, ← sj, vd]; omega)
 have hVp : 0 < val d := by omega
 have hlen : ((U.take (j + n + 1)).drop j).length = n + 1 := by omega
 rw [hlen] at hre
 have hrl2 : r.length = n + 1 := by omega
 rw [hrl2] at hre' hrl'
 have hrb : val r < 18446744073709551616 ^ (n + 1) := by rw [← hrl2]; exact Z1M hrw
 have hrb' : val r' < 18446744073709551616 ^ (n + 1) := by rw [← hrl']; exact Z1M hrw'
 have hVE : val d ≤ 18446744073709551616 ^ (n + 1) := zk2 (zkG hV) (zkj Zd Zo)
 have lb := Zbi hVp rfl kn.1 kn.2 hVE hb1 hre hrb hre' hrb'
 have i1 : (j : Int) < ((j + n + 1 : Nat) : Int) := by omega
 have i2 : ((j + n + 1 : Nat) : Int) ≤ (U.length : Int) := by omega
 refine ⟨G, _, bb, r, by rw [ea, eb, ec, ed, ef]; exact hdig, hGl, ?_, hb1, hrl2, hrw, sj, hz, rfl, lb.1, fun h => ⟨(lb.2 h).1, r', ?_, hrl', hrw', (lb.2 h).2⟩⟩
 ·unfold Z1A.f
  rw [if_pos (zk1 _), if_pos i1, if_pos i2, zk0, zk0, hless, Z4]
 obtain ⟨v1, v2, v3⟩ := Zau (U.take j) r (U.drop (j + n + 1)) j (j + n + 1) (by rw [zk8]; omega) Zo
 have i3 : ((j + n + 1 : Nat) : Int) ≤ ((U.take j ++ r ++ U.drop (j + n + 1)).length : Int) := by
  rw [zkW, zkW, zk8, zke]; omega
 unfold Z1W.f
 rw [if_pos (zk1 _), if_pos i1, if_pos i3, zk0, zk0, v1, v2, v3, hback, Z4]
theorem Zd4 (d : List Int) (hd : Ws d) (n s : Nat) (hn : 2 ≤ n) (hl : d.length = n) (htop : 9223372036854775808 ≤ (d.getD (n - 1) 0).toNat) (hs : s < 64) (L : Nat) (hL : L < 35184372088832) (U0 : Nat) (c : Nat) : ∀ (k : Nat) (U q : List Int), c + n ≤ L → c ≤ q.length → U.length = L → Ws U → Ws q → q.length < 35184372088832 → c + 4 * L + q.length + 300 < k →
  val (U.drop c) < val d → val U + val d * (18446744073709551616 ^ c * val (q.drop c)) = U0 →
  ZK.l0 k s d U n q ((c : Int) - 1) = some (ofN (U0 / val d), ofN (U0 % val d / 2 ^ s)) := by
 induction c with
 | zero =>
  intro k U q hc hcq hUl hU hq nq hk hlt hv
  obtain ⟨k, rfl⟩ : ∃ m, k = m + 1 := ⟨k - 1, by omega⟩
  rw [Zk9] at hlt
  rw [Zk9, Nat.pow_zero, Zk6] at hv
  have hVp : 0 < val d := by omega
  obtain ⟨h1, h2⟩ := Z6B (a := U0) (d := val d) (q := val q) (r := val U) Zo hlt
  have hVn : val d < 18446744073709551616 ^ n := by rw [← hl]; exact Z1M hd
  have hz := Z1O U n Zo
  have hUn : val (U.take n) = val U := by
   rcases Zk4 (val (U.drop n)) with h | h
   ·rw [h] at hz; omega
   have := zku (18446744073709551616 ^ n) h
   omega
  have i1 : (n : Int) ≤ (U.length : Int) := by omega
  have e0 : ¬ (((0 : Nat) : Int) - 1 ≥ 0) := by omega
  have l1 : (ofN (val U)).length ≤ U.length := (Z0N _ _).2 (Z1M hU)
  have f1 := Z2D _ (U.take n) k rfl (Z2X hU n) (by rw [zk8]; omega) (by rw [zk8]; omega)
  rw [hUn] at f1
  have f2 := Z9t (ofN (val U)) s k (ZE _) Zo Zo (fun x => by rw [Ze] at x; exact Z4U.2 x) Zo
  rw [Ze] at f2
  have f3 := Z2D _ q k rfl hq Zo Zo
  simp only [ZK.l0]
  rw [if_neg e0, if_pos (zk1 _), if_pos i1, zk0, f1, Z4, f2, Z4, f3, Z4, h1, h2]
 | succ j ih =>
  intro k U q hc hcq hUl hU hq nq hk hlt hv
  obtain ⟨k, rfl⟩ : ∃ m, k = m + 1 := ⟨k - 1, by omega⟩
  obtain ⟨G, Q, b, r, s1, s2, s3, s4, s5, s6, s7, s8, s9, s10, s11⟩ := Zaw U d hU hd n j k hn hl Zo Zo htop hlt Zo
  have e0 : ((j + 1 : Nat) : Int) - 1 = (j : Int) := by omega
  have b0 : (j : Int) ≥ 0 := by omega
  have w1 : j + n < 4611686018427387904 := by omega
  have q1 : j < q.length := by omega
  have c1 : ((j + n : Nat) : Int) < (U.length : Int) := by omega
  have c2 : ((j + n - 1 : Nat) : Int) < (U.length : Int) := by omega
  have c3 : ((j + n - 2 : Nat) : Int) < (U.length : Int) := by omega
  have c4 : ((n - 1 : Nat) : Int) < (d.length : Int) := by omega
  have c5 : ((n - 2 : Nat) : Int) < (d.length : Int) := by omega
  have c6 : (j : Int) ≤ ((j + n + 1 : Nat) : Int) := by omega
  have c7 : ((j + n + 1 : Nat) : Int) ≤ (U.length : Int) := by omega
  have c8 : (j : Int) < (q.length : Int) := by omega
  have hVp : 0 < val d := by omega
  have split := Zav U j (j + n + 1) Zo Zo
  have hAl : (U.take j).length = j := by rw [zk8]; omega
  have wl : ((U.take (j + n + 1)).drop j).length = n + 1 := by rw [zke, zk8]; omega
  have wR : Ws (U.drop (j + n + 1)) := Z5O hU _
  have wA : Ws (U.take j) := Z2X hU _
  have hdm := zkF (val ((U.take (j + n + 1)).drop j)) (val d)
  rw [← s9, zkl] at hdm
  have vU : val U = val (U.take j) + 18446744073709551616 ^ j * val ((U.take (j + n + 1)).drop j) := by
   have := Z1O U j Zo
   rw [s7] at this; exact this
  have hm : val ((U.take (j + n + 1)).drop j) % val d < val d := zks _ hVp
  -- what the next round is handed
  have go : ∀ (X : List Int) (g : Nat), g = Q → X.length = n + 1 → Ws X → val X = val ((U.take (j + n + 1)).drop j) % val d → Q < 18446744073709551616 →
    ZK.l0 k s d (U.take j ++ X ++ U.drop (j + n + 1)) n (q.set j (g : Int)) ((j : Int) - 1) = some (ofN (U0 / val d), ofN (U0 % val d / 2 ^ s)) := by
   intro X g hg hX wX vX hQ
   subst hg
   have hlX : (U.take j ++ X ++ U.drop (j + n + 1)).length = L := by
    rw [zkW, zkW, hAl, hX, zke]; omega
   have dX : (U.take j ++ X ++ U.drop (j + n + 1)).drop j = X ++ U.drop (j + n + 1) := by
    have := List.drop_left (l₁ := U.take j) (l₂ := X ++ U.drop (j + n + 1))
    rw [hAl] at this
    rw [zkS]; exact this
   have vX2 : val (X ++ U.drop (j + n + 1)) = val X := by rw [Z33, s8]; omega
   refine ih k _ _ Zo (by rw [zk9]; omega) hlX (Z2O.2 ⟨Z2O.2 ⟨wA, wX⟩, wR⟩) (Z1V hq _ (zk1 _) (zki.2 hQ)) (by rw [zk9]; exact nq) (by rw [zk9]; omega) (by rw [dX, vX2, vX]; exact hm) ?_
   have vN : val (U.take j ++ X ++ U.drop (j + n + 1)) = val (U.take j) + 18446744073709551616 ^ j * val X := by
    rw [zkS, Z33, vX2, hAl]
   rw [vN, vX, Z2S (q.set j _) j (by rw [zk9]; exact q1), Z8u, Nm.Z2B _ _ _ q1, zk0, ← hv, vU, zkk]
   exact Zd3 hdm.symm
  have w2 : wrap64 ((j : Int) + (n : Int)) = ((j + n : Nat) : Int) := by rw [ZL Zo Zo]; omega
  have w3 : wrap64 (((j + n : Nat) : Int) - 1) = ((j + n - 1 : Nat) : Int) := by clear w2; rw [ZL Zo Zo]; omega
  have w4 : wrap64 (((j + n : Nat) : Int) - 2) = ((j + n - 2 : Nat) : Int) := by clear w2 w3; rw [ZL Zo Zo]; omega
  have w5 : wrap64 ((n : Int) - 1) = ((n - 1 : Nat) : Int) := by clear w2 w3 w4; rw [ZL Zo Zo]; omega
  have w6 : wrap64 ((n : Int) - 2) = ((n - 2 : Nat) : Int) := by clear w2 w3 w4 w5; rw [ZL Zo Zo]; omega
  have w7 : wrap64 ((j : Int) - 1) = (j : Int) - 1 := by clear w2 w3 w4 w5 w6; exact Z5J Zo
  rw [e0]
  simp only [ZK.l0]
  rw [if_pos b0, w2, w3, w4, w5, w6, w7, Z0d w1, if_pos (zk1 _), if_pos c1, if_pos (zk1 _), if_pos c2, if_pos (zk1 _), if_pos c3, if_pos (zk1 _), if_pos c4, if_pos (zk1 _), if_pos c5, Z06, Z06, Z06, Z06, Z06, s1, Z4, if_pos (zk1 _), if_pos c6, if_pos c7, s3, Z4, zk0]
  clear w2 w3 w4 w5 w6 w7
  by_cases hb : b = 0
  ·obtain ⟨t1, t2⟩ := s10 hb
   have hbb : decide (b > 0) = false := decide_eq_false Zo
   dsimp only
   rw [hbb, if_neg Bool.false_ne_true, if_pos c8]
   exact go r G t1 s5 s6 t2 Zo
  obtain ⟨t1, r', t2, t3, t4, t5⟩ := s11 Zo
  have hbb : decide (b > 0) = true := decide_eq_true Zo
  have hdec : IntKind.u64.wrap ((G : Int) - 1) = ((G - 1 : Nat) : Int) := Z5h Zo s2
  dsimp only
  rw [hbb, if_pos rfl, t2, Z4, if_pos c8, hdec]
  exact go r' (G - 1) Zo t3 t4 t5 Zo
theorem Zem {v : Nat} (h : v ≠ 0) : ∃ m w : Nat, (ofN v).length = m + 1 ∧ (ofN v).getD m 0 = (w : Int) ∧ w < 18446744073709551616 ∧ w ≠ 0 ∧ 64 - bl w < 64 ∧ (ofN (v * 2 ^ (64 - bl w))).length = m + 1 ∧ 9223372036854775808 ≤ ((ofN (v * 2 ^ (64 - bl w))).getD m 0).toNat := by
 obtain ⟨m, w, h1, h2, h3, h4, h5⟩ := Z6F h
 have c := Z4i h4
 have c0 := Z3W h3
 have hp : 0 < 2 ^ (64 - bl w) := zkh Zd
 have hv : v * 2 ^ (64 - bl w) ≠ 0 := by
  have := zkz (show 0 < v by omega) hp
  omega
 obtain ⟨m', w', g1, g2, g3, g4, g5⟩ := Z6F hv
 rw [Z4s h] at g2
 have d := Z4i g4
 have d0 := Z3W g3
 have em : m' = m := by omega
 subst em
 have ew : bl w' = 64 := by omega
 have := Z4c g3
 rw [ew] at this
 refine ⟨m', w, h1, h5, h4, h3, by omega, g1, ?_⟩
 rw [g5, zk0]
 have e : (2 : Nat) ^ 64 = 18446744073709551616 := by decide
 rw [e] at this
 omega
theorem Zen {d : List Int} (hd : Ws d) (m : Nat) (hl : d.length = m + 1) (h : 9223372036854775808 ≤ (d.getD m 0).toNat) : 18446744073709551616 ^ m * 9223372036854775808 ≤ val d := by
 have s2 := Z05 d m Zo
 rw [Zr d (m + 1) Zo] at s2
 have := zky (18446744073709551616 ^ m) h
 omega
theorem Z7I {P Q V a s : Nat} (ha : a < P * Q) (hs : 2 ^ s ≤ 9223372036854775808) (hV : Q * 9223372036854775808 ≤ V) : a * 2 ^ s < P * V := by
 have h1 : a * 2 ^ s ≤ a * 9223372036854775808 := zky _ hs
 have h2 : a * 9223372036854775808 < P * Q * 9223372036854775808 := zkx ha Zd
 have h3 : P * (Q * 9223372036854775808) ≤ P * V := zky _ hV
 rw [← zkc] at h3
 omega
theorem Z8I (a b k : Nat) (hb : b ≠ 0) (la : (ofN a).length ≤ 1024) (lb : (ofN b).length ≤ 1024) (hk : 10000 < k) : ZK.f k (ofN a) (ofN b) = some (ofN (a / b), ofN (a % b)) := by
 unfold ZK.f
 rw [Z8v a b k Zo Zo, Z4]
 by_cases h : a < b
 ·have e : Z2y a b = -1 := by unfold Z2y; rw [if_pos h]
  rw [e, if_pos Zd, zkP h, zkA h, Z0e]
 have e : ¬ Z2y a b < 0 := by
  unfold Z2y; rw [if_neg h]; split <;> decide
 rw [if_neg e]
 obtain ⟨m, w, h1, h2, h3, h4, h5, h6, h7⟩ := Zem hb
 by_cases z : m = 0
 ·subst z
  have hbw : b = w := by
   have := Z05 (ofN b) 0 Zo
   rw [Zr _ _ Zo, Ze, h2] at this
   simpa [val] using this
  have f1 := Z8F (ofN a) (ZE a) w k Zo h3 Zo Zo
  rw [Ze] at f1
  have hm : a % w < w := zks _ Zo
  have f2 := Z2D 1 [((a % w : Nat) : Int)] k rfl (Z2c.2 ⟨by omega, Z2d⟩) Zd Zo
  have f3 : val [((a % w : Nat) : Int)] = a % w := by rw [Z24, Z2Y, zk0]; omega
  have c1 : ((ofN b).length : Int) = 1 := by omega
  have c2 : 0 < ((ofN b).length : Int) := by omega
  have r0 : rd (ofN b) 0 = (w : Int) := (Z06 (ofN b) 0).trans h2
  rw [if_pos c1, if_pos c2, r0, f1, Z4, f2, Z4, f3, hbw]
 have c1 : ¬ ((ofN b).length : Int) = 1 := by omega
 have hlen := Z0E (show b ≤ a by omega)
 obtain ⟨A, hA⟩ : ∃ A, (ofN a).length = A := ⟨_, rfl⟩
 have c2 : (m : Int) < ((ofN b).length : Int) := by omega
 have f0 := Z7H k w h3 Zo
 have hne : ofN b ≠ [] := fun x => hb (Z4U.1 x)
 have hna : ofN a ≠ [] := fun x => by rw [Z4U] at x; omega
 generalize 64 - bl w = s at *
 have s64 : s / 64 = 0 := by omega
 have f1 := Z4X (ofN b) s k (ZE b) Zo hne Zo Zo
 have f2 := Z4X (ofN a) s k (ZE a) Zo hna Zo Zo
 rw [Ze] at f1 f2
 have hp : 0 < 2 ^ s := zkh Zd
 have hps : 2 ^ s ≤ 9223372036854775808 := by
  have : 2 ^ s ≤ 2 ^ 63 := zkj Zd Zo
  exact this
 -- how long the shifted number is
 have haB : a < 18446744073709551616 ^ A := by rw [← hA]; exact (Z0N a _).1 (zk6 _)
 have lT : (ofN (a * 2 ^ s)).length ≤ A + 1 := by
  rw [Z0N, zkk]
  have := Z7I (P := 1) (Q := 18446744073709551616 ^ A) (V := 18446744073709551616 ^ A * 9223372036854775808) (a := a) (s := s) Zo hps (zk6 _)
  omega
 have hd := ZE (b * 2 ^ s)
 have tp := Zen hd m h6 h7
 rw [Ze] at tp
 have c0 : A - m + (m + 1) = A + 1 := by omega
 have cA : A + 1 ≤ 35184372088832 := by omega
 have cB : A - m ≤ 35184372088832 := by omega
 have c3 : ((ofN b).length : Int) - 1 = (m : Int) := by omega
 obtain ⟨T, hT⟩ : ∃ T, ofN (a * 2 ^ s) = T := ⟨_, rfl⟩
 have mn : min T.length (List.replicate (A + 1) (0 : Int)).length = T.length := by rw [List.length_replicate, ← hT]; omega
 have hU : (T.take T.length ++ (List.replicate (A + 1) (0 : Int)).drop T.length) = T ++ List.replicate (A + 1 - T.length) 0 := by rw [List.take_length, List.drop_replicate]
 have lT' : T.length ≤ A + 1 := by rw [← hT]; exact lT
 have lU : (T ++ List.replicate (A + 1 - T.length) (0 : Int)).length = A + 1 := by simp; omega
 have wT : Ws T := by rw [← hT]; exact ZE _
 have wU : Ws (T ++ List.replicate (A + 1 - T.length) (0 : Int)) := Z2O.2 ⟨wT, Z0Y _⟩
 have vU : val (T ++ List.replicate (A + 1 - T.length) (0 : Int)) = a * 2 ^ s := by rw [Z33, Z2M, ← hT, Ze]; simp
 have hdl : 2 ≤ m + 1 := by omega
 have lm : m + 1 ≤ A := by omega
 have start : val ((T ++ List.replicate (A + 1 - T.length) (0 : Int)).drop (A - m)) < val (ofN (b * 2 ^ s)) := by
  have sp := Z1O (T ++ List.replicate (A + 1 - T.length) (0 : Int)) (A - m) (by rw [lU]; omega)
  rw [vU] at sp
  rw [Ze]
  have eP : 18446744073709551616 ^ A = 18446744073709551616 ^ (A - m) * 18446744073709551616 ^ m := by rw [← zkb]; congr 1; omega
  have := Z7I (P := 18446744073709551616 ^ (A - m)) (Q := 18446744073709551616 ^ m) (V := b * 2 ^ s) (a := a) (s := s) (by rw [← eP]; exact haB) hps tp
  have g : 18446744073709551616 ^ (A - m) * val ((T ++ List.replicate (A + 1 - T.length) (0 : Int)).drop (A - m)) < 18446744073709551616 ^ (A - m) * (b * 2 ^ s) := by
   omega
  exact Nat.lt_of_mul_lt_mul_left g
 have key := Zd4 (ofN (b * 2 ^ s)) hd (m + 1) s hdl h6 h7 h5 (A + 1) Zo (a * 2 ^ s) (A - m) k (T ++ List.replicate (A + 1 - T.length) 0) (List.replicate (A - m) 0) Zo (by simp) lU wU (Z0Y _) (by simp; omega) (by simp; omega) start (by rw [vU, Zk7 (by simp)]; simp [val])
 obtain ⟨b1, b2⟩ := Z6D (v := a) (s := s) (show 0 < b by omega)
 rw [Ze, b1, b2] at key
 have e1 : wrap64 (((ofN b).length : Int) - 1) = (m : Int) := by rw [ZL Zo Zo]; omega
 have wrA : wrap64 (((ofN a).length : Int) + 1) = ((A + 1 : Nat) : Int) := by rw [hA]; exact Z0d Zo
 have wrB : wrap64 (((ofN a).length : Int) - ((ofN (b * 2 ^ s)).length : Int)) = ((A - m : Nat) : Int) - 1 := by clear e1 wrA; rw [ZL Zo Zo]; omega
 have wrC : wrap64 (((A - m : Nat) : Int) - 1 + 1) = ((A - m : Nat) : Int) := by clear e1 wrA wrB; rw [ZL Zo Zo]; omega
 rw [if_neg c1, e1, if_pos (zk1 _), if_pos c2, Z06, h2, f0, Z4, f1, Z4, wrA, if_pos (zk1 _), zk0, if_pos cA, Z4, f2, Z4, wrB, wrC, if_pos (zk1 _), zk0, if_pos cB, hT, mn, hU, h6]
 exact key
def Z7k (a b : Nat) : List Int × List Int × Int := if a < big ∧ b < big then (if b = 0 then ([], [], 30) else (ofN (a / b), ofN (a % b), 0)) else ([], [], 3)
theorem Zby (a b : List Int) (k : Nat) (ha : Ws a) (hb : Ws b) (na : a.length < 17592186044000) (nb : b.length < 17592186044000) (hk : a.length + b.length + 20000 < k) : Z3y.f k a b = some (Z7k (val a) (val b)) := by
 unfold Z3y.f Z7k
 rw [Z9p a b k ha hb Zo Zo Zo Zo, Z4]
 by_cases h : val a < big ∧ val b < big
 ·have la := Z0X h.1
  have lb := Z0X h.2
  simp only [if_pos h]
  rw [if_pos trivial]
  by_cases z : val b = 0
  ·have z' := Z1f.2 z
   rw [if_pos z, if_pos Zo]
  have z' : (ofN (val b)).length ≠ 0 := fun x => z (Z1f.1 x)
  have l1 := zk2 (Z0E (zkI (val a) (val b))) la
  have l2 := zk2 (Z0E (Nat.mod_le (val a) (val b))) la
  have o1 := Z3p (ofN (val a / val b)) Zo
  have o2 := Z3p (ofN (val a % val b)) Zo
  rw [if_neg z, if_neg Zo, Z8I _ _ k z la lb Zo, Z4]
  dsimp only
  rw [o1, Z4, o2, Z4]
 simp only [if_neg h]
 rw [if_neg Zd]
end Go.Proofs.YtjnfipkbgmdpaaaGreatDoor.Nf
