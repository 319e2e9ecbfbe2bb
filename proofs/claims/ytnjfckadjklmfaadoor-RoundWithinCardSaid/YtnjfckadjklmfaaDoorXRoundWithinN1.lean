/- Plain part. -/
import Derived.Test.YtnjfckadjklmfaaDoorXRoundWithinN0
import Derived.Test.YtnjfckadjklmfaaDoorXRoundWithinP18
namespace Go.Proofs.YtnjfckadjklmfaaDoor.Nf
open RowKit YtnjfckadjklmfaaDoor.PAll YtnjfckadjklmfaaDoorW.PrintWords YtnjfckadjklmfaaDoorW.PrintLast YtnjfckadjklmfaaDoorW.PrintMore YtnjfckadjklmfaaDoor.Nm
set_option linter.unusedVariables false
set_option linter.unusedSimpArgs false
theorem Z8L (A : List Int) (ha : Ws A) (s : Nat) (hs : s < 64) (lost : Bool) (na : A.length < 35184372088832) (r : Nat) : ∀ (j k : Nat) (o : List Int), A.length - j = r → j ≤ A.length → r + A.length + 3 < k → o.length = A.length → Ws o →
  2 ^ s * val (o.take j) + (A.getD 0 0).toNat % 2 ^ s = val (A.take j) + 18446744073709551616 ^ j * ((A.getD j 0).toNat % 2 ^ s) →
  Z0c.l0 k A lost o s A (A.length : Int) j = some (ofN (val A / 2 ^ s), lost) := by
 induction r with
 | zero =>
  intro j k o hr hj hk ho hw hv
  obtain ⟨k, rfl⟩ : ∃ m, k = m + 1 := ⟨k - 1, by omega⟩
  obtain rfl : j = A.length := by omega
  simp only [Z0c.l0]
  rw [if_neg Zo, Z26 _ _ hw Zo Zo, Zc]
  rw [Z2g A A.length Zo, ZP o _ Zo, ZP A _ Zo] at hv
  have h0 : (A.getD 0 0).toNat % 2 ^ s < 2 ^ s := zkH _ (zkc Zd)
  have := (Z5A h0 (show 2 ^ s * val o + (A.getD 0 0).toNat % 2 ^ s = val A by rw [hv]; simp)).1
  rw [this]
 | succ r ih =>
  intro j k o hr hj hk ho hw hv
  obtain ⟨k, rfl⟩ : ∃ m, k = m + 1 := ⟨k - 1, by omega⟩
  have i1 : A.length - (j + 1) = r := by omega
  have i2 : j + 1 ≤ A.length := by omega
  have i3 : r + A.length + 3 < k := by omega
  have i4 : j < o.length := by omega
  have g1 : (j : Int) < (A.length : Int) := by omega
  have g3 : (j : Int) < (o.length : Int) := by omega
  have g4 : ((j + 1 : Nat) : Int) < (A.length : Int) ↔ j + 1 < A.length := by omega
  have b3 : j < 4611686018427387904 := by omega
  have hs' : s ≤ 64 := by omega
  have hs6 : 64 - s ≤ 64 := by omega
  have hsp : (s : Int) > 0 ↔ 0 < s := by omega
  have hs1 : -9223372036854775808 ≤ (64 : Int) - (s : Int) := by omega
  have hs2 : (64 : Int) - (s : Int) < 9223372036854775808 := by omega
  have hs3 : (64 : Int) - (s : Int) = ((64 - s : Nat) : Int) := by omega
  have hs0 : ¬ 0 < s → s = 0 := by omega
  have hge : ¬ j + 1 < A.length → A.length ≤ j + 1 := by omega
  simp only [Z0c.l0]
  rw [if_pos g1, if_pos (zk5 _), if_pos g1, if_pos (zk5 _), if_pos g3, Z0N b3, Zc]
  simp only [Z0M, zk4]
  obtain ⟨p0, p1⟩ := Z0H ha j
  obtain ⟨p2, p3⟩ := Z0H ha (j + 1)
  have ew := Z2o p0
  have ew' := Z2o p2
  generalize hwn : (A.getD j 0).toNat = w at ew
  generalize hwn' : (A.getD (j + 1) 0).toNat = w' at ew'
  have w1 : w < 18446744073709551616 := zkt.1 (ew ▸ p1)
  rw [ew, Z2Z _ _ hs', Nm.Z2q _ _ _ i4, List.set_set]
  have key : ∀ v : Nat, v = w / 2 ^ s + 2 ^ (64 - s) * (w' % 2 ^ s) → Z0c.l0 k A lost (o.set j (v : Int)) s A (A.length : Int) ((j + 1 : Nat) : Int) = some (ofN (val A / 2 ^ s), lost) := by
   intro v hv2
   have l1 : v < 18446744073709551616 := by rw [hv2]; exact Z3R hs' w1
   refine ih (j + 1) k _ i1 i2 i3 (by rw [zki]; exact ho) (Z2Y hw _ (zk5 _) (zkt.2 l1)) ?_
   rw [Z21 o j _ i4, Z0h, hwn', hwn, zk4, zkp]
   rw [hwn] at hv
   exact Z4R (Z0O hs') hv2 hv
  by_cases h : 0 < s
  ·rw [if_pos (hsp.2 h)]
   by_cases g : j + 1 < A.length
   ·rw [if_pos (g4.2 g), if_pos (zk5 _), ZU hs1 hs2, hs3, if_pos (zk5 _), ew', Z6F h hs w1]
    exact key _ rfl
   rw [if_neg (fun x => g (g4.1 x))]
   refine key _ ?_
   rw [Z2g A _ (hge g)] at hwn'
   have : w' = 0 := hwn'.symm
   rw [this]; simp
  have h00 := hs0 h
  rw [if_neg (fun x => h (hsp.1 x))]
  refine key _ ?_
  rw [h00]; simp [Nat.mod_one]
theorem Z5f (t m n : Nat) : (2 ^ t * (2 * m + 1)) % 2 ^ n ≠ 0 ↔ t < n := by
 constructor
 ·intro h
  refine Classical.byContradiction fun g => h ?_
  rw [show t = n + (t - n) by omega, zke, zkj]
  exact Nat.mul_mod_right _ _
 intro h e
 obtain ⟨c, hc⟩ := Nat.dvd_of_mod_eq_zero e
 rw [show n = t + (1 + (n - t - 1)) by omega, zke, zke, zkj] at hc
 have := Nat.eq_of_mul_eq_mul_left (zkc Zd) hc
 rw [Nat.pow_one, zkj] at this
 omega
theorem ZaM (a : List Int) (n k : Nat) (ha : Ws a) (hn : n < 4611686018427387904) (na : a.length < 17592186044000) (hk : 3 * a.length + 10 < k) :
  Z0c.f k a n = some (ofN (val a / 2 ^ n), decide (val a % 2 ^ n ≠ 0)) := by
 unfold Z0c.f
 have hl : (ofN (val a)).length ≤ a.length := (Z1g (val a) a.length).2 (Z20 ha)
 rw [Z26 a k ha Zo Zo, Zc]
 generalize hv : val a = v at *
 have wv : Ws (ofN v) := ZT v
 by_cases h0 : v = 0
 ·subst h0
  rw [Z0e, if_pos (show ((([] : List Int).length : Nat) : Int) = 0 from rfl), Nat.zero_div, Nat.zero_mod, Z0e]; rfl
 obtain ⟨t, m, e⟩ := Z1F v h0
 have hne : (ofN v).length ≠ 0 := fun h => h0 (Z1o.1 h)
 have q0 : ¬ ((ofN v).length : Int) = 0 := by omega
 have ql : (ofN v).length < 17592186044000 := by omega
 have qk : 3 * (ofN v).length + 10 < k := by omega
 rw [if_neg q0, ((Z7w v k Zo Zo).2 t m e), Zc]
 have hd : decide ((t : Int) < (n : Int)) = decide (v % 2 ^ n ≠ 0) := by
  rw [decide_eq_decide, e, Z5f]; omega
 rw [hd]
 have e2 : Int.tmod (n : Int) 64 = ((n % 64 : Nat) : Int) := by
  rw [zks Zo]; omega
 have en : n = 64 * (n / 64) + n % 64 := by omega
 have hs : n % 64 < 64 := by omega
 have e1 : wrap64 (Int.tdiv (n : Int) 64) = ((n / 64 : Nat) : Int) := by
  have a1 : (-9223372036854775808 : Int) ≤ ((n / 64 : Nat) : Int) := by omega
  have a2 : ((n / 64 : Nat) : Int) < 9223372036854775808 := by omega
  rw [zko (zk5 n)]
  exact ZU a1 a2
 rw [e1, e2]
 generalize n / 64 = q at *
 generalize n % 64 = s at *
 generalize hL : (ofN v).length = L at *
 by_cases h : L ≤ q
 ·have q1 : (q : Int) ≥ (L : Int) := by omega
  rw [if_pos q1]
  have h1 : v < 2 ^ n := by
   have := (Z1g v L).1 (zk0 hL)
   refine zkn this ?_
   have e : 18446744073709551616 ^ L = 2 ^ (64 * L) := by rw [zkD]
   rw [e]; exact zkl Zd Zo
  rw [zkA h1, Z0e]
 have c1 : ¬ ((q : Int) ≥ (L : Int)) := by omega
 have c3 : (q : Int) ≤ (L : Int) := by omega
 have hdl : ((ofN v).drop q).length = L - q := by rw [zkk, hL]
 have c5 : ((L - q : Nat) : Int).toNat ≤ 35184372088832 := by rw [zk4]; omega
 have c6 : L - q < 35184372088832 := by omega
 have c7 : (L - q) + (L - q) + 3 < k := by omega
 rw [if_neg c1, if_pos (zk5 _), if_pos c3, Zc, zk4, hdl, if_pos (zk5 _), if_pos c5, zk4]
 have hp := (Z4u (q := q) (s := s) wv hs Zo).1
 rw [Zy] at hp
 have := Z8L ((ofN v).drop q) (Zan wv q) s hs (decide (v % 2 ^ n ≠ 0)) (by rw [hdl]; exact c6) _ 0 k (List.replicate (L - q) 0) rfl (zkC _) (by rw [hdl]; exact c7) (by rw [hdl, List.length_replicate]) (Z1J _) (by simp [val])
 rw [hdl] at this
 rw [en, hp, ← en]
 exact this
noncomputable def tz (n : Nat) : Nat := if h : n ≠ 0 then Classical.choose (Z1F n h) else 0
theorem Z3e {n t m : Nat} (h : n = 2 ^ t * (2 * m + 1)) : tz n = t := by
 have h0 : n ≠ 0 := by rw [h]; exact zkJ (zkx (zkc Zd) Zo)
 unfold tz
 rw [dif_pos h0]
 obtain ⟨m', hm⟩ := Classical.choose_spec (Z1F n h0)
 exact Z4e (hm.symm.trans h)
noncomputable def od (n : Nat) : Nat := n / 2 ^ tz n
theorem Z4D {n t m : Nat} (h : n = 2 ^ t * (2 * m + 1)) : od n = 2 * m + 1 := by
 unfold od
 rw [Z3e h, h, Nat.mul_div_cancel_left _ (zkc Zd)]
theorem Za1 (n : Nat) : od n ≤ n := Nat.div_le_self _ _
theorem Z3Y (n : Nat) : od n * 2 ^ tz n = n := by
 by_cases h : n = 0
 ·subst h; unfold od; rw [Nat.zero_div, zkB]
 obtain ⟨t, m, e⟩ := Z1F n h
 rw [Z4D e, Z3e e, e, zkw]
theorem Z3L {n : Nat} (h : n ≠ 0) : od n ≠ 0 := fun e => h (by have := Z3Y n; rw [e, zkB] at this; exact this.symm)
noncomputable def cf (s : Bool) (n : Nat) (e : Int) : Bool × List Int × Int := if n = 0 then (false, [], 0) else (s, ofN (od n), e + (tz n : Int))
theorem Z14 (s : Bool) (e : Int) : cf s 0 e = (false, [], 0) := by unfold cf; rw [if_pos rfl]
theorem Z1y {n : Nat} (h : n ≠ 0) (s : Bool) (e : Int) : cf s n e = (s, ofN (od n), e + (tz n : Int)) := by unfold cf; rw [if_neg h]
theorem Z8M {n : Nat} (h : n ≠ 0) (j : Nat) : tz (n * 2 ^ j) = tz n + j ∧ od (n * 2 ^ j) = od n := by
 obtain ⟨t, m, e⟩ := Z1F n h
 have e2 : n * 2 ^ j = 2 ^ (t + j) * (2 * m + 1) := by rw [e, zke, Nat.mul_right_comm]
 exact ⟨by rw [Z3e e2, Z3e e], by rw [Z4D e2, Z4D e]⟩
theorem Z8N (s : Bool) (n j : Nat) (e : Int) : cf s (n * 2 ^ j) e = cf s n (e + j) := by
 by_cases h : n = 0
 ·subst h; rw [zkB, Z14, Z14]
 have h2 : n * 2 ^ j ≠ 0 := zkJ (zkx (Nat.pos_of_ne_zero h) (zkc Zd))
 rw [Z1y h, Z1y h2, (Z8M h j).1, (Z8M h j).2]
 congr 2
 omega
theorem Z5g {n : Nat} (h : n ≠ 0) : tz n < bl n := by
 obtain ⟨t, m, e⟩ := Z1F n h
 rw [Z3e e]; exact Z6K e
theorem Z3j {n m : Nat} (h : (ofN n).length ≤ m) : bl n ≤ 64 * m := by
 rw [Z1K]
 have := (Z1g n m).1 h
 rw [zkD]; exact this
theorem Z2h (n : Nat) : (ofN (od n)).length ≤ (ofN n).length := Z2b (Za1 n)
theorem Z37 (s : Bool) (l : List Int) (e : Int) (k : Nat) (hw : Ws l) (hl : l.length < 17592186044000) (h0 : -1000000000000000000 ≤ e) (h1 : e ≤ 1000000000000000000) (hk : 100000000000000000 ≤ k) : Z16.f k s l e = some (cf s (val l) e) := by
 unfold Z16.f
 have hn : (ofN (val l)).length ≤ l.length := (Z1g (val l) l.length).2 (Z20 hw)
 rw [Z26 l k hw Zo Zo, Zc]
 generalize val l = v at *
 by_cases h : v = 0
 ·subst h
  rw [Z0e, Z14, if_pos (show ((([] : List Int).length : Nat) : Int) = 0 from rfl)]
 obtain ⟨t, m, e1⟩ := Z1F v h
 have hne : (ofN v).length ≠ 0 := fun h' => h (Z1o.1 h')
 have q0 : ¬ ((ofN v).length : Int) = 0 := by omega
 have ht := Z6K e1
 have hb := Z3j hn
 have ht2 : t < 4611686018427387904 := by omega
 rw [if_neg q0, ((Z7w v k Zo Zo).2 t m e1), Zc, ZaM _ t k (ZT v) ht2 Zo Zo, Zc, Z1y h, Zy, Z3e e1, ZU Zo Zo]
 unfold od
 rw [Z3e e1]
theorem Z3F (s : Bool) (l : List Int) (e : Int) (k : Nat) (hw : Ws l) (hl : l.length < 17592186044000) (h0 : -1000000000000000000 ≤ e) (h1 : e ≤ 1000000000000000000) (hk : 100000000000000000 ≤ k) : Z0v.f k s l e = some (cf s (val l) e) := by
 unfold Z0v.f
 have hn : (ofN (val l)).length ≤ l.length := (Z1g (val l) l.length).2 (Z20 hw)
 rw [Z2O l k hw Zo Zo, Zc]
 generalize val l = v at *
 by_cases h : v = 0
 ·subst h
  rw [Z0e, Z14, if_pos (show ((([] : List Int).length : Nat) : Int) = 0 from rfl)]
 obtain ⟨t, m, e1⟩ := Z1F v h
 have hne : (ofN v).length ≠ 0 := fun h' => h (Z1o.1 h')
 have q0 : ¬ ((ofN v).length : Int) = 0 := by omega
 have ht := Z6K e1
 have hb := Z3j hn
 have ht2 : t < 4611686018427387904 := by omega
 rw [if_neg q0, ZaK (ofN v) k (ZT v) (by rw [Zy]; exact e1) ht2 Zo Zo, Zc, ZaF (ofN v) t k (ZT v) Zo Zo Zo, Zc, Z1y h, Zy, Z3e e1, ZU Zo Zo]
 unfold od
 rw [Z3e e1]
def sg (s : Bool) (n : Nat) : Int := if s then -(n : Int) else (n : Int)
def lowE : Int := -4000000
def Vz (z e : Int) : Int := z * 2 ^ (e - lowE).toNat
noncomputable def cz (z e : Int) : Bool × List Int × Int := cf (decide (z < 0)) z.natAbs e
theorem Z38 (s : Bool) : sg s 0 = 0 := by cases s <;> rfl
theorem Z5h (s : Bool) (n : Nat) : (sg s n).natAbs = n := by cases s <;> simp [sg]
theorem Z6L (s : Bool) (n : Nat) : sg (!s) n = - sg s n := by cases s <;> simp [sg]
theorem ZbC (s : Bool) (n m : Nat) : sg s (n + m) = sg s n + sg s m := by cases s <;> simp [sg] <;> omega
theorem Z8O (s : Bool) {n m : Nat} (h : m ≤ n) : sg s (n - m) = sg s n + sg (!s) m := by cases s <;> simp [sg] <;> omega
theorem ZbD (s : Bool) (n m : Nat) : sg s (n * m) = sg s n * (m : Int) := by cases s <;> simp [sg, Int.neg_mul]
theorem Z5G (j : Nat) : ((2 ^ j : Nat) : Int) = (2 : Int) ^ j := by simp
theorem Z5i (s : Bool) (n j : Nat) : sg s (n * 2 ^ j) = sg s n * 2 ^ j := by rw [ZbD, Z5G]
theorem Z5j (s : Bool) {n : Nat} (h : n ≠ 0) : decide (sg s n < 0) = s := by cases s <;> simp [sg] <;> omega
theorem Z7x (z : Int) : sg (decide (z < 0)) z.natAbs = z := by
 unfold sg
 by_cases h : z < 0
 ·rw [if_pos (decide_eq_true h)]; omega
 rw [if_neg (by simpa using h)]; omega
theorem Z68 (s : Bool) (n : Nat) (e : Int) : cf s n e = cz (sg s n) e := by
 unfold cz
 rw [Z5h]
 by_cases h : n = 0
 ·subst h; rw [Z14, Z14]
 rw [Z5j s h]
theorem Z9D (j : Nat) : (0 : Int) < 2 ^ j := by rw [← Z5G]; exact zkt.2 (zkc Zd)
theorem Z77 (z : Int) (j : Nat) : decide (z * 2 ^ j < 0) = decide (z < 0) := by
 rw [decide_eq_decide]
 have := Z9D j
 constructor
 ·intro h
  refine Classical.byContradiction fun g => ?_
  have := Int.mul_nonneg (Int.not_lt.1 g) (Int.le_of_lt this)
  omega
 intro h; exact Int.mul_neg_of_neg_of_pos h this
theorem ZbE (z : Int) (j : Nat) (e : Int) : cz (z * 2 ^ j) e = cz z (e + j) := by
 unfold cz
 rw [Z77, Int.natAbs_mul, ← Z5G, Int.natAbs_natCast, Z8N]
theorem Z69 {e : Int} (h : lowE ≤ e) (z : Int) : cz z e = cz (Vz z e) lowE := by
 unfold Vz
 rw [ZbE]
 congr 1
 omega
theorem Z6M {e : Int} (h : lowE ≤ e) (z : Int) (j : Nat) : Vz (z * 2 ^ j) e = Vz z (e + j) := by
 unfold Vz
 rw [show (e + j - lowE).toNat = j + (e - lowE).toNat by omega, Int.pow_add, Int.mul_assoc]
theorem Z3x (e : Int) : Vz 0 e = 0 := Int.zero_mul _
theorem Z6N (a b e : Int) : Vz (a + b) e = Vz a e + Vz b e := Int.add_mul _ _ _
theorem Z6O (a e : Int) : Vz (-a) e = - Vz a e := Int.neg_mul _ _
def vl (s : Bool) (l : List Int) (e : Int) : Int := Vz (sg s (val l)) e
theorem Z4E {e : Int} (h : lowE ≤ e) (s : Bool) (l : List Int) : cf s (val l) e = cz (vl s l e) lowE := by rw [Z68, Z69 h]; rfl
theorem Z6a {e : Int} (h : lowE ≤ e) (s : Bool) (n : Nat) : vl (cf s n e).1 (cf s n e).2.1 (cf s n e).2.2 = Vz (sg s n) e := by
 by_cases h0 : n = 0
 ·subst h0; rw [Z14, Z38, Z3x]; unfold vl; rw [Z2f, Z38, Z3x]
 rw [Z1y h0]
 show Vz (sg s (val (ofN (od n)))) (e + (tz n : Int)) = _
 rw [Zy, ← Z6M h, ← Z5i, Z3Y]
theorem Z82 (Z : Int) : vl (cz Z lowE).1 (cz Z lowE).2.1 (cz Z lowE).2.2 = Z := by
 unfold cz
 rw [Z6a (Int.le_refl _), Z7x]
 unfold Vz; rw [Int.sub_self]; simp
theorem Z6P {v : Nat} : (((ofN v).length : Nat) : Int) = 0 ↔ v = 0 := by rw [← Z1o]; omega
theorem Z2z {a m : Nat} (h : (ofN a).length ≤ m) (j : Nat) : (ofN (a * 2 ^ j)).length ≤ m + j / 64 + 1 := by
 rw [Z1g] at h ⊢
 have e : 18446744073709551616 ^ (m + j / 64 + 1) = 18446744073709551616 ^ m * 2 ^ (64 * (j / 64 + 1)) := by rw [Nat.add_assoc, zke, zkD]
 rw [e]
 exact Nat.mul_lt_mul_of_lt_of_le h (zkl Zd Zo) (zkc Zd)
theorem Z4f {a b m : Nat} (ha : (ofN a).length ≤ m) (hb : (ofN b).length ≤ m) : (ofN (a + b)).length ≤ m + 1 := Z76 rfl ((Z1g _ _).1 ha) ((Z1g _ _).1 hb)
theorem Z39 (s : Bool) (l : List Int) (e : Int) (k : Nat) (hw : Ws l) (hl : l.length < 17592186044000) (hk : 100000000000000000 ≤ k) : Z0J.f k s l e = some (decide (val l = 0)) := by
 unfold Z0J.f
 rw [Z26 l k hw Zo Zo, Zc]
 congr 1
 rw [zkm, decide_eq_true_iff, beq_iff_eq, Z6P]
theorem Z9E (s : Bool) (l : List Int) (e : Int) (k : Nat) (hw : Ws l) (hl : l.length < 17592186044000) (hk : 100000000000000000 ≤ k) : Z18.f k s l e = some (decide (val l = 0)) := by
 unfold Z18.f
 rw [Z2O l k hw Zo Zo, Zc]
 congr 1
 rw [zkm, decide_eq_true_iff, beq_iff_eq, Z6P]
def Z19 (n : Nat) (e : Int) : Bool := decide (n < big ∧ -32768 ≤ e ∧ e ≤ 32768)
theorem Z1q {n : Nat} {e : Int} : Z19 n e = true ↔ n < big ∧ -32768 ≤ e ∧ e ≤ 32768 := decide_eq_true_iff
theorem Z7y {n : Nat} {e : Int} (h : n < big) (g : e ≥ -32768) : Z19 n e = decide (e ≤ 32768) := by
 rw [zkm, Z1q, decide_eq_true_iff]
 exact ⟨fun c => c.2.2, fun c => ⟨h, g, c⟩⟩
theorem Z4F {n : Nat} {e : Int} (h : ¬ (n < big ∧ -32768 ≤ e ∧ e ≤ 32768)) : Z19 n e = false := by
 rw [Bool.eq_false_iff]; exact fun c => h (Z1q.1 c)
theorem Z6Q (v : Nat) : (((ofN v).length : Nat) : Int) ≤ 1024 ↔ v < big := by rw [← Z3v]; omega
theorem Z5H (s : Bool) (l : List Int) (e : Int) (k : Nat) (hw : Ws l) (hl : l.length < 17592186044000) (hk : 100000000000000000 ≤ k) : Z1u.f k s l e = some (Z19 (val l) e) := by
 unfold Z1u.f
 rw [Z26 l k hw Zo Zo, Zc]
 by_cases h : val l < big
 ·rw [if_pos ((Z6Q _).2 h)]
  by_cases g : e ≥ -32768
  ·rw [if_pos g, Z7y h g]
  rw [if_neg g, Z4F (fun c => g c.2.1)]
 rw [if_neg (fun c => h ((Z6Q _).1 c))]; rw [Z4F (fun c => h c.1)]
theorem Z4g (s : Bool) (l : List Int) (e : Int) (k : Nat) (hw : Ws l) (hl : l.length < 17592186044000) (hk : 100000000000000000 ≤ k) : ZE.f k s l e = some (Z19 (val l) e) := by
 unfold ZE.f
 rw [Z5H s l e k hw hl hk, Zc]
theorem Z4v (s : Bool) (l : List Int) (e : Int) (k : Nat) (hw : Ws l) (hl : l.length < 17592186044000) (hk : 100000000000000000 ≤ k) : ZV.f k s l e = some (Z19 (val l) e) := by
 unfold ZV.f
 rw [Z8y l k hw Zo Zo, Zc]
 by_cases h : val l < big
 ·rw [if_neg (show ¬ decide (¬ val l < big) = true by rw [decide_eq_true_iff]; exact fun c => c h)]
  by_cases g : e ≥ -32768
  ·rw [if_pos g, Z7y h g]
  rw [if_neg g, Z4F (fun c => g c.2.1)]
 rw [if_pos (decide_eq_true h)]; rw [Z4F (fun c => h c.1)]
structure Rt (l : List Int) (e : Int) : Prop where
 ws : Ws l
 len : l.length < 17592186044000
 sm : (ofN (val l)).length ≤ 8192
 lo : -1000000 ≤ e
 hi : e ≤ 1000000
theorem Rt.lowE {l : List Int} {e : Int} (h : Rt l e) : Nf.lowE ≤ e := by have := h.lo; unfold Nf.lowE; omega
theorem Z4w (s : Bool) (l : List Int) (e : Int) (k : Nat) (h : Rt l e) (hk : 100000000000000000 ≤ k) : Z1f.f k s l e = some (cf s (val l) e) := by
 unfold Z1f.f
 rw [Z37 s l e k h.ws h.len (by have := h.lo; omega) (by have := h.hi; omega) hk, Zc]
theorem Z7z (s : Bool) (l : List Int) (e : Int) (k : Nat) (h : Rt l e) (hk : 100000000000000000 ≤ k) : Z1w.f k s l e = some (cf s (val l) e) := by
 unfold Z1w.f
 rw [Z3F s l e k h.ws h.len (by have := h.lo; omega) (by have := h.hi; omega) hk, Zc]
theorem Za2 (a b : Int) : mn a b = min a b := by unfold mn; rw [Int.min_def]; split <;> split <;> omega
theorem Z3y {a E : Int} (h : E ≤ a) (h1 : a - E < 1000000000000) : wrap64 (a - E) = (((a - E).toNat : Nat) : Int) := by
 rw [ZU Zo Zo]; omega
theorem Z5k (s1 s2 : Bool) (a b : Nat) (e1 e2 E : Int) (k : Nat) (hE : E = min e1 e2) (ha : (ofN a).length ≤ 8192) (hb : (ofN b).length ≤ 8192) (l1 : -2000000 ≤ e1) (u1 : e1 ≤ 2000000) (l2 : -2000000 ≤ e2) (u2 : e2 ≤ 2000000) (hk : 100000000000000000 ≤ k) :
  Z0q.f k s1 (ofN a) e1 s2 (ofN b) e2 = some (ofN (a * 2 ^ (e1 - E).toNat), ofN (b * 2 ^ (e2 - E).toNat), E) := by
 unfold Z0q.f
 have h1 : E ≤ e1 := by omega
 have h2 : E ≤ e2 := by omega
 have h3 : (e1 - E).toNat ≤ 4000000 := by omega
 have h4 : (e2 - E).toNat ≤ 4000000 := by omega
 rw [Za2, ← hE, Z3y h1 Zo, Z3y h2 Zo]
 generalize (e1 - E).toNat = i at *
 generalize (e2 - E).toNat = j at *
 rw [Z7v (ofN a) i k (ZT a) Zo Zo Zo, Zc, Z7v (ofN b) j k (ZT b) Zo Zo Zo, Zc, Zy, Zy]
theorem Z4h {x y : Nat} : Z1E x y ≥ 0 ↔ y ≤ x := by unfold Z1E; split <;> (try split) <;> omega
theorem Z8P {s1 s2 : Bool} {x y : Nat} {E : Int} (hE : lowE ≤ E) :
  (s1 = s2 → cf s1 (x + y) E = cz (Vz (sg s1 x) E + Vz (sg s2 y) E) lowE) ∧ (s1 ≠ s2 → y ≤ x → cf s1 (x - y) E = cz (Vz (sg s1 x) E + Vz (sg s2 y) E) lowE) ∧ (s1 ≠ s2 → x ≤ y → cf s2 (y - x) E = cz (Vz (sg s1 x) E + Vz (sg s2 y) E) lowE) := by
 refine ⟨?_, ?_, ?_⟩
 ·rintro rfl; rw [Z68, Z69 hE, ZbC, Z6N]
 ·intro h g
  have : s2 = !s1 := by cases s1 <;> cases s2 <;> simp_all
  rw [Z68, Z69 hE, Z8O _ g, Z6N, this]
 intro h g
 have : s1 = !s2 := by cases s1 <;> cases s2 <;> simp_all
 rw [Z68, Z69 hE, Z8O _ g, Z6N, this, Int.add_comm]
theorem Z6b {s : Bool} {o : Nat} {e E : Int} (h : lowE ≤ E) (g : E ≤ e) : Vz (sg s (o * 2 ^ (e - E).toNat)) E = Vz (sg s o) e := by
 rw [Z5i, Z6M h]; congr 1; omega
theorem Z3G {n : Nat} {e : Int} (h : lowE ≤ e) (s : Bool) : Vz (sg s (od n)) (e + (tz n : Int)) = Vz (sg s n) e := by
 rw [← Z6M h, ← Z5i, Z3Y]
theorem Z2P {n : Nat} (h : n ≠ 0) (hl : (ofN n).length ≤ 8192) : (tz n : Int) ≤ 600000 := by
 have := Z5g h
 have := Z3j hl
 omega
theorem Z7A (s1 s2 : Bool) (l1 l2 : List Int) (e1 e2 : Int) (k : Nat) (h1 : Rt l1 e1) (h2 : Rt l2 e2) (hk : 200000000000000000 ≤ k) : ZI.f k s1 l1 e1 s2 l2 e2 = some (cz (vl s1 l1 e1 + vl s2 l2 e2) lowE) := by
 unfold ZI.f
 have b1 := h1.lowE
 have b2 := h2.lowE
 have hv1 := h1.sm
 have hv2 := h2.sm
 have d1 := h1.lo; have d2 := h1.hi; have d3 := h2.lo; have d4 := h2.hi
 rw [Z4w s1 l1 e1 k h1 Zo, Zc, Z4w s2 l2 e2 k h2 Zo, Zc]
 have f1 := Z4E b1 s1 l1
 have f2 := Z4E b2 s2 l2
 have v1 : vl s1 l1 e1 = Vz (sg s1 (val l1)) e1 := rfl
 have v2 : vl s2 l2 e2 = Vz (sg s2 (val l2)) e2 := rfl
 generalize val l1 = n1 at *
 generalize val l2 = n2 at *
 by_cases z1 : n1 = 0
 ·have : (cf s1 n1 e1).2.1 = [] := by rw [z1, Z14]
  rw [this, Z39 _ _ _ k Z1B (by simp) Zo, Zc, if_pos (by rw [Z2f]; rfl), f2, v1, z1, Z38, Z3x, Int.zero_add]
 have c1 := Z1y z1 s1 e1
 have o1 := Z3L z1
 rw [c1, Z39 _ _ _ k (ZT _) (by have := Z2h n1; show (ofN (od n1)).length < _; omega) Zo, Zc]
 rw [if_neg (by rw [Zy]; simpa using o1)]
 by_cases z2 : n2 = 0
 ·have : (cf s2 n2 e2).2.1 = [] := by rw [z2, Z14]
  rw [this, Z39 _ _ _ k Z1B (by simp) Zo, Zc, if_pos (by rw [Z2f]; rfl), ← c1, f1, v2, z2, Z38, Z3x, zkL]
 have c2 := Z1y z2 s2 e2
 have o2 := Z3L z2
 rw [c2, Z39 _ _ _ k (ZT _) (by have := Z2h n2; show (ofN (od n2)).length < _; omega) Zo, Zc]
 rw [if_neg (by rw [Zy]; simpa using o2)]
 have t1 := Z2P z1 hv1
 have t2 := Z2P z2 hv2
 have p1 := Z3G b1 s1 (n := n1)
 have p2 := Z3G b2 s2 (n := n2)
 have q1 := Z2h n1
 have q2 := Z2h n2
 show ZI.j0 k s1 (ofN (od n1)) (e1 + (tz n1 : Int)) s2 (ofN (od n2)) (e2 + (tz n2 : Int)) = _
 have g1 : -2000000 ≤ e1 + (tz n1 : Int) ∧ e1 + (tz n1 : Int) ≤ 2000000 := by omega
 have g2 : -2000000 ≤ e2 + (tz n2 : Int) ∧ e2 + (tz n2 : Int) ≤ 2000000 := by omega
 rw [v1, v2, ← p1, ← p2]
 generalize od n1 = x at *
 generalize od n2 = y at *
 generalize e1 + (tz n1 : Int) = a1 at *
 generalize e2 + (tz n2 : Int) = a2 at *
 obtain ⟨k, rfl⟩ : ∃ m, k = m + 1 := ⟨k - 1, by omega⟩
 obtain ⟨E, hE⟩ : ∃ E, E = min a1 a2 := ⟨_, rfl⟩
 simp only [ZI.j0]
 rw [Z5k s1 s2 x y a1 a2 E k hE Zo Zo g1.1 g1.2 g2.1 g2.2 Zo, Zc]
 have lE : lowE ≤ E := by have := g1.1; have := g2.1; unfold lowE; omega
 have bE : -2000000 ≤ E ∧ E ≤ 2000000 := by omega
 have w1 : E ≤ a1 := by omega
 have w2 : E ≤ a2 := by omega
 have y1 : (a1 - E).toNat ≤ 4000000 := by omega
 have y2 : (a2 - E).toNat ≤ 4000000 := by omega
 have L1 := Z2z (zk6 q1 hv1) (a1 - E).toNat
 have L2 := Z2z (zk6 q2 hv2) (a2 - E).toNat
 have S1 := Z6b (s := s1) (o := x) lE w1
 have S2 := Z6b (s := s2) (o := y) lE w2
 have M1 : (ofN (x * 2 ^ (a1 - E).toNat)).length ≤ 100000 := by omega
 have M2 : (ofN (y * 2 ^ (a2 - E).toNat)).length ≤ 100000 := by omega
 generalize x * 2 ^ (a1 - E).toNat = X at *
 generalize y * 2 ^ (a2 - E).toNat = Y at *
 rw [← S1, ← S2]
 obtain ⟨r1, r2, r3⟩ := Z8P (s1 := s1) (s2 := s2) (x := X) (y := Y) lE
 by_cases hs : s1 = s2
 ·rw [if_pos (by rw [beq_iff_eq]; exact hs), ZaL _ _ (ZT X) (ZT Y) Zo Zo k Zo, Zc, Zy, Zy]
  have M3 : (ofN (X + Y)).length < 17592186044000 := by
   have := Z4f M1 M2
   omega
  rw [Z37 s1 _ E k (ZT _) M3 Zo Zo Zo, Zc, Zy, r1 hs]
 rw [if_neg (by rw [beq_iff_eq]; exact hs)]
 obtain ⟨k, rfl⟩ : ∃ m, k = m + 1 := ⟨k - 1, by omega⟩
 simp only [ZI.j1]
 rw [Z7t _ _ k (ZT X) (ZT Y) Zo Zo Zo, Zc, Zy, Zy]
 by_cases g : Y ≤ X
 ·rw [if_pos (Z4h.2 g), Z7u X Y g k Zo Zo, Zc]
  have M3 : (ofN (X - Y)).length < 17592186044000 := by have := Z2b (Nat.sub_le X Y); omega
  rw [Z37 s1 _ E k (ZT _) M3 Zo Zo Zo, Zc, Zy, r2 hs g]
 have g' : X ≤ Y := by omega
 rw [if_neg (fun c => g (Z4h.1 c)), Z7u Y X g' k Zo Zo, Zc]
 have M3 : (ofN (Y - X)).length < 17592186044000 := by have := Z2b (Nat.sub_le Y X); omega
 rw [Z37 s2 _ E k (ZT _) M3 Zo Zo Zo, Zc, Zy, r3 hs g']
structure Rs (l : List Int) (e : Int) : Prop where
 ws : Ws l
 len : l.length < 17592186044000
 sm : (ofN (val l)).length ≤ 2000
 lo : -200000 ≤ e
 hi : e ≤ 200000
theorem Rs.t {l : List Int} {e : Int} (h : Rs l e) : Rt l e := ⟨h.ws, h.len, by have := h.sm; omega, by have := h.lo; omega, by have := h.hi; omega⟩
theorem Z1M {l : List Int} {e : Int} (hw : Ws l) (hl : l.length < 17592186044000) (h : Z19 (val l) e = true) : Rs l e := by
 obtain ⟨a, b, c⟩ := Z1q.1 h
 exact ⟨hw, hl, by have := Z1Y a; omega, by omega, by omega⟩
theorem Za3 (s : Bool) {n : Nat} {e : Int} (hn : (ofN n).length ≤ 2000) (h0 : -400000 ≤ e) (h1 : e ≤ 400000) : Rt (cf s n e).2.1 (cf s n e).2.2 := by
 by_cases h : n = 0
 ·rw [h, Z14]; exact ⟨Z1B, by simp, by rw [Z2f, Z0e]; simp, by show (-1000000 : Int) ≤ 0; omega, by show (0 : Int) ≤ 1000000; omega⟩
 rw [Z1y h]
 have a := Z2h n
 have t := Z5g h
 have b := Z3j hn
 refine ⟨ZT _, ?_, ?_, ?_, ?_⟩
 ·show (ofN (od n)).length < _; omega
 ·show (ofN (val (ofN (od n)))).length ≤ _; rw [Zy]; omega
 ·show -1000000 ≤ e + (tz n : Int); omega
 show e + (tz n : Int) ≤ 1000000; omega
theorem ZbF (s : Bool) (l : List Int) (e : Int) (k : Nat) (h : Rt l e) (hk : 100000000000000000 ≤ k) : Z35.f k s l e = some (cf (!s) (val l) e) := by
 unfold Z35.f
 rw [Z37 _ l e k h.ws h.len (by have := h.lo; omega) (by have := h.hi; omega) hk, Zc]
theorem ZaN (s : Bool) (l : List Int) (e : Int) (k : Nat) (h : Rt l e) (hk : 100000000000000000 ≤ k) : Z1Z.f k s l e = some (cf (!s) (val l) e) := by
 unfold Z1Z.f
 rw [Z3F _ l e k h.ws h.len (by have := h.lo; omega) (by have := h.hi; omega) hk, Zc]
theorem Z8Q (s : Bool) (l : List Int) (e : Int) (k : Nat) (h : Rt l e) (hk : 100000000000000000 ≤ k) : Z2x.f k s l e = some (cf false (val l) e) := by
 unfold Z2x.f
 rw [Z37 _ l e k h.ws h.len (by have := h.lo; omega) (by have := h.hi; omega) hk, Zc]
theorem Z9F (s : Bool) (l : List Int) (e n : Int) (k : Nat) (h : Rt l e) (h0 : -100000000 ≤ n) (h1 : n ≤ 100000000) (hk : 100000000000000000 ≤ k) : Z29.f k s l e n = some (cf s (val l) (e + n)) := by
 unfold Z29.f
 have := h.lo; have := h.hi
 rw [ZU Zo Zo, Z37 _ l _ k h.ws h.len Zo Zo hk, Zc]
theorem ZbG (s : Bool) (l : List Int) (e : Int) : vl (!s) l e = - vl s l e := by unfold vl; rw [Z6L, Z6O]
theorem ZaO (s1 s2 : Bool) (l1 l2 : List Int) (e1 e2 : Int) (k : Nat) (h1 : Rt l1 e1) (h2 : Rs l2 e2) (hk : 200000000000000000 ≤ k) : Z24.f k s1 l1 e1 s2 l2 e2 = some (cz (vl s1 l1 e1 - vl s2 l2 e2) lowE) := by
 unfold Z24.f
 rw [ZbF s2 l2 e2 k h2.t Zo, Zc, Z7A _ _ _ _ _ _ k h1 (Za3 _ h2.sm (by have := h2.lo; omega) (by have := h2.hi; omega)) hk, Zc, Z6a h2.t.lowE, Z6L, Z6O]
 rfl
theorem Z9G (s1 s2 : Bool) (l1 l2 : List Int) (e1 e2 : Int) (k : Nat) (h1 : Rt l1 e1) (h2 : Rt l2 e2) (hk : 200000000000000000 ≤ k) : Zn.f k s1 l1 e1 s2 l2 e2 = some (cz (vl s1 l1 e1 + vl s2 l2 e2) lowE) := by
 unfold Zn.f
 have b1 := h1.lowE
 have b2 := h2.lowE
 have hv1 := h1.sm
 have hv2 := h2.sm
 have d1 := h1.lo; have d2 := h1.hi; have d3 := h2.lo; have d4 := h2.hi
 rw [Z7z s1 l1 e1 k h1 Zo, Zc, Z7z s2 l2 e2 k h2 Zo, Zc]
 have f1 := Z4E b1 s1 l1
 have f2 := Z4E b2 s2 l2
 have v1 : vl s1 l1 e1 = Vz (sg s1 (val l1)) e1 := rfl
 have v2 : vl s2 l2 e2 = Vz (sg s2 (val l2)) e2 := rfl
 generalize val l1 = n1 at *
 generalize val l2 = n2 at *
 by_cases z1 : n1 = 0
 ·have : (cf s1 n1 e1).2.1 = [] := by rw [z1, Z14]
  rw [this, if_pos (show ((([] : List Int).length : Nat) : Int) = 0 from rfl), f2, v1, z1, Z38, Z3x, Int.zero_add]
 have c1 := Z1y z1 s1 e1
 have o1 := Z3L z1
 rw [c1, if_neg (show ¬ (((ofN (od n1)).length : Nat) : Int) = 0 from fun c => o1 (Z6P.1 c))]
 obtain ⟨k, rfl⟩ : ∃ m, k = m + 1 := ⟨k - 1, by omega⟩
 show Zn.j0 (k + 1) s1 (ofN (od n1)) (e1 + (tz n1 : Int)) _ _ _ = _
 simp only [Zn.j0]
 by_cases z2 : n2 = 0
 ·have : (cf s2 n2 e2).2.1 = [] := by rw [z2, Z14]
  rw [this, if_pos (show ((([] : List Int).length : Nat) : Int) = 0 from rfl), ← c1, f1, v2, z2, Z38, Z3x, zkL]
 have c2 := Z1y z2 s2 e2
 have o2 := Z3L z2
 rw [c2, if_neg (show ¬ (((ofN (od n2)).length : Nat) : Int) = 0 from fun c => o2 (Z6P.1 c))]
 have t1 := Z2P z1 hv1
 have t2 := Z2P z2 hv2
 have p1 := Z3G b1 s1 (n := n1)
 have p2 := Z3G b2 s2 (n := n2)
 have q1 := Z2h n1
 have q2 := Z2h n2
 show Zn.j1 k s1 (ofN (od n1)) (e1 + (tz n1 : Int)) s2 (ofN (od n2)) (e2 + (tz n2 : Int)) = _
 have g1 : -2000000 ≤ e1 + (tz n1 : Int) ∧ e1 + (tz n1 : Int) ≤ 2000000 := by omega
 have g2 : -2000000 ≤ e2 + (tz n2 : Int) ∧ e2 + (tz n2 : Int) ≤ 2000000 := by omega
 rw [v1, v2, ← p1, ← p2]
 generalize od n1 = x at *
 generalize od n2 = y at *
 generalize e1 + (tz n1 : Int) = a1 at *
 generalize e2 + (tz n2 : Int) = a2 at *
 obtain ⟨k, rfl⟩ : ∃ m, k = m + 1 := ⟨k - 1, by omega⟩
 obtain ⟨E, hE⟩ : ∃ E, E = min a1 a2 := ⟨_, rfl⟩
 simp only [Zn.j1]
 have lE : lowE ≤ E := by have := g1.1; have := g2.1; unfold lowE; omega
 have bE : -2000000 ≤ E ∧ E ≤ 2000000 := by omega
 have w1 : E ≤ a1 := by omega
 have w2 : E ≤ a2 := by omega
 have y1 : (a1 - E).toNat ≤ 4000000 := by omega
 have y2 : (a2 - E).toNat ≤ 4000000 := by omega
 have L1 := Z2z (zk6 q1 hv1) (a1 - E).toNat
 have L2 := Z2z (zk6 q2 hv2) (a2 - E).toNat
 have S1 := Z6b (s := s1) (o := x) lE w1
 have S2 := Z6b (s := s2) (o := y) lE w2
 have M1 : (ofN (x * 2 ^ (a1 - E).toNat)).length ≤ 100000 := by omega
 have M2 : (ofN (y * 2 ^ (a2 - E).toNat)).length ≤ 100000 := by omega
 rw [Za2, ← hE, Z3y w1 Zo, Z3y w2 Zo, Z7n (ofN x) _ k (ZT x) Zo Zo Zo, Zc, Z7n (ofN y) _ k (ZT y) Zo Zo Zo, Zc, Zy, Zy]
 generalize x * 2 ^ (a1 - E).toNat = X at *
 generalize y * 2 ^ (a2 - E).toNat = Y at *
 rw [← S1, ← S2]
 obtain ⟨r1, r2, r3⟩ := Z8P (s1 := s1) (s2 := s2) (x := X) (y := Y) lE
 by_cases hs : s1 = s2
 ·rw [if_pos (by rw [beq_iff_eq]; exact hs), Zau _ _ k (ZT X) (ZT Y) Zo Zo Zo, Zc, Zy, Zy]
  have M3 : (ofN (X + Y)).length < 17592186044000 := by
   have := Z4f M1 M2
   omega
  rw [Z3F s1 _ E k (ZT _) M3 Zo Zo Zo, Zc, Zy, r1 hs]
 rw [if_neg (by rw [beq_iff_eq]; exact hs), Zav _ _ k (ZT X) (ZT Y) Zo Zo Zo, Zc, Zy, Zy]
 by_cases g : Y ≤ X
 ·rw [if_pos (Z4h.2 g), Z7m _ _ k (ZT X) (ZT Y) Zo Zo (by rw [Zy, Zy]; exact g) Zo, Zc, Zy, Zy]
  have M3 : (ofN (X - Y)).length < 17592186044000 := by have := Z2b (Nat.sub_le X Y); omega
  rw [Z3F s1 _ E k (ZT _) M3 Zo Zo Zo, Zc, Zy, r2 hs g]
 have g' : X ≤ Y := by omega
 rw [if_neg (fun c => g (Z4h.1 c)), Z7m _ _ k (ZT Y) (ZT X) Zo Zo (by rw [Zy, Zy]; exact g') Zo, Zc, Zy, Zy]
 have M3 : (ofN (Y - X)).length < 17592186044000 := by have := Z2b (Nat.sub_le Y X); omega
 rw [Z3F s2 _ E k (ZT _) M3 Zo Zo Zo, Zc, Zy, r3 hs g']
theorem Z8R (s1 s2 : Bool) (l1 l2 : List Int) (e1 e2 : Int) (k : Nat) (h1 : Rt l1 e1) (h2 : Rs l2 e2) (hk : 200000000000000000 ≤ k) : Z1O.f k s1 l1 e1 s2 l2 e2 = some (cz (vl s1 l1 e1 - vl s2 l2 e2) lowE) := by
 unfold Z1O.f
 rw [ZaN s2 l2 e2 k h2.t Zo, Zc, Z9G _ _ _ _ _ _ k h1 (Za3 _ h2.sm (by have := h2.lo; omega) (by have := h2.hi; omega)) hk, Zc, Z6a h2.t.lowE, Z6L, Z6O]
 rfl
def Z22 (x y : Int) : Int := if x < y then -1 else if x = y then 0 else 1
def sI (s : Bool) (n : Nat) : Int := if n = 0 then 0 else if s = true then -1 else 1
theorem Z7B (s : Bool) (l : List Int) (e : Int) (k : Nat) (hw : Ws l) (hl : l.length < 17592186044000) (hk : 100000000000000000 ≤ k) : Z17.f k s l e = some (sI s (val l)) := by
 unfold Z17.f sI
 rw [Z39 s l e k hw hl hk, Zc]
 by_cases h : val l = 0
 ·rw [if_pos (decide_eq_true h), if_pos h]
 rw [if_neg (by rw [decide_eq_true_iff]; exact h), if_neg h]; split <;> rfl
theorem Z4X (s : Bool) (l : List Int) (e : Int) (k : Nat) (hw : Ws l) (hl : l.length < 17592186044000) (hk : 100000000000000000 ≤ k) : Z04.f k s l e = some (sI s (val l)) := by
 unfold Z04.f sI
 rw [Z9E s l e k hw hl hk, Zc]
 by_cases h : val l = 0
 ·rw [if_pos (decide_eq_true h), if_pos h]
 rw [if_neg (by rw [decide_eq_true_iff]; exact h), if_neg h]; split <;> rfl
theorem ZbH (s : Bool) (n : Nat) : sI s n = Z22 (sg s n) 0 := by
 unfold sI Z22 sg
 cases s <;> simp <;> (split <;> (try split) <;> (try omega))
theorem Z6R (s : Bool) (l : List Int) (e : Int) (k : Nat) (hw : Ws l) (hl : l.length < 17592186044000) (h0 : -1000000000000000 ≤ e) (h1 : e ≤ 1000000000000000) (hk : 100000000000000000 ≤ k) : Z0B.f k s l e = some (e + (bl (val l) : Int) - 1) := by
 unfold Z0B.f
 have hn : (ofN (val l)).length ≤ l.length := (Z1g (val l) l.length).2 (Z20 hw)
 have hb := Z3j hn
 rw [Z7s l k hw hl Zo, Zc, ZU (x := e + _) Zo Zo, ZU Zo Zo]
theorem Z7C (s : Bool) (l : List Int) (e : Int) (k : Nat) (hw : Ws l) (hl : l.length < 17592186044000) (h0 : -1000000000000000 ≤ e) (h1 : e ≤ 1000000000000000) (hk : 100000000000000000 ≤ k) : Z07.f k s l e = some (e + (bl (val l) : Int) - 1) := by
 unfold Z07.f
 have hn : (ofN (val l)).length ≤ l.length := (Z1g (val l) l.length).2 (Z20 hw)
 have hb := Z3j hn
 rw [Z5F l k hw hl Zo, Zc, ZU (x := e + _) Zo Zo, ZU Zo Zo]
def am (n : Nat) (e : Int) : Nat := n * 2 ^ (e - lowE).toNat
theorem Z30 (s : Bool) (n : Nat) (e : Int) : Vz (sg s n) e = sg s (am n e) := by unfold Vz am; rw [Z5i]
theorem Z4x {n : Nat} (h : n ≠ 0) (e : Int) : am n e ≠ 0 := zkJ (zkx (Nat.pos_of_ne_zero h) (zkc Zd))
theorem Z5l {n : Nat} (h : n ≠ 0) {e : Int} (g : lowE ≤ e) : (bl (am n e) : Int) = bl n + (e - lowE) := by
 unfold am; rw [Z5b h]; omega
theorem Z6c {n m : Nat} {e f : Int} (hn : n ≠ 0) (hm : m ≠ 0) (he : lowE ≤ e) (hf : lowE ≤ f) (h : e + (bl n : Int) < f + (bl m : Int)) : am n e < am m f := by
 refine Classical.byContradiction fun g => ?_
 have := Z7e (Nat.le_of_not_lt g)
 have a := Z5l hn he
 have b := Z5l hm hf
 omega
theorem Z6S {n : Nat} {e : Int} (h : lowE ≤ e) : am (od n) (e + (tz n : Int)) = am n e := by
 have := Z3G h false (n := n)
 rw [Z30, Z30] at this
 have := congrArg Int.natAbs this
 rwa [Z5h, Z5h] at this
theorem Z7D (s : Bool) (x y : Nat) : Z22 (sg s x) (sg s y) = if s = true then - Z1E x y else Z1E x y := by
 unfold Z22 Z1E
 cases s
 ·simp only [sg, zkI, if_false]
  split <;> split <;> (try split) <;> (try split) <;> omega
 simp only [sg, if_true]
 split <;> (try split) <;> (try split) <;> (try split) <;> omega
theorem Z83 {x y c : Nat} (hc : 0 < c) : Z1E (x * c) (y * c) = Z1E x y := by
 unfold Z1E
 have a : x * c < y * c ↔ x < y := Nat.mul_lt_mul_right hc
 have b : x * c = y * c ↔ x = y := Nat.mul_left_inj (zkJ hc)
 by_cases h : x < y
 ·rw [if_pos h, if_pos (a.2 h)]
 rw [if_neg h, if_neg (fun c => h (a.1 c))]
 by_cases g : x = y
 ·rw [if_pos g, if_pos (b.2 g)]
 rw [if_neg g, if_neg (fun c => g (b.1 c))]
theorem Z5Z (s1 s2 : Bool) (N M : Nat) : (sI s1 N < sI s2 M → Z22 (sg s1 N) (sg s2 M) = -1) ∧ (sI s1 N > sI s2 M → Z22 (sg s1 N) (sg s2 M) = 1) ∧ (sI s1 N = 0 → sI s2 M = 0 → Z22 (sg s1 N) (sg s2 M) = 0) := by
 unfold sI Z22 sg
 refine ⟨?_, ?_, ?_⟩
 all_goals
  cases s1 <;> cases s2 <;> simp only [zkI, if_false, if_true] <;> intros <;> (repeat' split at *) <;> omega
theorem Z7E {s1 s2 : Bool} {N M : Nat} (h : sI s1 N = sI s2 M) (h0 : sI s1 N ≠ 0) : N ≠ 0 ∧ M ≠ 0 ∧ s1 = s2 ∧ sI s1 N = if s1 = true then -1 else 1 := by
 unfold sI at *
 by_cases a : N = 0
 ·simp [a] at h0
 by_cases b : M = 0
 ·simp [a, b] at h; cases s1 <;> simp at h
 cases s1 <;> cases s2 <;> simp_all
theorem Z5m (s : Bool) (n : Nat) (e : Int) : sI s (am n e) = sI s n := by
 unfold sI
 by_cases h : n = 0
 ·subst h; unfold am; rw [zkB]
 rw [if_neg h, if_neg (Z4x h e)]
theorem Z2A {x : Int} (h : x = -1 ∨ x = 0 ∨ x = 1) : wrap64 x = x := ZU Zo Zo
theorem Z84 (x y : Nat) : Z1E x y = -1 ∨ Z1E x y = 0 ∨ Z1E x y = 1 := by unfold Z1E; split <;> (try split) <;> simp
theorem Z7F {x y : Nat} (h : y < x) : Z1E x y = 1 := by unfold Z1E; rw [if_neg (Nat.not_lt.2 (zky h)), if_neg (zkJ h)]
theorem Z7G {x y : Nat} (h : x < y) : Z1E x y = -1 := by unfold Z1E; rw [if_pos h]
theorem Z7H (s1 s2 : Bool) (l1 l2 : List Int) (e1 e2 : Int) (k : Nat) (h1 : Rt l1 e1) (h2 : Rt l2 e2) (hk : 100000000000000000 ≤ k) : Z1m.f k s1 l1 e1 s2 l2 e2 = some (Z22 (vl s1 l1 e1) (vl s2 l2 e2)) := by
 unfold Z1m.f
 have b1 := h1.lowE
 have b2 := h2.lowE
 have hv1 := h1.sm
 have hv2 := h2.sm
 have d1 := h1.lo; have d2 := h1.hi; have d3 := h2.lo; have d4 := h2.hi
 rw [Z7B s1 l1 e1 k h1.ws h1.len hk, Zc, Z7B s2 l2 e2 k h2.ws h2.len hk, Zc, Z6R s1 l1 e1 k h1.ws h1.len Zo Zo hk, Z6R s2 l2 e2 k h2.ws h2.len Zo Zo hk, Z4w s1 l1 e1 k h1 hk, Z4w s2 l2 e2 k h2 hk]
 unfold vl
 generalize val l1 = n1 at *
 generalize val l2 = n2 at *
 rw [Z30, Z30]
 obtain ⟨c1, c2, c3⟩ := Z5Z s1 s2 (am n1 e1) (am n2 e2)
 rw [Z5m, Z5m] at c1 c2 c3
 by_cases q1 : sI s1 n1 < sI s2 n2
 ·rw [if_pos q1, c1 q1]
 rw [if_neg q1]
 by_cases q2 : sI s1 n1 > sI s2 n2
 ·rw [if_pos q2, c2 q2]
 rw [if_neg q2]
 have q3 : sI s1 n1 = sI s2 n2 := by omega
 by_cases q0 : sI s1 n1 = 0
 ·rw [if_pos q0, c3 q0 (q3 ▸ q0)]
 rw [if_neg q0, Zc, Zc]
 obtain ⟨z1, z2, rfl, hs⟩ := Z7E q3 q0
 rw [hs, Z7D]
 by_cases t : e1 + (bl n1 : Int) - 1 = e2 + (bl n2 : Int) - 1
 ·rw [if_pos t, Zc, Zc, Z1y z1, Z1y z2]
  have t1 := Z2P z1 hv1
  have t2 := Z2P z2 hv2
  have p1 := Z6S b1 (n := n1)
  have p2 := Z6S b2 (n := n2)
  have r1 := Z2h n1
  have r2 := Z2h n2
  rw [← p1, ← p2]
  have g1 : -2000000 ≤ e1 + (tz n1 : Int) ∧ e1 + (tz n1 : Int) ≤ 2000000 := by omega
  have g2 : -2000000 ≤ e2 + (tz n2 : Int) ∧ e2 + (tz n2 : Int) ≤ 2000000 := by omega
  show (Z0q.f k s1 (ofN (od n1)) (e1 + (tz n1 : Int)) s1 (ofN (od n2)) (e2 + (tz n2 : Int))).bind _ = _
  generalize od n1 = x at *
  generalize od n2 = y at *
  generalize e1 + (tz n1 : Int) = a1 at *
  generalize e2 + (tz n2 : Int) = a2 at *
  obtain ⟨E, hE⟩ : ∃ E, E = min a1 a2 := ⟨_, rfl⟩
  rw [Z5k s1 s1 x y a1 a2 E k hE Zo Zo g1.1 g1.2 g2.1 g2.2 Zo, Zc]
  have lE : lowE ≤ E := by have := g1.1; have := g2.1; unfold lowE; omega
  have w1 : E ≤ a1 := by omega
  have w2 : E ≤ a2 := by omega
  have y1 : (a1 - E).toNat ≤ 4000000 := by omega
  have y2 : (a2 - E).toNat ≤ 4000000 := by omega
  have L1 := Z2z (zk6 r1 hv1) (a1 - E).toNat
  have L2 := Z2z (zk6 r2 hv2) (a2 - E).toNat
  have A1 : am x a1 = x * 2 ^ (a1 - E).toNat * 2 ^ (E - lowE).toNat := by
   unfold am; rw [zkj, ← zke]; congr 2; omega
  have A2 : am y a2 = y * 2 ^ (a2 - E).toNat * 2 ^ (E - lowE).toNat := by
   unfold am; rw [zkj, ← zke]; congr 2; omega
  rw [A1, A2, Z83 (zkc Zd)]
  have M1 : (ofN (x * 2 ^ (a1 - E).toNat)).length ≤ 100000 := by omega
  have M2 : (ofN (y * 2 ^ (a2 - E).toNat)).length ≤ 100000 := by omega
  generalize x * 2 ^ (a1 - E).toNat = X at *
  generalize y * 2 ^ (a2 - E).toNat = Y at *
  rw [Z7t _ _ k (ZT X) (ZT Y) Zo Zo Zo, Zc, Zy, Zy]
  have := Z84 X Y
  cases s1
  ·simp only [zkI, if_false, Int.one_mul]; rw [Z2A this]
  simp only [if_true]; rw [Int.neg_one_mul, Z2A Zo]
 rw [if_neg t]
 by_cases u : e1 + (bl n1 : Int) - 1 < e2 + (bl n2 : Int) - 1
 ·have := Z6c z1 z2 b1 b2 Zo
  rw [if_pos u]
  rw [Z7G this]
  cases s1
  ·simp only [zkI, if_false]; rw [Z2A Zo]
  simp only [if_true]; rw [Z2A Zo]
 have := Z6c z2 z1 b2 b1 Zo
 rw [if_neg u, Z7F this]
theorem Z9H (x y : Int) : Z22 (x - y) 0 = Z22 x y := by
 unfold Z22; split <;> split <;> (try split) <;> (try split) <;> omega
theorem Z3k (s1 s2 : Bool) (l1 l2 : List Int) (e1 e2 : Int) (k : Nat) (h1 : Rt l1 e1) (h2 : Rs l2 e2) (hk : 200000000000000000 ≤ k) : ZW.f k s1 l1 e1 s2 l2 e2 = some (Z22 (vl s1 l1 e1) (vl s2 l2 e2)) := by
 unfold ZW.f
 have b1 := h1.lowE
 have b2 := h2.t.lowE
 have d1 := h1.lo; have d2 := h1.hi; have d3 := h2.lo; have d4 := h2.hi
 rw [Z4X s1 l1 e1 k h1.ws h1.len Zo, Zc, Z4X s2 l2 e2 k h2.ws h2.len Zo, Zc, Z7C s1 l1 e1 k h1.ws h1.len Zo Zo Zo, Z7C s2 l2 e2 k h2.ws h2.len Zo Zo Zo, Z8R s1 s2 l1 l2 e1 e2 k h1 h2 hk]
 obtain ⟨c1, c2, c3⟩ := Z5Z s1 s2 (am (val l1) e1) (am (val l2) e2)
 rw [Z5m, Z5m] at c1 c2 c3
 have v1 : vl s1 l1 e1 = sg s1 (am (val l1) e1) := Z30 _ _ _
 have v2 : vl s2 l2 e2 = sg s2 (am (val l2) e2) := Z30 _ _ _
 by_cases q1 : sI s1 (val l1) < sI s2 (val l2)
 ·rw [if_pos q1, v1, v2, c1 q1]
 rw [if_neg q1]
 by_cases q2 : sI s1 (val l1) > sI s2 (val l2)
 ·rw [if_pos q2, v1, v2, c2 q2]
 rw [if_neg q2]
 have q3 : sI s1 (val l1) = sI s2 (val l2) := by omega
 by_cases q0 : sI s1 (val l1) = 0
 ·rw [if_pos q0, v1, v2, c3 q0 (q3 ▸ q0)]
 rw [if_neg q0, Zc, Zc]
 obtain ⟨z1, z2, rfl, hs⟩ := Z7E q3 q0
 by_cases t : e1 + (bl (val l1) : Int) - 1 = e2 + (bl (val l2) : Int) - 1
 ·rw [if_pos t, Zc]
  have hz := Z82 (vl s1 l1 e1 - vl s1 l2 e2)
  have hc : Ws (cz (vl s1 l1 e1 - vl s1 l2 e2) lowE).2.1 ∧ (cz (vl s1 l1 e1 - vl s1 l2 e2) lowE).2.1.length < 17592186044000 := by
   have a := h1.sm; have b := h2.sm
   have B1 : (ofN (am (val l1) e1)).length ≤ 8192 + 5000000 / 64 + 1 := by
    refine zk6 (Z2z a _) ?_
    have : (e1 - lowE).toNat ≤ 5000000 := by unfold lowE; omega
    omega
   have B2 : (ofN (am (val l2) e2)).length ≤ 8192 + 5000000 / 64 + 1 := by
    refine zk6 (Z2z b _) ?_
    have : (e2 - lowE).toNat ≤ 5000000 := by unfold lowE; omega
    omega
   rw [v1, v2]
   generalize am (val l1) e1 = N at *
   generalize am (val l2) e2 = M at *
   have hle : (sg s1 N - sg s1 M).natAbs ≤ N + M := by cases s1 <;> simp [sg] <;> omega
   have B3 := Z4f B1 B2
   have B4 := Z2b hle
   unfold cz
   generalize (sg s1 N - sg s1 M).natAbs = Q at *
   by_cases hQ : Q = 0
   ·rw [hQ, Z14]; exact ⟨Z1B, by simp⟩
   rw [Z1y hQ]
   have := Z2h Q
   exact ⟨ZT _, by show (ofN (od Q)).length < _; omega⟩
  generalize hd : cz (vl s1 l1 e1 - vl s1 l2 e2) lowE = d at *
  rw [Z4X _ _ _ k hc.1 hc.2 Zo, Zc]
  unfold vl at hz
  rw [Z30] at hz
  rw [← Z5m _ _ d.2.2, ZbH, hz]
  exact congrArg some (Z9H _ _)
 rw [if_neg t]
 rw [hs, v1, v2, Z7D]
 by_cases u : e1 + (bl (val l1) : Int) - 1 > e2 + (bl (val l2) : Int) - 1
 ·have := Z6c z2 z1 b2 b1 Zo
  rw [if_pos u, Z7F this]
 have := Z6c z1 z2 b1 b2 Zo
 rw [if_neg u]
 rw [Z7G this]
 cases s1
 ·simp only [zkI, if_false]; rw [Z2A Zo]
 simp only [if_true]; rw [Z2A Zo]
theorem Z3Z : od 0 = 0 := by unfold od; rw [Nat.zero_div]
structure Wl (l : List Int) : Prop where
 ws : Ws l
 len : l.length < 17592186044000
theorem ZbI : Wl [] := ⟨Z1B, by simp⟩
theorem ZbJ {v : Nat} (h : (ofN v).length < 17592186044000) : Wl (ofN v) := ⟨ZT v, h⟩
theorem Zcc (s : Bool) {n : Nat} (e : Int) (h : (ofN n).length < 17592186044000) : Wl (cf s n e).2.1 := by
 by_cases z : n = 0
 ·rw [z, Z14]; exact ZbI
 rw [Z1y z]; exact ZbJ (zkr (Z2h n) h)
theorem Z6d {Z : Int} (e : Int) (h : (ofN Z.natAbs).length < 17592186044000) : Wl (cz Z e).2.1 := Zcc _ _ h
theorem Rs.wl {l : List Int} {e : Int} (h : Rs l e) : Wl l := ⟨h.ws, h.len⟩
theorem Rt.wl {l : List Int} {e : Int} (h : Rt l e) : Wl l := ⟨h.ws, h.len⟩
theorem Z8S {n : Nat} {e : Int} (h : (ofN n).length ≤ 16384) (h1 : e ≤ 2000000) : (ofN (am n e)).length ≤ 120000 := by
 refine zk6 (Z2z h _) ?_
 have : (e - lowE).toNat ≤ 6000000 := by unfold lowE; omega
 omega
theorem Z2E (s : Bool) (l : List Int) (e : Int) : (vl s l e).natAbs = am (val l) e := by unfold vl; rw [Z30, Z5h]
theorem Z4Y {s1 s2 : Bool} {l1 l2 : List Int} {e1 e2 : Int} (h1 : Rt l1 e1) (h2 : Rt l2 e2) : (ofN (vl s1 l1 e1 + vl s2 l2 e2).natAbs).length ≤ 120001 := by
 have a := Z8S (n := val l1) (e := e1) (by have := h1.sm; omega) (by have := h1.hi; omega)
 have b := Z8S (n := val l2) (e := e2) (by have := h2.sm; omega) (by have := h2.hi; omega)
 have c : (vl s1 l1 e1 + vl s2 l2 e2).natAbs ≤ am (val l1) e1 + am (val l2) e2 := by
  have := Int.natAbs_add_le (vl s1 l1 e1) (vl s2 l2 e2)
  rwa [Z2E, Z2E] at this
 exact zk6 (Z2b c) (Z4f a b)
theorem Z6T {s1 s2 : Bool} {l1 l2 : List Int} {e1 e2 : Int} (h1 : Rt l1 e1) (h2 : Rt l2 e2) : (ofN (vl s1 l1 e1 - vl s2 l2 e2).natAbs).length ≤ 120001 := by
 have := Z4Y (s1 := s1) (s2 := !s2) h1 h2
 rwa [ZbG, ← Int.sub_eq_add_neg] at this
def Z9I (s1 : Bool) (l1 : List Int) (e1 : Int) (s2 : Bool) (l2 : List Int) (e2 : Int) : Int × Int := if Z19 (val l1) e1 = true ∧ Z19 (val l2) e2 = true then (Z22 (vl s1 l1 e1) (vl s2 l2 e2), 0) else (0, 2)
theorem ZaP (s1 s2 : Bool) (l1 l2 : List Int) (e1 e2 : Int) (k : Nat) (w1 : Wl l1) (w2 : Wl l2) (hk : 200000000000000000 ≤ k) : Z2N.f k s1 l1 e1 s2 l2 e2 = some (Z9I s1 l1 e1 s2 l2 e2) := by
 unfold Z2N.f Z9I
 rw [Z4g s1 l1 e1 k w1.ws w1.len Zo, Zc]
 by_cases h1 : Z19 (val l1) e1 = true
 ·rw [if_pos h1, Z4g s2 l2 e2 k w2.ws w2.len Zo, Zc]
  by_cases h2 : Z19 (val l2) e2 = true
  ·have g1 := Z1M w1.ws w1.len h1
   have g2 := Z1M w2.ws w2.len h2
   rw [if_pos h2, if_pos ⟨h1, h2⟩, Z7H s1 s2 l1 l2 e1 e2 k g1.t g2.t Zo, Zc]
  rw [if_neg h2, if_neg (fun c => h2 c.2)]
 rw [if_neg h1, if_neg (fun c => h1 c.1)]
theorem Zcd (n : Nat) : bl n = bl (od n) + tz n := by
 by_cases h : n = 0
 ·subst h; rw [Z3Z, Z1X]; unfold tz; rw [dif_neg (by simp)]
 have := Z5b (Z3L h) (tz n)
 rwa [Z3Y] at this
theorem Za4 (s : Bool) {n : Nat} {e : Int} (hn : (ofN n).length ≤ 1100) (h0 : -40000 ≤ e) (h1 : e ≤ 40000) : Rs (cf s n e).2.1 (cf s n e).2.2 := by
 by_cases h : n = 0
 ·rw [h, Z14]; exact ⟨Z1B, by simp, by rw [Z2f, Z0e]; simp, by show (-200000 : Int) ≤ 0; omega, by show (0 : Int) ≤ 200000; omega⟩
 rw [Z1y h]
 have a := Z2h n
 have t := Z5g h
 have b := Z3j hn
 refine ⟨ZT _, ?_, ?_, ?_, ?_⟩
 ·show (ofN (od n)).length < _; omega
 ·show (ofN (val (ofN (od n)))).length ≤ _; rw [Zy]; omega
 ·show -200000 ≤ e + (tz n : Int); omega
 show e + (tz n : Int) ≤ 200000; omega
theorem Z85 (s : Bool) {l : List Int} {e : Int} (w : Wl l) (h : Z19 (val l) e = true) : Rs (cf s (val l) e).2.1 (cf s (val l) e).2.2 := by
 obtain ⟨a, b, c⟩ := Z1q.1 h
 exact Za4 s (by have := Z1Y a; omega) Zo Zo
theorem Z9J {v : Nat} (h : v < 18446744073709551616) : (ofN v).length ≤ 1 := (Z1g v 1).2 (by rw [Nat.pow_one]; exact h)
theorem ZaQ (s : Bool) (n : Nat) (e m : Int) : cf (cf s n e).1 (val (cf s n e).2.1) ((cf s n e).2.2 + m) = cf s n (e + m) := by
 by_cases h : n = 0
 ·rw [h, Z14, Z14]; show cf false (val []) _ = _; rw [Z2f, Z14]
 rw [Z1y h s e]
 show cf s (val (ofN (od n))) (e + (tz n : Int) + m) = _
 rw [Zy, show e + (tz n : Int) + m = e + m + (tz n : Int) by omega, ← Z8N, Z3Y]
theorem ZaR {x y : Int} (h : x < y) : Z22 x y = -1 := if_pos h
theorem Z8T (s : Bool) (n : Nat) (e : Int) : val (cf s n e).2.1 = od n := by
 by_cases h : n = 0
 ·rw [h, Z14, Z3Z]; rfl
 rw [Z1y h]; exact Zy _
theorem Zce (n : Nat) : od (od n) = od n := by
 by_cases h : n = 0
 ·rw [h, Z3Z, Z3Z]
 obtain ⟨t, m, e⟩ := Z1F n h
 rw [Z4D e]
 exact Z4D (t := 0) (by rw [Nat.pow_zero, Nat.one_mul])
def Z1L (x : Int) : Bool := decide (9223372036854775808 ≤ x)
noncomputable def Z1x (x : Int) : Bool × List Int × Int × Int :=
 if Nb.Z2n x then ((cf (Z1L x) (Nb.Z0i x).toNat (Nb.Z0Q x)).1, (cf (Z1L x) (Nb.Z0i x).toNat (Nb.Z0Q x)).2.1, (cf (Z1L x) (Nb.Z0i x).toNat (Nb.Z0Q x)).2.2, 0) else (false, [], 0, 5)
theorem ZbK {v : Int} (h0 : 0 ≤ v) (h1 : v < 18446744073709551616) : Ws [v] := Z25.2 ⟨⟨h0, h1⟩, Z1B⟩
theorem Z5I (v : Int) : val [v] = v.toNat := by rw [Z1P, Z2f, Nat.mul_zero, Nat.add_zero]
theorem ZaS (v : Int) : [v].length < 17592186044000 := by show 1 < 17592186044000; omega
def toX (o : Nat) (E : Int) : Nat := if E + (bl o : Int) - 1 < -1022 then o * 2 ^ (E + 1074).toNat else (E + (bl o : Int) + 1022).toNat * 4503599627370496 + (o * 2 ^ (53 - bl o) - 4503599627370496)
def sX (s : Bool) : Int := if s = true then 9223372036854775808 else 0
noncomputable def toS (s : Bool) (n : Nat) (e : Int) : Int × Bool :=
 if Z19 n e = true then (if n = 0 then (0, true) else if (bl (od n) : Int) > 53 ∨ e + (tz n : Int) + (bl (od n) : Int) - 1 > 1023 ∨ e + (tz n : Int) < -1074 then (0, false) else ((toX (od n) (e + (tz n : Int)) : Int) + sX s, true)) else (0, false)
theorem Z6U {o : Nat} (h0 : o ≠ 0) (h : o < 18446744073709551616) : ofN o = [(o : Int)] := by
 rw [Z3u h0, zkz h, zkA h, Z0e]
theorem Z4i {o : Nat} (h : o ≠ 0) : 2 ^ (bl o - 1) ≤ o ∧ o < 2 ^ bl o ∧ 1 ≤ bl o := by
 have a := Z46 h
 have b := Z2H o
 have c : 1 ≤ bl o := Nat.pos_of_ne_zero (Z47 h)
 refine ⟨?_, b, c⟩
 rw [show bl o = bl o - 1 + 1 by omega, zkp] at a
 omega
theorem p52 {i : Nat} (h : i ≤ 52) : 2 ^ i ≤ 4503599627370496 := zk6 (zkl Zd h) (by decide : 2 ^ 52 ≤ 4503599627370496)
theorem p53 {i : Nat} (h : i ≤ 53) : 2 ^ i ≤ 9007199254740992 := zk6 (zkl Zd h) (by decide : 2 ^ 53 ≤ 9007199254740992)
theorem Z9K {o : Nat} {E : Int} (h0 : o ≠ 0) (hE : -1074 ≤ E) (hT : E + (bl o : Int) - 1 < -1022) : o * 2 ^ (E + 1074).toNat < 4503599627370496 := by
 obtain ⟨a, b, c⟩ := Z4i h0
 have : o * 2 ^ (E + 1074).toNat < 2 ^ bl o * 2 ^ (E + 1074).toNat := Nat.mul_lt_mul_of_pos_right b (zkc Zd)
 rw [← zke] at this
 exact zkn this (p52 Zo)
theorem Z9L {o : Nat} (h0 : o ≠ 0) (hb : bl o ≤ 53) : 4503599627370496 ≤ o * 2 ^ (53 - bl o) ∧ o * 2 ^ (53 - bl o) < 9007199254740992 := by
 obtain ⟨a, b, c⟩ := Z4i h0
 constructor
 ·have : 2 ^ (bl o - 1) * 2 ^ (53 - bl o) ≤ o * 2 ^ (53 - bl o) := zkq _ a
  rw [← zke, show bl o - 1 + (53 - bl o) = 52 by omega] at this
  exact this
 have : o * 2 ^ (53 - bl o) < 2 ^ bl o * 2 ^ (53 - bl o) := Nat.mul_lt_mul_of_pos_right b (zkc Zd)
 rw [← zke, show bl o + (53 - bl o) = 53 by omega] at this
 exact this
theorem Z6V {o d : Nat} (hd : d ≤ 64) (h : o * 2 ^ d < 18446744073709551616) : shl .u64 (o : Int) (d : Int) = ((o * 2 ^ d : Nat) : Int) := by
 rw [Z4p o d hd, zkz h]
theorem ZbL (s : Bool) (l : List Int) (e : Int) (k : Nat) (w : Wl l) (hk : 300000000000000000 ≤ k) : Z1c.f k s l e = some (toS s (val l) e) := by
 unfold Z1c.f toS
 rw [Z4g s l e k w.ws w.len Zo, Zc]
 by_cases f : Z19 (val l) e = true
 ·have g := Z1M w.ws w.len f
  rw [if_pos f, if_pos f, Z4w s l e k g.t Zo, Zc]
  have gl := g.lo; have gh := g.hi; have gs := g.sm
  generalize val l = n at *
  by_cases z : n = 0
  ·rw [z, Z14, Z39 _ _ _ k Z1B (by simp) Zo, Zc, if_pos (by rw [Z2f]; rfl), if_pos rfl]
  have hl := Z2h n
  have t1 := Z2P z Zo
  have o0 := Z3L z
  have hbl := Z3j (zk6 hl gs)
  rw [Z1y z, if_neg z, Z39 _ _ _ k (ZT _) (by show (ofN (od n)).length < _; omega) Zo, Zc]
  rw [if_neg (by rw [Zy]; simpa using o0)]
  show ((Z0B.f k s (ofN (od n)) (e + (tz n : Int))).bind _) = _
  rw [Z6R _ _ _ k (ZT _) Zo Zo Zo Zo, Zc]
  show ((Z0T.f k (ofN (od n))).bind _) = _
  rw [Z7s (ofN (od n)) k (ZT _) Zo Zo, Zc, Zy]
  obtain ⟨k, rfl⟩ : ∃ m, k = m + 1 := ⟨k - 1, by omega⟩
  generalize od n = o at *
  show (if (bl o : Int) > 53 then Z1c.j0 (k + 1) (e + (tz n : Int) + (bl o : Int) - 1) true s (ofN o) (e + (tz n : Int)) else if e + (tz n : Int) + (bl o : Int) - 1 > 1023 then Z1c.j0 (k + 1) (e + (tz n : Int) + (bl o : Int) - 1) true s (ofN o) (e + (tz n : Int)) else Z1c.j0 (k + 1) (e + (tz n : Int) + (bl o : Int) - 1) (decide (e + (tz n : Int) < -1074)) s (ofN o) (e + (tz n : Int))) = _
  generalize e + (tz n : Int) = E at *
  have no : Z1c.j0 (k + 1) (E + (bl o : Int) - 1) true s (ofN o) E = some (0, false) := by simp only [Z1c.j0]; rw [if_pos trivial]
  by_cases q1 : (bl o : Int) > 53
  ·rw [if_pos q1, if_pos (.inl q1), no]
  rw [if_neg q1]
  by_cases q2 : E + (bl o : Int) - 1 > 1023
  ·rw [if_pos q2, if_pos (.inr (.inl q2)), no]
  rw [if_neg q2]
  by_cases q3 : E < -1074
  ·rw [if_pos (.inr (.inr q3)), decide_eq_true q3, no]
  rw [if_neg (fun c => c.elim q1 (fun c => c.elim q2 q3)), decide_eq_false q3]
  obtain ⟨a, b, c⟩ := Z4i o0
  have o53 : o < 9007199254740992 := zkn b (p53 Zo)
  rw [Z6U o0 Zo]
  simp only [Z1c.j0]
  rw [if_neg Zd, if_pos (by show (0 : Int) < ((1 : Nat) : Int); omega), ZU (x := E + (bl o : Int) - 1 - 52) Zo Zo]
  have hr : rd [(o : Int)] 0 = (o : Int) := rfl
  rw [hr]
  unfold toX
  by_cases T : E + (bl o : Int) - 1 < -1022
  ·have em : mx (E + (bl o : Int) - 1 - 52) (-1074) = -1074 := by unfold mx; rw [if_pos Zo]
   have sm := Z9K o0 Zo T
   have ed : wrap64 (E - -1074) = (((E + 1074).toNat : Nat) : Int) := by rw [ZU Zo Zo]; omega
   have dd : (E + 1074).toNat ≤ 64 := by omega
   rw [em, ed, if_pos (zk5 _), Z6V dd Zo, if_pos T]
   generalize o * 2 ^ (E + 1074).toNat = M at *
   rw [if_neg Zo]
   unfold sX
   by_cases u : s = true
   ·rw [if_pos u, if_pos u, Nb.Z7k Zo Zo]
   rw [if_neg u, if_neg u, zkL]
  have em : mx (E + (bl o : Int) - 1 - 52) (-1074) = E + (bl o : Int) - 53 := by unfold mx; rw [if_neg Zo]; omega
  obtain ⟨m1, m2⟩ := Z9L o0 Zo
  have ed : wrap64 (E - (E + (bl o : Int) - 53)) = (((53 - bl o : Nat) : Nat) : Int) := by rw [ZU Zo Zo]; omega
  have ee : IntKind.u64.wrap ((IntKind.u64.wrap (wrap64 (E + (bl o : Int) - 53 + 1075))) * 4503599627370496) = (((E + (bl o : Int) + 1022).toNat : Nat) : Int) * 4503599627370496 := by
   have e3 : E + (bl o : Int) - 53 + 1075 = (((E + (bl o : Int) + 1022).toNat : Nat) : Int) := by omega
   rw [e3, ZU Zo Zo, Z3K (x := (((E + (bl o : Int) + 1022).toNat : Nat) : Int)) Zo Zo, Z3K Zo Zo]
  rw [em, ed, if_pos (zk5 _), Z6V Zo Zo, if_neg T, ee]
  generalize o * 2 ^ (53 - bl o) = M at *
  rw [if_pos Zo, Nb.Z6A ⟨by omega, by omega⟩]
  have hX : (E + (bl o : Int) + 1022).toNat ≤ 2046 := by omega
  generalize (E + (bl o : Int) + 1022).toNat = X at *
  have ej : Go.bits .or .u64 ((X : Int) * 4503599627370496) ((M : Int) % 4503599627370496) = (X : Int) * 4503599627370496 + (M : Int) % 4503599627370496 :=
   Nb.Zaq 52 Zo Zo (by show (X : Int) * 4503599627370496 % 4503599627370496 = 0; omega) Zo Zo (by show (M : Int) % 4503599627370496 < 4503599627370496; omega)
  rw [ej]
  unfold sX
  by_cases u : s = true
  ·rw [if_pos u, if_pos u, Nb.Z7k Zo Zo]
   refine congrArg (fun z : Int => some (z, true)) ?_
   omega
  rw [if_neg u, if_neg u]
  refine congrArg (fun z : Int => some (z, true)) ?_
  omega
 rw [if_neg f, if_neg f]
theorem Zcf {n : Nat} (h : n ≠ 0) : tz (od n) = 0 := by
 obtain ⟨t, m, e⟩ := Z1F n h
 rw [Z4D e]
 exact Z3e (m := m) (by rw [Nat.pow_zero, Nat.one_mul])
theorem Z4j {v : Nat} (h : v < 18446744073709551616) : v < big := by
 rw [← Z3v]
 have := Z9J h
 omega
theorem Z5n {x : Int} (hx : Nb.W64 x) : 0 ≤ Nb.ex x ∧ Nb.ex x ≤ 2047 ∧ 0 ≤ Nb.fr x ∧ Nb.fr x < 4503599627370496 ∧ x % 9223372036854775808 = Nb.ex x * 4503599627370496 + Nb.fr x ∧ x = Nb.ex x * 4503599627370496 + Nb.fr x + sX (Z1L x) := by
 obtain ⟨a, b⟩ := hx
 have s : sX (Z1L x) = if 9223372036854775808 ≤ x then 9223372036854775808 else 0 := by
  unfold sX Z1L
  by_cases h : 9223372036854775808 ≤ x
  ·rw [if_pos (decide_eq_true h), if_pos h]
  rw [if_neg (by rw [decide_eq_true_iff]; exact h), if_neg h]
 rw [s]
 unfold Nb.ex Nb.fr
 split <;> omega
theorem ZaT {x : Int} (hx : Nb.W64 x) (h : Nb.Z2n x) : vl (Z1x x).1 (Z1x x).2.1 (Z1x x).2.2.1 = sg (Z1L x) (am (Nb.Z0i x).toNat (Nb.Z0Q x)) := by
 unfold Z1x
 rw [if_pos h]
 have p := Nb.Z5B hx h
 show vl (cf (Z1L x) (Nb.Z0i x).toNat (Nb.Z0Q x)).1 (cf (Z1L x) (Nb.Z0i x).toNat (Nb.Z0Q x)).2.1 (cf (Z1L x) (Nb.Z0i x).toNat (Nb.Z0Q x)).2.2 = _
 rw [Z6a (by unfold lowE; omega), Z30]
theorem Z60 {x : Int} (hx : Nb.W64 x) (h : Nb.Z2n x) : Z19 (val (Z1x x).2.1) (Z1x x).2.2.1 = true := by
 unfold Z1x
 rw [if_pos h]
 have p := Nb.Z5B hx h
 have m := Nb.Z7l hx
 show Z19 (val (cf (Z1L x) (Nb.Z0i x).toNat (Nb.Z0Q x)).2.1) (cf (Z1L x) (Nb.Z0i x).toNat (Nb.Z0Q x)).2.2 = true
 rw [Z8T]
 refine Z1q.2 ⟨Z4j (zkr (Za1 _) Zo), ?_⟩
 by_cases z : (Nb.Z0i x).toNat = 0
 ·rw [z, Z14]; exact ⟨by show (-32768 : Int) ≤ 0; omega, by show (0 : Int) ≤ 32768; omega⟩
 rw [Z1y z]
 have t := Z5g z
 have b : bl (Nb.Z0i x).toNat ≤ 53 := Z1K.2 (by show _ < 9007199254740992; omega)
 exact ⟨by show -32768 ≤ Nb.Z0Q x + (tz (Nb.Z0i x).toNat : Int); omega, by show Nb.Z0Q x + (tz (Nb.Z0i x).toNat : Int) ≤ 32768; omega⟩
theorem ZaU {x : Int} (hx : Nb.W64 x) (h : Nb.Z2n x) : toS (Z1x x).1 (val (Z1x x).2.1) (Z1x x).2.2.1 = (if Nb.Z0i x = 0 then 0 else x, true) := by
 have f := Z60 hx h
 have p := Nb.Z5B hx h
 have m := Nb.Z7l hx
 obtain ⟨a1, a2, a3, a4, a5, a6⟩ := Z5n hx
 unfold toS
 rw [if_pos f]
 unfold Z1x
 rw [if_pos h]
 show (if val (cf (Z1L x) (Nb.Z0i x).toNat (Nb.Z0Q x)).2.1 = 0 then _ else if (bl (od (val (cf (Z1L x) (Nb.Z0i x).toNat (Nb.Z0Q x)).2.1)) : Int) > 53 ∨ (cf (Z1L x) (Nb.Z0i x).toNat (Nb.Z0Q x)).2.2 + (tz (val (cf (Z1L x) (Nb.Z0i x).toNat (Nb.Z0Q x)).2.1) : Int) + (bl (od (val (cf (Z1L x) (Nb.Z0i x).toNat (Nb.Z0Q x)).2.1)) : Int) - 1 > 1023 ∨ (cf (Z1L x) (Nb.Z0i x).toNat (Nb.Z0Q x)).2.2 + (tz (val (cf (Z1L x) (Nb.Z0i x).toNat (Nb.Z0Q x)).2.1) : Int) < -1074 then _ else ((toX (od (val (cf (Z1L x) (Nb.Z0i x).toNat (Nb.Z0Q x)).2.1)) ((cf (Z1L x) (Nb.Z0i x).toNat (Nb.Z0Q x)).2.2 + (tz (val (cf (Z1L x) (Nb.Z0i x).toNat (Nb.Z0Q x)).2.1) : Int)) : Int) + sX (cf (Z1L x) (Nb.Z0i x).toNat (Nb.Z0Q x)).1, true)) = _
 rw [Z8T]
 by_cases z : (Nb.Z0i x).toNat = 0
 ·rw [z, Z3Z, if_pos rfl, if_pos Zo]
 have mz : ¬ Nb.Z0i x = 0 := by omega
 have o0 := Z3L z
 rw [if_neg o0, Z1y z, Zce, Zcf z, if_neg mz]
 have t := Z5g z
 have b : bl (Nb.Z0i x).toNat ≤ 53 := Z1K.2 (by show _ < 9007199254740992; omega)
 have bo := Zcd (Nb.Z0i x).toNat
 have om := Z3Y (Nb.Z0i x).toNat
 show (if (bl (od (Nb.Z0i x).toNat) : Int) > 53 ∨ Nb.Z0Q x + (tz (Nb.Z0i x).toNat : Int) + ((0 : Nat) : Int) + (bl (od (Nb.Z0i x).toNat) : Int) - 1 > 1023 ∨ Nb.Z0Q x + (tz (Nb.Z0i x).toNat : Int) + ((0 : Nat) : Int) < -1074 then _ else ((toX (od (Nb.Z0i x).toNat) (Nb.Z0Q x + (tz (Nb.Z0i x).toNat : Int) + ((0 : Nat) : Int)) : Int) + sX (Z1L x), true)) = _
 have nn : ¬ ((bl (od (Nb.Z0i x).toNat) : Int) > 53 ∨ Nb.Z0Q x + (tz (Nb.Z0i x).toNat : Int) + ((0 : Nat) : Int) + (bl (od (Nb.Z0i x).toNat) : Int) - 1 > 1023 ∨ Nb.Z0Q x + (tz (Nb.Z0i x).toNat : Int) + ((0 : Nat) : Int) < -1074) := by omega
 rw [if_neg nn]
 have key : (toX (od (Nb.Z0i x).toNat) (Nb.Z0Q x + (tz (Nb.Z0i x).toNat : Int) + ((0 : Nat) : Int)) : Int) = Nb.ex x * 4503599627370496 + Nb.fr x := by
  unfold toX
  by_cases q : Nb.ex x = 0
  ·have me : Nb.Z0i x = Nb.fr x := by unfold Nb.Z0i; exact if_pos q
   have pe : Nb.Z0Q x = -1074 := by unfold Nb.Z0Q; exact if_pos q
   have b2 : bl (Nb.Z0i x).toNat ≤ 52 := Z1K.2 (by show _ < 4503599627370496; omega)
   rw [if_pos Zo, show (Nb.Z0Q x + (tz (Nb.Z0i x).toNat : Int) + ((0 : Nat) : Int) + 1074).toNat = tz (Nb.Z0i x).toNat by omega, om]
   omega
  have me : Nb.Z0i x = Nb.fr x + 4503599627370496 := by unfold Nb.Z0i; exact if_neg q
  have pe : Nb.Z0Q x = Nb.ex x - 1075 := by unfold Nb.Z0Q; exact if_neg q
  have b2 : bl (Nb.Z0i x).toNat = 53 := Z2a (m := 52) (by show 4503599627370496 ≤ _; omega) (by show _ < 9007199254740992; omega)
  rw [if_neg Zo, show 53 - bl (od (Nb.Z0i x).toNat) = tz (Nb.Z0i x).toNat by omega, om, show (Nb.Z0Q x + (tz (Nb.Z0i x).toNat : Int) + ((0 : Nat) : Int) + (bl (od (Nb.Z0i x).toNat) : Int) + 1022).toNat = (Nb.ex x).toNat by omega]
  omega
 rw [key, ← a6]
def rndI (v : Nat) (e E : Int) : Nat := if E ≤ e then v * 2 ^ (e - E).toNat else rnd v (E - e).toNat
def Z4G (v : Nat) (e E : Int) : Bool := if E ≤ e then false else decide (v % 2 ^ (E - e).toNat ≠ 0)
theorem Z6W {v : Nat} (h : v < 18446744073709551616) : Z1v.f (ofN v) = some (v : Int) := by
 unfold Z1v.f
 by_cases h0 : v = 0
 ·subst h0; rw [Z0e]; rfl
 rw [Z6U h0 h]; rfl
theorem Z8U {v n m : Nat} (h : bl v ≤ n + m) : v / 2 ^ n < 2 ^ m := by
 rw [zkE (zkc Zd), ← zke, zkK m n]
 exact zkn (Z2H v) (zkl Zd h)
theorem Z5o {v n m : Nat} (h : bl v + n ≤ m) : v * 2 ^ n < 2 ^ m := by
 by_cases h0 : v = 0
 ·subst h0; rw [zkB]; exact zkc Zd
 have := Z2H (v * 2 ^ n)
 rw [Z5b h0] at this
 exact zkn this (zkl Zd h)
theorem p54 : (2 : Nat) ^ 54 = 18014398509481984 := by decide
theorem ZbM {v n m : Nat} (hn : 1 ≤ n) (h : bl v ≤ n + m) : rnd v n ≤ 2 ^ m := by
 refine Z6w hn ?_
 rw [← zke, zkK m n]
 exact zky (zkn (Z2H v) (zkl Zd h))
theorem ZaV {v : Nat} {e E : Int} {m : Nat} (h : (bl v : Int) + e - E ≤ m) : rndI v e E ≤ 2 ^ m := by
 unfold rndI
 split
 ·exact zky (Z5o Zo)
 exact ZbM Zo Zo
theorem up1 {q : Nat} (h : q < 18014398509481984) : IntKind.u64.wrap ((q : Int) + 1) = ((q + 1 : Nat) : Int) := by rw [IntKind.wrap_u64]; omega
theorem Za5 (v : Nat) (e E : Int) (k : Nat) (hv : v < big) (e0 : -300000 ≤ e) (e1 : e ≤ 300000) (h0 : -300000 ≤ E) (h1 : E ≤ 300000) (hT : (bl v : Int) + e - E ≤ 54) (hk : 100000000 ≤ k) :
  Z12.f k (ofN v) e E = some (((rndI v e E : Nat) : Int), Z4G v e E) := by
 have len : (ofN v).length < 17592186044000 := by have := Z1Y hv; omega
 have len2 := Z1Y hv
 unfold Z12.f rndI Z4G
 by_cases c : E ≤ e
 ·have n0 : wrap64 (e - E) = (((e - E).toNat : Nat) : Int) := Z3y c Zo
  rw [if_pos (show e ≥ E from c), if_pos c, if_pos c, n0, Zbw (ofN v) _ k (ZT v) len Zo, Zy, Zc]
  have hb : bl v + (e - E).toNat ≤ 54 := by omega
  generalize (e - E).toNat = n at hb ⊢
  have hs : (Z7Z v (n : Int)).1 = ofN (v * 2 ^ n) := by
   unfold Z7Z
   rw [if_pos hv, if_neg Zo]
   by_cases z : v = 0
   ·rw [if_pos z, z, zkB, Z0e]
   rw [if_neg z, zk4, if_pos Zo]
  rw [hs, Z6W (by have := Z5o hb; rw [p54] at this; omega), Zc]
 have n0 : wrap64 (E - e) = (((E - e).toNat : Nat) : Int) := Z3y Zo Zo
 rw [if_neg (show ¬ e ≥ E from c), if_neg c, if_neg c, n0]
 have n1 : 1 ≤ (E - e).toNat := by omega
 have hb : bl v ≤ (E - e).toNat + 54 := by omega
 have nl : (E - e).toNat ≤ 600000 := by omega
 generalize (E - e).toNat = n at n1 hb nl ⊢
 have n2 : wrap64 ((n : Int) - 1) = ((n - 1 : Nat) : Int) := by unfold wrap64; omega
 rw [n2, Zbx (ofN v) _ k (ZT v) Zo len Zo, Zy, Zc]
 have hs : Z80 v (n : Int) = (ofN (v / 2 ^ n), decide (v % 2 ^ n ≠ 0), 0) := by
  unfold Z80
  rw [if_pos hv, if_neg Zo, zk4]
 have hq : v / 2 ^ n < 18014398509481984 := by have := Z8U hb; rw [p54] at this; exact this
 rw [hs]
 show (Z1v.f (ofN (v / 2 ^ n))).bind _ = _
 rw [Z6W Zo, Zc, Zbz (ofN v) _ k (ZT v) Zo len Zo, Zy, if_pos hv, if_neg Zo, zk4, Zc]
 obtain ⟨a1, a2, a3⟩ := ZbB (ofN v) k (ZT v) len Zo
 rw [Zy] at a2 a3
 have low : ∃ t : Int, Z13.f k (ofN v) = some (t, 0) ∧ (v ≠ 0 → (t < ((n - 1 : Nat) : Int) ↔ v % 2 ^ (n - 1) ≠ 0)) := by
  by_cases z : v = 0
  ·exact ⟨0, a2 z, fun c => absurd z c⟩
  obtain ⟨t, m, e⟩ := Z1F v z
  refine ⟨(t : Int), a3 hv t m e, fun _ => ?_⟩
  rw [e, Z5f]; omega
 obtain ⟨t, l1, l2⟩ := low
 rw [l1, Zc]
 show (if decide (v / 2 ^ (n - 1) % 2 = 1) = true then _ else _) = _
 unfold rnd
 by_cases h : v / 2 ^ (n - 1) % 2 = 1
 ·have z : v ≠ 0 := by rintro rfl; rw [Nat.zero_div] at h; exact absurd h Zd
  rw [if_pos (decide_eq_true h)]
  show (if t < ((n - 1 : Nat) : Int) then _ else _) = _
  have w1 : IntKind.u64.wrap (((v / 2 ^ n : Nat) : Int) + 1) = ((v / 2 ^ n + 1 : Nat) : Int) := up1 hq
  by_cases s : v % 2 ^ (n - 1) ≠ 0
  ·rw [if_pos ((l2 z).2 s), if_pos ⟨h, .inl s⟩, w1]
  rw [if_neg (fun c => s ((l2 z).1 c))]
  have ad := Zby (w := v / 2 ^ n) Zo
  by_cases o : v / 2 ^ n % 2 = 1
  ·rw [if_pos (by rw [ad, o]; rfl), if_pos ⟨h, .inr o⟩, w1]
  rw [if_neg (by rw [ad]; omega), if_neg (fun c => c.2.elim s o), Nat.add_zero]
 rw [if_neg (by rw [decide_eq_true_iff]; exact h), if_neg (fun c => h c.1), Nat.add_zero]
theorem Z40 (v : Nat) (e : Int) : ZM.f (ofN v) e = some (decide (v = 0)) := by
 unfold ZM.f
 congr 1
 rw [zkm, decide_eq_true_iff, beq_iff_eq, Z6P]
def Z1a (v : Nat) (e : Int) : Int := (bl v : Int) + e
theorem Z8V (v : Nat) (e : Int) (k : Nat) (hv : v < big) (e0 : -300000 ≤ e) (e1 : e ≤ 300000) (hk : 100000000 ≤ k) : Z0u.f k (ofN v) e = some (Z1a v e) := by
 have len := Z1Y hv
 unfold Z0u.f Z1a
 rw [ZbA (ofN v) k (ZT v) Zo Zo, Zy, if_pos hv, Zc]
 have := Z48.1 hv
 show some (wrap64 ((bl v : Int) + e)) = _
 rw [show wrap64 ((bl v : Int) + e) = (bl v : Int) + e by unfold wrap64; omega]
def Z11 (v : Nat) (e : Int) : Int := max (Z1a v e - 53) (-1074)
def Z2Q : Int := 9218868437227405312
def Z2I (v : Nat) (e : Int) : Int := (Z11 v e + 1074) * 4503599627370496 + (rndI v e (Z11 v e) : Int)
def mbI (v : Nat) (e : Int) : Int := if v = 0 then 0 else if 1024 < Z1a v e then Z2Q else if Z1a v e < -1074 then 0 else min Z2Q (Z2I v e)
def lsI (v : Nat) (e : Int) : Bool := if v = 0 then false else if 1024 < Z1a v e then true else if Z1a v e < -1074 then true else decide (Z2Q ≤ Z2I v e) || Z4G v e (Z11 v e)
def Z1N (v : Nat) (e : Int) : Bool := if v = 0 then false else if Z1a v e = -1022 then decide (rndI v e (-1075) < 9007199254740992) else decide (Z1a v e < -1022)
theorem Z9M (n : Nat) : decide ((n : Int) < 9007199254740992) = decide (n < 9007199254740992) := by
 rw [zkm, decide_eq_true_iff, decide_eq_true_iff]; omega
theorem Z5J (v : Nat) (e : Int) (k : Nat) (hv : v < big) (e0 : -300000 ≤ e) (e1 : e ≤ 300000) (hk : 100000000 ≤ k) : Z00.f k (ofN v) e = some (Z1N v e) := by
 unfold Z00.f Z1N
 rw [Z40, Zc]
 by_cases z : v = 0
 ·rw [if_pos (decide_eq_true z), if_pos z]
 rw [if_neg (by rw [decide_eq_true_iff]; exact z), if_neg z, Z8V v e k hv e0 e1 hk, Zc]
 by_cases c : Z1a v e = -1022
 ·rw [if_pos c, if_pos c, c, show wrap64 (-1022 - 53) = -1075 by unfold wrap64; omega, Za5 v e (-1075) k hv e0 e1 Zo Zo (by unfold Z1a at c; omega) hk, Zc]
  exact congrArg some (Z9M _)
 rw [if_neg c, if_neg c]
theorem Z7I {v : Nat} {e : Int} (z : v ≠ 0) : 4503599627370496 ≤ rndI v e (Z1a v e - 53) := by
 have b := Z4i z
 unfold rndI Z1a
 rw [show (4503599627370496 : Nat) = 2 ^ 52 by decide]
 split
 ·have hb : bl v ≤ 53 := by omega
  rw [show (e - ((bl v : Int) + e - 53)).toNat = 53 - bl v by omega]
  refine zk6 ?_ (zkq _ b.1)
  rw [← zke]; exact zkl Zd Zo
 rw [show ((bl v : Int) + e - 53 - e).toNat = bl v - 53 by omega]
 refine Z6v ?_
 rw [← zke, show 52 + (bl v - 53) = bl v - 1 by omega]
 exact b.1
theorem Za6 {E : Int} {q : Nat} (h0 : -1074 ≤ E) (h1 : E ≤ 971) (q0 : 4503599627370496 ≤ q) (q1 : q ≤ 9007199254740992) :
  IntKind.u64.wrap ((IntKind.u64.wrap ((IntKind.u64.wrap ((IntKind.u64.wrap (wrap64 (E + 1075))) * 4503599627370496)) + (q : Int))) - 4503599627370496) = (E + 1074) * 4503599627370496 + (q : Int) := by
 rw [show wrap64 (E + 1075) = E + 1075 by unfold wrap64; omega, Nb.Z3K (x := E + 1075) Zo Zo, Nb.Z3K (x := (E + 1075) * 4503599627370496) Zo Zo, Nb.Z3K (x := (E + 1075) * 4503599627370496 + q) Zo Zo, Nb.Z3K Zo Zo]
 omega
theorem nj0 (k : Nat) (E q : Int) (l : Bool) : ZJ.j0 (k + 1) E q l = if q < 4503599627370496 then some (q, l) else if E > 971 then some (Z2Q, true) else some (IntKind.u64.wrap ((IntKind.u64.wrap ((IntKind.u64.wrap ((IntKind.u64.wrap (wrap64 (E + 1075))) * 4503599627370496)) + q)) - 4503599627370496), l) := rfl
theorem Z86 (k : Nat) (E : Int) (q : Nat) (l : Bool) (h0 : -1074 ≤ E) (h1 : E ≤ 300000) (hq : q ≤ 9007199254740992) (hs : q < 4503599627370496 → E = -1074) :
  ZJ.j0 (k + 1) (if (q : Int) = 9007199254740992 then E + 1 else E) (if (q : Int) = 9007199254740992 then (q : Int) / 2 else (q : Int)) l = some (min Z2Q ((E + 1074) * 4503599627370496 + (q : Int)), decide (Z2Q ≤ (E + 1074) * 4503599627370496 + (q : Int)) || l) := by
 rw [nj0]
 unfold Z2Q
 by_cases c : (q : Int) = 9007199254740992
 ·rw [if_pos c, if_pos c, c, if_neg Zo]
  by_cases d : E + 1 > 971
  ·rw [if_pos d, Int.min_eq_left Zo, decide_eq_true Zo, Bool.true_or]
  have := Za6 (E := E + 1) (q := 4503599627370496) Zo Zo Zo Zo
  rw [if_neg d, show ((9007199254740992 : Int) / 2) = ((4503599627370496 : Nat) : Int) by decide, this, decide_eq_false Zo, zkM, Int.min_eq_right Zo]
  congr 2; omega
 rw [if_neg c, if_neg c]
 by_cases s : (q : Int) < 4503599627370496
 ·rw [if_pos s, hs Zo, decide_eq_false Zo, zkM, Int.min_eq_right Zo]
  congr 2; omega
 rw [if_neg s]
 by_cases d : E > 971
 ·rw [if_pos d, Int.min_eq_left Zo, decide_eq_true Zo, Bool.true_or]
 rw [if_neg d, Za6 h0 Zo Zo hq, decide_eq_false Zo, zkM, Int.min_eq_right Zo]
theorem ZaW (k : Nat) (E q : Int) (l : Bool) (h0 : -1074 ≤ E) (h1 : E ≤ 300000) : (if q = 9007199254740992 then ZJ.j0 k (wrap64 (E + 1)) (q / 2) l else ZJ.j0 k E q l) = ZJ.j0 k (if q = 9007199254740992 then E + 1 else E) (if q = 9007199254740992 then q / 2 else q) l := by
 rw [show wrap64 (E + 1) = E + 1 by unfold wrap64; omega]
 split <;> rfl
theorem Zcg (a b : Int) : mx a b = max a b := by
 unfold mx; split <;> omega
theorem Z87 {v : Nat} {e : Int} (z : v ≠ 0) (h : rndI v e (Z11 v e) < 4503599627370496) : Z11 v e = -1074 := by
 have := Z7I (v := v) (e := e) z
 unfold Z11 at *
 by_cases c : Z1a v e - 53 ≤ -1074
 ·omega
 rw [Int.max_eq_left Zo] at h; omega
theorem ZaX (v : Nat) (e : Int) : rndI v e (Z11 v e) ≤ 9007199254740992 := by
 have := ZaV (v := v) (e := e) (E := Z11 v e) (m := 53) (by unfold Z11 Z1a; omega)
 exact zk6 this Zd
theorem Z88 (v : Nat) (e : Int) (k : Nat) (hv : v < big) (e0 : -200000 ≤ e) (e1 : e ≤ 200000) (hk : 100000000 ≤ k) : ZJ.f k (ofN v) e = some (mbI v e, lsI v e) := by
 have hb := Z48.1 hv
 unfold ZJ.f mbI lsI
 rw [Z8V v e k hv Zo Zo hk, Zc, Z40, Zc]
 by_cases z : v = 0
 ·rw [if_pos (decide_eq_true z), if_pos z, if_pos z]
 rw [if_neg (by rw [decide_eq_true_iff]; exact z), if_neg z, if_neg z]
 by_cases c1 : 1024 < Z1a v e
 ·rw [if_pos c1, if_pos c1, if_pos c1]; rfl
 rw [if_neg c1, if_neg c1, if_neg c1]
 by_cases c2 : Z1a v e < -1074
 ·rw [if_pos c2, if_pos c2, if_pos c2]
 rw [if_neg c2, if_neg c2, if_neg c2, show wrap64 (Z1a v e - 53) = Z1a v e - 53 by unfold wrap64; omega, Zcg]
 show (Z12.f k (ofN v) e (Z11 v e)).bind _ = _
 have l0 : -1074 ≤ Z11 v e := by unfold Z11; omega
 have l1 : Z11 v e ≤ 971 := by unfold Z11; omega
 rw [Za5 v e (Z11 v e) k hv Zo Zo Zo Zo (by unfold Z11 Z1a; omega) hk, Zc]
 have sm := Z87 (e := e) z
 have le := ZaX v e
 obtain ⟨k, rfl⟩ : ∃ j, k = j + 1 := ⟨k - 1, by omega⟩
 have := Z86 k (Z11 v e) (rndI v e (Z11 v e)) (Z4G v e (Z11 v e)) l0 Zo le sm
 exact (ZaW (k + 1) (Z11 v e) _ _ l0 Zo).trans this
def KK : Nat := (-1074 - lowE).toNat
theorem Z3M : (KK : Int) = -1074 - lowE := by unfold KK lowE; omega
theorem Z4y : 2 ≤ KK := by have := Z3M; unfold lowE at this; omega
theorem Z8W (v j : Nat) {n : Nat} (hn : 1 ≤ n) : rnd (v * 2 ^ j) (n + j) = rnd v n := by
 have l := zkH v (Z1n n)
 have e := zkG v (2 ^ n)
 have p := Z1n j
 have e2 : v * 2 ^ j = v / 2 ^ n * 2 ^ (n + j) + v % 2 ^ n * 2 ^ j := by
  rw [zke, ← zkj, ← Nat.add_mul, zkw (v / 2 ^ n), e]
 have l2 : v % 2 ^ n * 2 ^ j < 2 ^ (n + j) := by
  rw [zke]; exact Nat.mul_lt_mul_of_pos_right l p
 rw [e2, Z6z Zo l2, Z3D v hn]
 congr 1
 have c1 : 2 ^ (n + j) < 2 * (v % 2 ^ n * 2 ^ j) ↔ 2 ^ n < 2 * (v % 2 ^ n) := by
  rw [zke, ← zkj]; exact Nat.mul_lt_mul_right p
 have c2 : 2 * (v % 2 ^ n * 2 ^ j) = 2 ^ (n + j) ↔ 2 * (v % 2 ^ n) = 2 ^ n := by
  rw [zke, ← zkj]; exact Nat.mul_right_cancel_iff p
 simp only [c1, c2]
theorem Z6X {v : Nat} {e E : Int} (h : lowE ≤ E) (h2 : E ≤ e) : am v e = v * 2 ^ (e - E).toNat * 2 ^ (E - lowE).toNat := by
 unfold am
 rw [zkj, ← zke]
 congr 2; omega
theorem Z7J {v : Nat} {e E : Int} (h : lowE ≤ e) (h2 : lowE < E) : rndI v e E = rnd (am v e) (E - lowE).toNat := by
 unfold rndI
 by_cases c : E ≤ e
 ·rw [if_pos c, Z6X (Int.le_of_lt h2) c, Z7j _ Zo]
 rw [if_neg c, show (E - lowE).toNat = (E - e).toNat + (e - lowE).toNat by omega]
 unfold am
 rw [Z8W _ _ Zo]
theorem Z9N {v : Nat} {e E : Int} (h : lowE ≤ e) (h2 : lowE < E) : Z4G v e E = decide (am v e % 2 ^ (E - lowE).toNat ≠ 0) := by
 unfold Z4G
 by_cases c : E ≤ e
 ·rw [if_pos c, Z6X (Int.le_of_lt h2) c, Nat.mul_mod_left]; rfl
 rw [if_neg c, show (E - lowE).toNat = (E - e).toNat + (e - lowE).toNat by omega]
 unfold am
 rw [zke, Nat.mul_mod_mul_right, zkm, decide_eq_true_iff, decide_eq_true_iff]
 have p := Z1n (e - lowE).toNat
 refine not_congr ⟨fun c => by rw [c, zkB], fun c => ?_⟩
 rcases Nat.mul_eq_zero.1 c with c | c
 ·exact c
 omega
theorem Z6e {v : Nat} {e : Int} (z : v ≠ 0) (h : lowE ≤ e) : shA KK (am v e) = (Z11 v e - lowE).toNat := by
 have b := Z5l z h
 have k := Z3M
 unfold shA Z11 Z1a
 unfold lowE at *
 omega
theorem Z6Y {v : Nat} {e : Int} (z : v ≠ 0) (h : lowE ≤ e) (c : Z1a v e < -1074) : am v e < 2 ^ (KK - 1) := by
 rw [← Z1K]
 have b := Z5l z h
 have k := Z3M
 unfold Z1a at c
 unfold lowE at *
 omega
theorem Z9O {A n : Nat} (hn : 1 ≤ n) (h : A < 2 ^ (n - 1)) : rnd A n = 0 := by
 have e : 2 ^ n = 2 ^ (n - 1) * 2 := by rw [← zkp]; congr 1; omega
 have := Z6z (m := 0) (n := n) (r := A) hn Zo
 rw [zkB, zkF, zkF] at this
 rw [this, if_neg Zo]
theorem Z3z (e : Int) : am 0 e = 0 := zkB _
theorem Z89 {v : Nat} {e : Int} (z : v ≠ 0) (h : lowE ≤ e) : ((cdA KK (am v e) : Nat) : Int) = Z2I v e := by
 have k := Z3M
 have l : lowE < Z11 v e := by unfold Z11; unfold lowE; omega
 unfold cdA Z2I
 rw [Z6e z h, Z7J h l]
 generalize rnd (am v e) (Z11 v e - lowE).toNat = q
 have : (((Z11 v e - lowE).toNat - KK : Nat) : Int) = Z11 v e + 1074 := by
  have : -1074 ≤ Z11 v e := by unfold Z11; omega
  unfold lowE at *; omega
 omega
theorem Z6Z {v : Nat} {e : Int} (z : v ≠ 0) (h : lowE ≤ e) (c : 1024 < Z1a v e) : Z2Q ≤ Z2I v e := by
 have := Z7I (e := e) z
 unfold Z2I Z2Q
 rw [show Z11 v e = Z1a v e - 53 by unfold Z11; omega]
 omega
theorem Z8X {v : Nat} {e : Int} (z : v ≠ 0) (h : lowE ≤ e) (c : Z1a v e < -1074) : Z2I v e = 0 := by
 rw [← Z89 z h]
 have s := Z6e z h
 have k := Z3M
 have : Z11 v e = -1074 := by unfold Z11; omega
 rw [this, ← k, zk4] at s
 unfold cdA
 rw [s, Z9O (by have := Z4y; omega) (Z6Y z h c), Nat.sub_self]
 rfl
theorem Z8Y : ((INn : Nat) : Int) = Z2Q := rfl
theorem Z4H (v : Nat) {e : Int} (h : lowE ≤ e) : mbI v e = ((mbA KK (am v e) : Nat) : Int) := by
 unfold mbI mbA
 by_cases z : v = 0
 ·subst z; rw [if_pos rfl, Z3z, Z4S]; rfl
 rw [if_neg z]
 have cd := Z89 z h
 have i := Z8Y
 have c0 : (0 : Int) ≤ Z2Q := by decide
 by_cases c1 : 1024 < Z1a v e
 ·have := Z6Z z h c1
  rw [if_pos c1]; omega
 rw [if_neg c1]
 by_cases c2 : Z1a v e < -1074
 ·have := Z8X z h c2
  rw [if_pos c2]; omega
 rw [if_neg c2]; omega
theorem Za7 (v : Nat) {e : Int} (h : lowE ≤ e) : lsI v e = true ↔ lsA KK (am v e) := by
 unfold lsI lsA
 by_cases z : v = 0
 ·subst z
  rw [if_pos rfl, Z3z, Z4S, Nat.zero_mod]
  refine ⟨fun c => (by cases c), fun c => ?_⟩
  rcases c with c | c
  ·exact absurd c Zd
  exact absurd rfl c
 rw [if_neg z]
 have cd := Z89 z h
 have i := Z8Y
 by_cases c1 : 1024 < Z1a v e
 ·have := Z6Z z h c1
  rw [if_pos c1]; exact ⟨fun _ => .inl Zo, fun _ => rfl⟩
 rw [if_neg c1]
 by_cases c2 : Z1a v e < -1074
 ·rw [if_pos c2]
  refine ⟨fun _ => .inr ?_, fun _ => rfl⟩
  have s := Z6e z h
  have k := Z3M
  rw [show Z11 v e = -1074 by unfold Z11; omega, ← k, zk4] at s
  have a := Z6Y z h c2
  have : 2 ^ (KK - 1) ≤ 2 ^ KK := zkl Zd (Nat.sub_le _ _)
  rw [s, zkz (zkn a this)]
  exact Z4x z e
 rw [if_neg c2, Bool.or_eq_true, decide_eq_true_iff, Z9N h (by unfold Z11; unfold lowE; omega), decide_eq_true_iff, ← Z6e z h]
 exact or_congr Zo Iff.rfl
theorem Z5p (v : Nat) {e : Int} (h : lowE ≤ e) : Z1N v e = true ↔ v ≠ 0 ∧ tyA KK (am v e) := by
 unfold Z1N tyA
 by_cases z : v = 0
 ·subst z
  rw [if_pos rfl]
  exact ⟨fun c => (by cases c), fun c => absurd rfl c.1⟩
 rw [if_neg z]
 have k := Z3M
 have k2 := Z4y
 have kk : (-1075 - lowE).toNat = KK - 1 := by unfold lowE at *; omega
 have b := Z5l z h
 by_cases c : Z1a v e = -1022
 ·rw [if_pos c, decide_eq_true_iff, Z7J h Zd, kk]
  exact ⟨fun d => ⟨z, d⟩, fun d => d.2⟩
 rw [if_neg c, decide_eq_true_iff]
 refine ⟨fun d => ⟨z, ?_⟩, fun d => ?_⟩
 ·refine zkr (Z6w (m := 4503599627370496) Zo ?_) Zd
  rw [← P52, ← zke]
  refine zky (Z1K.1 ?_)
  unfold Z1a at d; unfold lowE at *; omega
 refine Classical.byContradiction fun f => ?_
 have g : 9007199254740992 ≤ rnd (am v e) (KK - 1) := by
  refine Z6v ?_
  rw [← P53, ← zke]
  refine Nat.not_lt.1 fun x => ?_
  rw [← Z1K] at x
  unfold Z1a at *; unfold lowE at *; omega
 omega
open Classical in
noncomputable def flA (A : Nat) : Int := if lsA KK A then (if mbA KK A = INn then 20 else if A ≠ 0 ∧ tyA KK A then 24 else 16) else 0
def nbZ (Z : Int) : Int := ((mbA KK Z.natAbs : Nat) : Int) + sX (decide (Z < 0))
theorem Z5q (K A : Nat) : mbA K A ≤ INn := Nat.min_le_left _ _
theorem Z8a (s : Bool) (l : List Int) (e : Int) : vl s l e = sg s (am (val l) e) := by unfold vl; rw [Z30]
theorem ZbN (s : Bool) (l : List Int) (e : Int) : decide (vl s l e < 0) = (s && decide (val l ≠ 0)) := by
 rw [Z8a]
 by_cases z : val l = 0
 ·rw [z, Z3z, Z38]; cases s <;> rfl
 rw [Z5j s (Z4x z e), decide_eq_true z, Bool.and_true]
theorem Z5r (s : Bool) (l : List Int) (e : Int) : nbZ (vl s l e) = ((mbA KK (am (val l) e) : Nat) : Int) + sX (s && decide (val l ≠ 0)) := by
 unfold nbZ; rw [ZbN, Z2E]
theorem Z9P {m : Nat} (h : m ≤ INn) : Nb.ng (m : Int) = (m : Int) + 9223372036854775808 := by
 unfold Nb.ng; exact if_pos (by unfold INn at h; omega)
theorem ZaY (k : Nat) (s : Bool) (l : List Int) (e e' : Int) (v m : Nat) (fl : Int) (hm : m ≤ INn) : ZY.j0 (k + 1) s l e (ofN v) e' (m : Int) fl = some ((m : Int) + sX (s && decide (v ≠ 0)), fl) := by
 show (if s = true then _ else _) = _
 cases s with
 | false => rw [if_neg Zd, Bool.false_and]; show _ = some ((m : Int) + 0, fl); rw [zkL]
 | true =>
  rw [if_pos rfl, Z40, Zc, Bool.true_and]
  by_cases z : v = 0
  ·rw [if_pos (decide_eq_true z), decide_eq_false (not_not_intro z)]; show _ = some ((m : Int) + 0, fl); rw [zkL]
  rw [if_neg (by rw [decide_eq_true_iff]; exact z), Nb.Zbs ⟨by omega, by unfold INn at hm; omega⟩, Zc, Z9P hm, decide_eq_true z]; rfl
theorem Z8b (s : Bool) (l : List Int) (e : Int) (k : Nat) (w : Wl l) (h : Z19 (val l) e = true) (hk : 100000000000000000 ≤ k) : Z15.f k s l e = some (ofN (val l), e) := by
 have f := Z1q.1 h
 have wl := w.2
 unfold Z15.f
 rw [ZaI l k w.1 w.2 Zo, if_pos f.1, Zc]
theorem Z5s {e : Int} (h : -300000 ≤ e) : lowE ≤ e := by unfold lowE; omega
theorem Z8Z {v : Nat} {e : Int} (h : lowE ≤ e) : mbI v e = 9218868437227405312 ↔ mbA KK (am v e) = INn := by
 rw [Z4H v h]; show _ = ((INn : Nat) : Int) ↔ _; omega
theorem Z5K (s : Bool) (l : List Int) (e : Int) (k : Nat) (w : Wl l) (h : Z19 (val l) e = true) (hk : 100000000000000000 ≤ k) : ZY.f k s l e = some (nbZ (vl s l e), flA (vl s l e).natAbs) := by
 have f := Z1q.1 h
 obtain ⟨k, rfl⟩ : ∃ j, k = j + 1 := ⟨k - 1, by omega⟩
 unfold ZY.f
 rw [Z8b s l e (k + 1) w h hk, Zc]
 show (ZJ.f (k + 1) (ofN (val l)) e).bind _ = _
 have le := Z5s (e := e) Zo
 rw [Z88 (val l) e (k + 1) f.1 Zo Zo Zo, Zc]
 show (if lsI (val l) e = true then (if mbI (val l) e = 9218868437227405312 then ZY.j0 (k + 1) s l e (ofN (val l)) e (mbI (val l) e) 20 else _) else ZY.j0 (k + 1) s l e (ofN (val l)) e (mbI (val l) e) 0) = _
 rw [Z5J (val l) e (k + 1) f.1 Zo Zo Zo, Zc, Z5r, Z2E]
 have ls := Za7 (val l) le
 have ty := Z5p (val l) le
 have mi := Z8Z (v := val l) le
 have mb := Z4H (val l) le
 have am0 : val l ≠ 0 ↔ am (val l) e ≠ 0 := ⟨fun z => Z4x z e, fun z c => z (by rw [c, Z3z])⟩
 have J := fun fl => ZaY k s l e e (val l) (mbA KK (am (val l) e)) fl (Z5q _ _)
 unfold flA
 by_cases c1 : lsA KK (am (val l) e)
 ·rw [if_pos (ls.2 c1), if_pos c1]
  by_cases c2 : mbA KK (am (val l) e) = INn
  ·rw [if_pos (mi.2 c2), if_pos c2, mb, J]
  rw [if_neg (fun c => c2 (mi.1 c)), if_neg c2, mb]
  by_cases c3 : am (val l) e ≠ 0 ∧ tyA KK (am (val l) e)
  ·rw [if_pos (ty.2 ⟨am0.2 c3.1, c3.2⟩), if_pos c3, show Go.bits .or .u8 16 8 = 24 by decide, J]
  rw [if_neg (fun c => c3 ⟨am0.1 (ty.1 c).1, (ty.1 c).2⟩), if_neg c3, J]
 rw [if_neg (fun c => c1 (ls.1 c)), if_neg c1, mb, J]
noncomputable def Z6f (s : Bool) (l : List Int) (e : Int) : Int × Int × Int := if Z19 (val l) e = true then (nbZ (vl s l e), flA (vl s l e).natAbs, 0) else (0, 0, 2)
theorem Z9Q (s : Bool) (l : List Int) (e : Int) (k : Nat) (w : Wl l) (hk : 100000000000000000 ≤ k) : Z2l.f k s l e = some (if Z19 (val l) e = true then 0 else 2) := by
 unfold Z2l.f
 rw [Z4g s l e k w.1 w.2 hk, Zc]
 by_cases h : Z19 (val l) e = true
 ·rw [h]; rfl
 rw [Bool.eq_false_iff.2 h]; rfl
theorem Z7K (s : Bool) (l : List Int) (e : Int) (k : Nat) (w : Wl l) (hk : 100000000000000000 ≤ k) : Z0A.f k s l e = some (Z6f s l e) := by
 unfold Z0A.f Z6f
 rw [Z9Q s l e k w hk, Zc]
 by_cases h : Z19 (val l) e = true
 ·rw [if_pos h, if_pos rfl, Z5K s l e k w h hk, Zc, if_pos h]
 rw [if_neg h, if_neg Zd, if_neg h]
def okI (s0 : Bool) (l0 : List Int) (e0 : Int) (s1 : Bool) (l1 : List Int) (e1 : Int) : Prop := Z19 (val l0) e0 = true ∧ Z19 (val l1) e1 = true ∧ vl s0 l0 e0 ≤ vl s1 l1 e1
theorem Z41 (x y : Int) : Z22 x y > 0 ↔ ¬ x ≤ y := by
 unfold Z22
 by_cases c : x < y
 ·rw [if_pos c]; omega
 rw [if_neg c]
 by_cases d : x = y
 ·rw [if_pos d]; omega
 rw [if_neg d]; omega
theorem Z7L (x y : Int) : Z22 x y ≤ 0 ↔ x ≤ y := by
 have := Z41 x y
 constructor <;> intro h <;> omega
open Classical in
theorem Z70 (s0 s1 : Bool) (l0 l1 : List Int) (e0 e1 : Int) (k : Nat) (w0 : Wl l0) (w1 : Wl l1) (hk : 200000000000000000 ≤ k) : Z1G.f k s0 l0 e0 s1 l1 e1 = some (if okI s0 l0 e0 s1 l1 e1 then 0 else 2) := by
 unfold Z1G.f okI
 rw [ZaP s0 s1 l0 l1 e0 e1 k w0 w1 hk, Zc]
 unfold Z9I
 by_cases h : Z19 (val l0) e0 = true ∧ Z19 (val l1) e1 = true
 ·rw [if_pos h, if_pos rfl]
  by_cases c : vl s0 l0 e0 ≤ vl s1 l1 e1
  ·rw [if_neg (fun d => (Z41 _ _).1 d c), if_pos ⟨h.1, h.2, c⟩]
  rw [if_pos ((Z41 _ _).2 c), if_neg (fun d => c d.2.2)]
 rw [if_neg h, if_neg (show ¬ (2 : Int) = 0 by decide), if_neg (fun d => h ⟨d.1, d.2.1⟩)]
theorem Za8 (n : Nat) {e : Int} (h : lowE ≤ e) : (Z1N n e || decide (n = 0)) = true ↔ tyA KK (am n e) := by
 rw [Bool.or_eq_true, Z5p n h, decide_eq_true_iff]
 by_cases z : n = 0
 ·subst z; rw [Z3z]; exact ⟨fun _ => Z9k _, fun _ => .inr rfl⟩
 exact ⟨fun c => c.elim (fun c => c.2) (fun c => absurd c z), fun c => .inl ⟨z, c⟩⟩
theorem Zch (Z : Int) : Nb.am (nbZ Z) = ((mbA KK Z.natAbs : Nat) : Int) := by
 have := Z5q KK Z.natAbs
 unfold INn at this
 unfold Nb.am nbZ sX
 split <;> omega
theorem ZbO (Z : Int) : Nb.W64 (nbZ Z) := by
 have := Z5q KK Z.natAbs
 unfold INn at this
 unfold Nb.W64 nbZ sX
 split <;> omega
theorem Z90 (Z : Int) : Nb.am (nbZ Z) = 9218868437227405312 ↔ mbA KK Z.natAbs = INn := by
 rw [Zch]; unfold INn; omega
open Classical in
noncomputable def Z1H (Z : Int) : Int := if mbA KK Z.natAbs = INn then 20 else if tyA KK Z.natAbs then 24 else 16
def Z3N (Z0 Z1 : Int) : Prop := nbZ Z0 = nbZ Z1 ∧ (tyA KK Z0.natAbs ↔ tyA KK Z1.natAbs)
open Classical in
noncomputable def Z4Z (Z0 Z1 : Int) : Int × Int × Bool × Int := if Z3N Z0 Z1 then (nbZ Z0, Z1H Z0, true, 0) else (0, 0, false, 0)
theorem ZbP (k : Nat) (x : Bool) (Z : Int) (fl : Int) (hx : x = true ↔ tyA KK Z.natAbs) : Zk.j3 (k + 1) x (nbZ Z) fl = some (nbZ Z, Z1H Z, true, 0) := by
 have u : Zk.j3 (k + 1) x (nbZ Z) fl = (Z2t.f (nbZ Z)).bind fun t551 => (if t551 = 9218868437227405312 then (some (nbZ Z, Go.bits .or .u8 16 4, true, 0)) else (if x = true then (some (nbZ Z, Go.bits .or .u8 16 8, true, 0)) else (some (nbZ Z, 16, true, 0)))) := by rw [Zk.j3]
 rw [u, Nb.Zbt (ZbO Z), Zc, show Go.bits .or .u8 16 8 = 24 by decide, show Go.bits .or .u8 16 4 = 20 by decide]
 unfold Z1H
 by_cases c : mbA KK Z.natAbs = INn
 ·rw [if_pos ((Z90 Z).2 c), if_pos c]
 rw [if_neg (fun d => c ((Z90 Z).1 d)), if_neg c]
 by_cases d : tyA KK Z.natAbs
 ·rw [if_pos (hx.2 d), if_pos d]
 rw [if_neg (fun c => d (hx.1 c)), if_neg d]
theorem Z71 (k : Nat) (x y : Bool) (Z : Int) (fl : Int) (hx : x = true ↔ tyA KK Z.natAbs) : Zk.j2 (k + 2) x y (nbZ Z) fl = some (if y = true then (0, 0, false, 0) else (nbZ Z, Z1H Z, true, 0)) := by
 have u : Zk.j2 (k + 2) x y (nbZ Z) fl = if y = true then (some (0, 0, false, 0)) else (Zk.j3 (k + 1) x (nbZ Z) fl) := by rw [Zk.j2]
 rw [u, ZbP k x Z fl hx]
 split <;> rfl
theorem ZbQ (k : Nat) (x : Bool) (Z0 : Int) (f0 f1 : Int) (s1 : Bool) (l1 : List Int) (e1 : Int) (h : Z19 (val l1) e1 = true) (hx : x = true ↔ tyA KK Z0.natAbs) (hk : 100000000000000000 ≤ k) :
  Zk.j1 (k + 3) x (nbZ Z0) f0 (nbZ (vl s1 l1 e1)) f1 (ofN (val l1)) e1 = some (Z4Z Z0 (vl s1 l1 e1)) := by
 have f := Z1q.1 h
 have u : Zk.j1 (k + 3) x (nbZ Z0) f0 (nbZ (vl s1 l1 e1)) f1 (ofN (val l1)) e1 = if nbZ Z0 = nbZ (vl s1 l1 e1) then ((Z00.f (k + 2) (ofN (val l1)) e1).bind fun t548 => (if t548 = true then (Zk.j2 (k + 2) x (x != true) (nbZ Z0) f0) else ((ZM.f (ofN (val l1)) e1).bind fun t549 => (Zk.j2 (k + 2) x (x != t549) (nbZ Z0) f0)))) else (Zk.j2 (k + 2) x true (nbZ Z0) f0) := by rw [Zk.j1]
 have tt := Za8 (val l1) (e := e1) (Z5s Zo)
 rw [u, Z5J (val l1) e1 (k + 2) f.1 Zo Zo Zo, Zc, Z40, Zc, Z71 k x _ Z0 f0 hx, Z71 k x _ Z0 f0 hx, Z71 k x _ Z0 f0 hx]
 unfold Z4Z Z3N
 rw [Z2E]
 by_cases c : nbZ Z0 = nbZ (vl s1 l1 e1)
 ·rw [if_pos c]
  have g : (if Z1N (val l1) e1 = true then some (if (x != true) = true then ((0 : Int), (0 : Int), false, (0 : Int)) else (nbZ Z0, Z1H Z0, true, 0)) else some (if (x != decide (val l1 = 0)) = true then (0, 0, false, 0) else (nbZ Z0, Z1H Z0, true, 0))) = some (if (x != (Z1N (val l1) e1 || decide (val l1 = 0))) = true then (0, 0, false, 0) else (nbZ Z0, Z1H Z0, true, 0)) := by
   cases Z1N (val l1) e1
   ·rw [if_neg Zd, zkM]
   rw [if_pos rfl, Bool.true_or]
  rw [g]
  generalize (Z1N (val l1) e1 || decide (val l1 = 0)) = y at *
  by_cases d : x = y
  ·rw [if_neg (by rw [d]; simp), if_pos ⟨c, by rw [← hx, ← tt, d]⟩]
  rw [if_pos (by simpa using d), if_neg (fun h => d (zkm.2 (hx.trans (h.2.trans tt.symm))))]
 rw [if_neg c, if_pos rfl, if_neg (fun h => c h.1)]
open Classical in
theorem Z3O (s0 s1 : Bool) (l0 l1 : List Int) (e0 e1 : Int) (k : Nat) (w0 : Wl l0) (w1 : Wl l1) (hk : 300000000000000000 ≤ k) : Zk.f k s0 l0 e0 s1 l1 e1 = some (if okI s0 l0 e0 s1 l1 e1 then Z4Z (vl s0 l0 e0) (vl s1 l1 e1) else (0, 0, false, 2)) := by
 unfold Zk.f
 rw [Z70 s0 s1 l0 l1 e0 e1 k w0 w1 Zo, Zc]
 by_cases c : okI s0 l0 e0 s1 l1 e1
 ·rw [if_pos c, if_pos c, if_pos rfl]
  obtain ⟨k, rfl⟩ : ∃ j, k = j + 4 := ⟨k - 4, by omega⟩
  have u : Zk.j0 (k + 4) s0 l0 e0 s1 l1 e1 = (ZY.f (k + 3) s0 l0 e0).bind fun bt530 => ((ZY.f (k + 3) s1 l1 e1).bind fun bt532 => ((Z15.f (k + 3) s0 l0 e0).bind fun bt536 => ((Z15.f (k + 3) s1 l1 e1).bind fun bt540 => ((Z00.f (k + 3) bt536.1 bt536.2).bind fun t546 => (if t546 = true then (Zk.j1 (k + 3) true bt530.1 bt530.2 bt532.1 bt532.2 bt540.1 bt540.2) else ((ZM.f bt536.1 bt536.2).bind fun t547 => (Zk.j1 (k + 3) t547 bt530.1 bt530.2 bt532.1 bt532.2 bt540.1 bt540.2))))))) := by rw [Zk.j0]
  have f0 := Z1q.1 c.1
  have tt := Za8 (val l0) (e := e0) (Z5s Zo)
  rw [u, Z5K s0 l0 e0 (k + 3) w0 c.1 Zo, Zc, Z5K s1 l1 e1 (k + 3) w1 c.2.1 Zo, Zc, Z8b s0 l0 e0 (k + 3) w0 c.1 Zo, Zc, Z8b s1 l1 e1 (k + 3) w1 c.2.1 Zo, Zc]
  show (Z00.f (k + 3) (ofN (val l0)) e0).bind _ = _
  rw [Z5J (val l0) e0 (k + 3) f0.1 Zo Zo Zo, Zc]
  have J := fun x hx => ZbQ k x (vl s0 l0 e0) (flA (vl s0 l0 e0).natAbs) (flA (vl s1 l1 e1).natAbs) s1 l1 e1 c.2.1 hx Zo
  rw [Z2E] at J
  by_cases d : Z1N (val l0) e0 = true
  ·rw [if_pos d]
   rw [Z2E]
   exact J true ⟨fun _ => tt.1 (by rw [d, Bool.true_or]), fun _ => rfl⟩
  rw [if_neg d]
  show (ZM.f (ofN (val l0)) e0).bind _ = _
  rw [Z40, Zc, Z2E]
  refine J _ ?_
  rw [← tt, Bool.eq_false_iff.2 d, zkM]
 rw [if_neg c, if_neg c, if_neg Zd]
theorem Zci (v : Nat) {e : Int} (h : lowE ≤ e) : flA (am v e) = if lsI v e = true then (if mbI v e = Z2Q then 20 else if Z1N v e = true then 24 else 16) else 0 := by
 have ls := Za7 v h
 have ty := Z5p v h
 have mi : mbI v e = Z2Q ↔ mbA KK (am v e) = INn := Z8Z h
 have am0 : v ≠ 0 ↔ am v e ≠ 0 := ⟨fun z => Z4x z e, fun z c => z (by rw [c, Z3z])⟩
 unfold flA
 by_cases c1 : lsI v e = true
 ·rw [if_pos c1, if_pos (ls.1 c1)]
  by_cases c2 : mbI v e = Z2Q
  ·rw [if_pos c2, if_pos (mi.1 c2)]
  rw [if_neg c2, if_neg (fun c => c2 (mi.2 c))]
  by_cases c3 : Z1N v e = true
  ·rw [if_pos c3, if_pos ⟨am0.1 (ty.1 c3).1, (ty.1 c3).2⟩]
  rw [if_neg c3, if_neg (fun c => c3 (ty.2 ⟨am0.2 c.1, c.2⟩))]
 rw [if_neg c1, if_neg (fun c => c1 (ls.2 c))]
theorem Z72 {v : Int} (h0 : 0 ≤ v) (h1 : v < 18446744073709551616) : Wl [v] := ⟨ZbK h0 h1, ZaS v⟩
theorem Z4k (v : Nat) (e : Int) (k : Nat) (hv : v < 18446744073709551616) (e0 : -32768 ≤ e) (e1 : e ≤ 32768) (hk : 100000000000000000 ≤ k) : Z0A.f k false [(v : Int)] e = some (mbI v e, (if lsI v e = true then (if mbI v e = Z2Q then 20 else if Z1N v e = true then 24 else 16) else 0), 0) := by
 have le := Z5s (e := e) Zo
 have val1 : val [(v : Int)] = v := by rw [Z5I, zk4]
 rw [Z7K false [(v : Int)] e k (Z72 Zo Zo) hk]
 unfold Z6f
 rw [val1, if_pos (Z1q.2 ⟨Z4j hv, e0, e1⟩), Z5r, Z2E, val1, Zci v le, Z4H v le, Bool.false_and]
 show some (((mbA KK (am v e) : Nat) : Int) + 0, _, _) = _
 rw [zkL]
theorem ZbR : bl 1 = 1 := Z2a (m := 0) Zd Zd
theorem Zcr : bl 3 = 2 := Z2a (m := 1) Zd Zd
theorem Zcs : bl 1152921504606846977 = 61 := Z2a (m := 60) Zd Zd
theorem Zct : bl 36028797018963969 = 56 := Z2a (m := 55) Zd Zd
theorem l1 (k : Nat) (hk : 100000000000000000 ≤ k) : Z0A.f k false [1] (-1075) = some (0, 24, 0) := by
 have := Z4k 1 (-1075) k Zd Zd Zd hk
 refine this.trans ?_
 unfold lsI Z1N mbI Z2I Z11 Z1a
 rw [ZbR]
 decide
theorem l2 (k : Nat) (hk : 100000000000000000 ≤ k) : Z0A.f k false [1] 1024 = some (9218868437227405312, 20, 0) := by
 have := Z4k 1 1024 k Zd Zd Zd hk
 refine this.trans ?_
 unfold lsI Z1N mbI Z2I Z11 Z1a
 rw [ZbR]
 decide
theorem l3 (k : Nat) (hk : 100000000000000000 ≤ k) : Z0A.f k false [3] (-1) = some (4609434218613702656, 0, 0) := by
 have := Z4k 3 (-1) k Zd Zd Zd hk
 refine this.trans ?_
 unfold lsI Z1N mbI Z2I Z11 Z1a
 rw [Zcr]
 decide
theorem Z9R : mbI 1152921504606846977 (-60) = 4607182418800017408 ∧ Z1N 1152921504606846977 (-60) = false := by
 unfold Z1N mbI Z2I Z11 Z1a
 rw [Zcs]
 decide
theorem ZbS : mbI 36028797018963969 (-55) = 4607182418800017408 ∧ Z1N 36028797018963969 (-55) = false := by
 unfold Z1N mbI Z2I Z11 Z1a
 rw [Zct]
 decide
theorem Zcj : am 1152921504606846977 (-60) ≤ am 36028797018963969 (-55) := by
 rw [Z6X (v := 36028797018963969) (e := -55) (E := -60) Zd Zd]
 exact zkq _ Zd
theorem l4 (k : Nat) (hk : 300000000000000000 ≤ k) : Zk.f k false [1152921504606846977] (-60) false [36028797018963969] (-55) = some (4607182418800017408, 16, true, 0) := by
 have va : val [(1152921504606846977 : Int)] = 1152921504606846977 := Z5I _
 have vb : val [(36028797018963969 : Int)] = 36028797018963969 := Z5I _
 have la : lowE ≤ -60 := by decide
 have lb : lowE ≤ -55 := by decide
 rw [Z3O false false _ _ _ _ k (Z72 Zd Zd) (Z72 Zd Zd) hk]
 have za : vl false [1152921504606846977] (-60) = (am 1152921504606846977 (-60) : Nat) := by rw [Z8a, va]; rfl
 have zb : vl false [36028797018963969] (-55) = (am 36028797018963969 (-55) : Nat) := by rw [Z8a, vb]; rfl
 have na : nbZ (am 1152921504606846977 (-60) : Nat) = 4607182418800017408 := by
  rw [← za, Z5r, va, ← Z4H _ la, Z9R.1]; decide
 have nb : nbZ (am 36028797018963969 (-55) : Nat) = 4607182418800017408 := by
  rw [← zb, Z5r, vb, ← Z4H _ lb, ZbS.1]; decide
 have ta : ¬ tyA KK (am 1152921504606846977 (-60)) := fun c => by
  have := (Z5p 1152921504606846977 la).2 ⟨by decide, c⟩
  rw [Z9R.2] at this; cases this
 have tb : ¬ tyA KK (am 36028797018963969 (-55)) := fun c => by
  have := (Z5p 36028797018963969 lb).2 ⟨by decide, c⟩
  rw [ZbS.2] at this; cases this
 have ok : okI false [1152921504606846977] (-60) false [36028797018963969] (-55) := by
  refine ⟨?_, ?_, ?_⟩
  ·rw [va]; exact Z1q.2 ⟨Z4j Zd, by decide, by decide⟩
  ·rw [vb]; exact Z1q.2 ⟨Z4j Zd, by decide, by decide⟩
  rw [za, zb]; exact Int.ofNat_le.2 Zcj
 have ia : mbA KK (am 1152921504606846977 (-60)) ≠ INn := fun c => by
  have := Z4H 1152921504606846977 la
  rw [Z9R.1, c] at this
  exact absurd this Zd
 rw [if_pos ok, za, zb]
 unfold Z4Z Z3N Z1H
 rw [Int.natAbs_natCast, Int.natAbs_natCast, if_pos ⟨na.trans nb.symm, fun c => absurd c ta, fun c => absurd c tb⟩, na, if_neg ia, if_neg ta]
theorem Z9S (k : Nat) (hk : 300000000000000000 ≤ k) : Z1s.f k = some true := by
 unfold Z1s.f
 show ((Z0A.f k false [1] (-1075)).bind _) = _
 rw [l1 k Zo, Zc]
 show ((Z0A.f k false [1] 1024).bind _) = _
 rw [l2 k Zo, Zc, l3 k Zo, Zc, l4 k hk, Zc]
 rfl
theorem Z3a (Z : Int) : (Z < 0 ∧ nbZ Z = ((mbA KK Z.natAbs : Nat) : Int) + 9223372036854775808) ∨ (0 ≤ Z ∧ nbZ Z = ((mbA KK Z.natAbs : Nat) : Int)) := by
 unfold nbZ sX
 by_cases h : Z < 0
 ·rw [if_pos (decide_eq_true h)]; exact .inl ⟨h, rfl⟩
 rw [if_neg (by rw [decide_eq_true_iff]; exact h), zkL]; exact .inr ⟨by omega, rfl⟩
theorem Z4z (A : Nat) : ((mbA KK A : Nat) : Int) ≤ 9218868437227405312 := by
 have := Z5q KK A
 unfold INn at this; omega
theorem Z5L {Z0 Z Z1 : Int} (h0 : Z0 ≤ Z) (h1 : Z ≤ Z1) (d : Z3N Z0 Z1) : nbZ Z = nbZ Z0 ∧ (tyA KK Z.natAbs ↔ tyA KK Z0.natAbs) ∧ mbA KK Z.natAbs = mbA KK Z0.natAbs := by
 obtain ⟨d1, d2⟩ := d
 have b0 := Z4z Z0.natAbs; have b := Z4z Z.natAbs; have b1 := Z4z Z1.natAbs
 have K1 : 1 ≤ KK := by have := Z4y; omega
 rcases Z3a Z0 with ⟨a0, c0⟩ | ⟨a0, c0⟩ <;> rcases Z3a Z1 with ⟨a1, c1⟩ | ⟨a1, c1⟩
 ·have l0 : Z.natAbs ≤ Z0.natAbs := by omega
  have l1 : Z1.natAbs ≤ Z.natAbs := by omega
  have m0 := Z49 K1 l0
  have m1 := Z49 K1 l1
  have e : mbA KK Z.natAbs = mbA KK Z0.natAbs := by omega
  refine ⟨?_, ⟨fun t => d2.2 (Z4a Z4y l1 t), fun t => Z4a Z4y l0 t⟩, e⟩
  rcases Z3a Z with ⟨a, c⟩ | ⟨a, c⟩
  ·omega
  omega
 ·omega
 ·omega
 have l0 : Z0.natAbs ≤ Z.natAbs := by omega
 have l1 : Z.natAbs ≤ Z1.natAbs := by omega
 have m0 := Z49 K1 l0
 have m1 := Z49 K1 l1
 have e : mbA KK Z.natAbs = mbA KK Z0.natAbs := by omega
 refine ⟨?_, ⟨fun t => Z4a Z4y l0 t, fun t => Z4a Z4y l1 (d2.1 t)⟩, e⟩
 rcases Z3a Z with ⟨a, c⟩ | ⟨a, c⟩
 ·omega
 omega
theorem ZaZ : ¬ lsA KK 0 := by
 unfold lsA
 rw [Z4S, Nat.zero_mod]
 rintro (c | c)
 ·exact absurd c Zd
 exact absurd rfl c
theorem ZbT {Z : Int} (h : lsA KK Z.natAbs) : flA Z.natAbs = Z1H Z := by
 have z : Z.natAbs ≠ 0 := fun c => ZaZ (c ▸ h)
 unfold flA Z1H
 rw [if_pos h]
 by_cases c : mbA KK Z.natAbs = INn
 ·rw [if_pos c, if_pos c]
 rw [if_neg c, if_neg c]
 by_cases d : tyA KK Z.natAbs
 ·rw [if_pos ⟨z, d⟩, if_pos d]
 rw [if_neg (fun g => d g.2), if_neg d]
def vW (x : Int) : Int := sg (Z1L x) (amc KK (x % 9223372036854775808).toNat)
theorem ZbU {x : Int} (hx : Nb.W64 x) : am (Nb.Z0i x).toNat (Nb.Z0Q x) = amc KK (x % 9223372036854775808).toNat := by
 obtain ⟨a1, a2, a3, a4, a5, a6⟩ := Z5n hx
 have k := Z3M
 unfold Nb.Z0i Nb.Z0Q am amc
 by_cases q : Nb.ex x = 0
 ·rw [if_pos q, if_pos q]
  have h1 : mC (x % 9223372036854775808).toNat = (Nb.fr x).toNat := by unfold mC; rw [if_pos Zo]; omega
  have h2 : tC (x % 9223372036854775808).toNat = 0 := by unfold tC; omega
  rw [h1, h2, show (-1074 - lowE).toNat = KK from rfl, Nat.add_zero]
 rw [if_neg q, if_neg q]
 have h1 : mC (x % 9223372036854775808).toNat = (Nb.fr x + 4503599627370496).toNat := by unfold mC; rw [if_neg Zo]; omega
 have h2 : tC (x % 9223372036854775808).toNat = (Nb.ex x - 1).toNat := by unfold tC; omega
 rw [h1, h2, show (Nb.ex x - 1075 - lowE).toNat = KK + (Nb.ex x - 1).toNat by unfold lowE at *; omega]
theorem Zb0 {x : Int} (hx : Nb.W64 x) (h : Nb.Z2n x) : vl (Z1x x).1 (Z1x x).2.1 (Z1x x).2.2.1 = vW x := by
 rw [ZaT hx h, ZbU hx]; rfl
theorem K1 : 1 ≤ KK := by have := Z4y; omega
theorem Zck {Z : Int} (h : mbA KK Z.natAbs < INn) : vW (nbZ Z) = sg (decide (Z < 0)) (amc KK (cdA KK Z.natAbs)) := by
 have b := Z4z Z.natAbs
 have e : mbA KK Z.natAbs = cdA KK Z.natAbs := by unfold mbA at *; omega
 unfold vW Z1L
 rcases Z3a Z with ⟨a, c⟩ | ⟨a, c⟩
 ·rw [c, show decide (9223372036854775808 ≤ ((mbA KK Z.natAbs : Nat) : Int) + 9223372036854775808) = decide (Z < 0) by rw [decide_eq_true a, decide_eq_true Zo], show (((mbA KK Z.natAbs : Nat) : Int) + 9223372036854775808) % 9223372036854775808 = ((mbA KK Z.natAbs : Nat) : Int) by omega, zk4, e]
 rw [c, show decide (9223372036854775808 ≤ ((mbA KK Z.natAbs : Nat) : Int)) = decide (Z < 0) by rw [decide_eq_false (show ¬ Z < 0 by omega), decide_eq_false Zo], show ((mbA KK Z.natAbs : Nat) : Int) % 9223372036854775808 = ((mbA KK Z.natAbs : Nat) : Int) by omega, zk4, e]
theorem ZbV {Z : Int} : Nb.Z2n (nbZ Z) ↔ mbA KK Z.natAbs < INn := by
 have b := Z4z Z.natAbs
 unfold Nb.Z2n INn
 rcases Z3a Z with ⟨a, c⟩ | ⟨a, c⟩ <;> rw [c] <;> omega
theorem Z9T {Z : Int} (h : ¬ lsA KK Z.natAbs) : vW (nbZ Z) = Z ∧ mbA KK Z.natAbs < INn := by
 obtain ⟨e, l⟩ := Zbp K1 h
 have m : mbA KK Z.natAbs < INn := by unfold mbA; omega
 refine ⟨?_, m⟩
 rw [Zck m, ← e]
 exact Z7x Z
def hC (c : Nat) : Nat := 2 ^ (KK + tC c - 1)
end Go.Proofs.YtnjfckadjklmfaaDoor.Nf

namespace Go.Proofs.YtnjfckadjklmfaaDoor.Pure
open RowKit YtnjfckadjklmfaaDoor.PAll YtnjfckadjklmfaaDoorW.PrintWords YtnjfckadjklmfaaDoorW.PrintLast YtnjfckadjklmfaaDoorW.PrintMore
set_option linter.unusedVariables false
set_option linter.unusedSimpArgs false
open YtnjfckadjklmfaaDoor.Nm YtnjfckadjklmfaaDoor.Nf
theorem Zcl (n : Nat) (e : Int) : (cf false n e).1 = false := by unfold cf; split <;> rfl
theorem Zcm (l : List Int) (e : Int) : 0 ≤ vl false l e := by
 have h : vl false l e = ((vl false l e).natAbs : Int) := by
  rw [Z2E]; unfold vl; rw [Z30]; rfl
 rw [h]; exact zk5 _
noncomputable def Z8c (A B : Bool × List Int × Int) : Bool × List Int × Int × Bool × List Int × Int × Int :=
 if Z19 (val A.2.1) A.2.2 = true ∧ Z19 (val B.2.1) B.2.2 = true then (A.1, A.2.1, A.2.2, B.1, B.2.1, B.2.2, 0) else (false, [], 0, false, [], 0, 3)
theorem Z7M (k : Nat) (s0 s1 : Bool) (l0 l1 lx : List Int) (e0 e1 ex p : Int) (w0 : Wl l0) (w1 : Wl l1) (wx : Wl lx) (f0 : Z19 (val l0) e0 = true) (f1 : Z19 (val l1) e1 = true) (fx : Z19 (val lx) ex = true) (p0 : 0 ≤ p) (p1 : p ≤ 2048) (hk : 300000000000000000 ≤ k) :
  ∃ D : Int, 0 ≤ D ∧ Wl (cz (vl s0 l0 e0 - D) lowE).2.1 ∧ Wl (cz (vl s1 l1 e1 + D) lowE).2.1 ∧ Zv.j3 (k + 1) p s0 l0 e0 s1 l1 e1 (cf false (val lx) ex).1 (cf false (val lx) ex).2.1 (cf false (val lx) ex).2.2 = some (Z8c (cz (vl s0 l0 e0 - D) lowE) (cz (vl s1 l1 e1 + D) lowE)) := by
 obtain ⟨x1, x2, x3⟩ := Z1q.1 fx
 have hC : Rs (cf false (val lx) (ex + -p)).2.1 (cf false (val lx) (ex + -p)).2.2 := Za4 false (by have := Z1Y x1; omega) Zo Zo
 have g0 := Z1M w0.ws w0.len f0
 have g1 := Z1M w1.ws w1.len f1
 have hs : (cf false (val lx) (ex + -p)).1 = false := Zcl _ _
 refine ⟨vl (cf false (val lx) (ex + -p)).1 (cf false (val lx) (ex + -p)).2.1 (cf false (val lx) (ex + -p)).2.2, by rw [hs]; exact Zcm _ _, ?_, ?_, ?_⟩
 ·exact Z6d lowE (zkr (Z6T (s1 := s0) (s2 := (cf false (val lx) (ex + -p)).1) g0.t hC.t) Zd)
 ·exact Z6d lowE (zkr (Z4Y (s1 := s1) (s2 := (cf false (val lx) (ex + -p)).1) g1.t hC.t) Zd)
 have wA := Z6d lowE (zkr (Z6T (s1 := s0) (s2 := (cf false (val lx) (ex + -p)).1) g0.t hC.t) Zd)
 have wB := Z6d lowE (zkr (Z4Y (s1 := s1) (s2 := (cf false (val lx) (ex + -p)).1) g1.t hC.t) Zd)
 have hwr : wrap64 (-p) = -p := by unfold wrap64; omega
 rw [Zv.j3, hwr, Z9F _ _ _ (-p) k (Z85 false wx fx).t Zo Zo Zo, Zc, ZaQ, ZaO s0 _ l0 _ e0 _ k g0.t hC Zo, Zc, Z7A s1 _ l1 _ e1 _ k g1.t hC.t Zo, Zc, Z5H _ _ _ k wA.ws wA.len Zo, Zc]
 unfold Z8c
 by_cases c : Z19 (val (cz (vl s0 l0 e0 - vl (cf false (val lx) (ex + -p)).1 (cf false (val lx) (ex + -p)).2.1 (cf false (val lx) (ex + -p)).2.2) lowE).2.1) (cz (vl s0 l0 e0 - vl (cf false (val lx) (ex + -p)).1 (cf false (val lx) (ex + -p)).2.1 (cf false (val lx) (ex + -p)).2.2) lowE).2.2 = true
 ·rw [if_pos c, Z5H _ _ _ k wB.ws wB.len Zo, Zc]
  by_cases d : Z19 (val (cz (vl s1 l1 e1 + vl (cf false (val lx) (ex + -p)).1 (cf false (val lx) (ex + -p)).2.1 (cf false (val lx) (ex + -p)).2.2) lowE).2.1) (cz (vl s1 l1 e1 + vl (cf false (val lx) (ex + -p)).1 (cf false (val lx) (ex + -p)).2.1 (cf false (val lx) (ex + -p)).2.2) lowE).2.2 = true
  ·rw [if_pos d, if_pos ⟨c, d⟩]
  rw [if_neg d, if_neg (fun q => d q.2)]
 rw [if_neg c, if_neg (fun q => c q.1)]
theorem Zb1 (k : Nat) (s0 s1 : Bool) (l0 l1 : List Int) (e0 e1 p : Int) (w0 : Wl l0) (w1 : Wl l1) (hk : 300000000000000000 ≤ k) (ok : okI s0 l0 e0 s1 l1 e1) :
  (∃ er, (er = 2 ∨ er = 3) ∧ Zv.f (k + 5) s0 l0 e0 s1 l1 e1 p = some (false, [], 0, false, [], 0, er)) ∨
  ∃ (A B : Bool × List Int × Int), Wl A.2.1 ∧ Wl B.2.1 ∧ okI A.1 A.2.1 A.2.2 B.1 B.2.1 B.2.2 ∧ Zv.f (k + 5) s0 l0 e0 s1 l1 e1 p = some (A.1, A.2.1, A.2.2, B.1, B.2.1, B.2.2, 0) := by
 have u : Zv.f (k + 5) s0 l0 e0 s1 l1 e1 p = Zv.j0 (k + 5) p s0 l0 e0 s1 l1 e1 := by
  unfold Zv.f
  rw [Z70 s0 s1 l0 l1 e0 e1 (k + 5) w0 w1 Zo, Zc, if_pos ok, if_pos rfl]
 rw [u]
 by_cases pa : p < 0
 ·left; exact ⟨2, .inl rfl, by rw [Zv.j0, if_pos pa, Zv.j1, if_pos rfl]⟩
 by_cases pb : p > 2048
 ·left; exact ⟨2, .inl rfl, by rw [Zv.j0, if_neg pa, Zv.j1, if_pos (decide_eq_true pb)]⟩
 have key : ∃ D : Int, 0 ≤ D ∧ Wl (cz (vl s0 l0 e0 - D) lowE).2.1 ∧ Wl (cz (vl s1 l1 e1 + D) lowE).2.1 ∧ Zv.j0 (k + 5) p s0 l0 e0 s1 l1 e1 = some (Z8c (cz (vl s0 l0 e0 - D) lowE) (cz (vl s1 l1 e1 + D) lowE)) := by
  have g0 := Z1M w0.ws w0.len ok.1
  have g1 := Z1M w1.ws w1.len ok.2.1
  have hne : ¬ decide (p > 2048) = true := by rw [decide_eq_true_iff]; exact pb
  rw [Zv.j0, if_neg pa, Zv.j1, if_neg hne, Zv.j2, Z8Q s0 l0 e0 _ g0.t Zo, Zc, Z8Q s1 l1 e1 _ g1.t Zo, Zc, Z7H _ _ _ _ _ _ _ (Z85 false w1 ok.2.1).t (Z85 false w0 ok.1).t Zo, Zc]
  split
  ·exact Z7M (k + 1) s0 s1 l0 l1 l1 e0 e1 e1 p w0 w1 w1 ok.1 ok.2.1 ok.2.1 Zo Zo Zo
  exact Z7M (k + 1) s0 s1 l0 l1 l0 e0 e1 e0 p w0 w1 w0 ok.1 ok.2.1 ok.1 Zo Zo Zo
 obtain ⟨D, d0, wA, wB, e⟩ := key
 rw [e]
 unfold Z8c
 split
 ·rename_i h
  refine .inr ⟨_, _, wA, wB, ⟨h.1, h.2, ?_⟩, rfl⟩
  rw [Z82, Z82]
  have := ok.2.2
  omega
 exact .inl ⟨3, .inr rfl, rfl⟩
theorem Z9U {s : Bool} {l : List Int} {e : Int} (f : Z19 (val l) e = true) (h : ¬ lsA KK (vl s l e).natAbs) : (toS s (val l) e).2 = true := by
 obtain ⟨x1, x2, x3⟩ := Z1q.1 f
 by_cases z : val l = 0
 ·unfold toS; rw [if_pos f, if_pos z]
 obtain ⟨hv, hm⟩ := Z9T h
 have hx := ZbO (vl s l e)
 have hfin := ZbV.2 hm
 have hft := Z60 hx hfin
 obtain ⟨y1, y2, y3⟩ := Z1q.1 hft
 have c1 : cf s (val l) e = cz (vl s l e) lowE := Z4E (by unfold lowE; omega) s l
 have c2 : cf (Z1x (nbZ (vl s l e))).1 (val (Z1x (nbZ (vl s l e))).2.1) (Z1x (nbZ (vl s l e))).2.2.1 = cz (vl s l e) lowE := by
  rw [Z4E (by unfold lowE; omega), Zb0 hx hfin, hv]
 have t := congrArg Prod.snd (ZaU hx hfin)
 replace t : (toS (Z1x (nbZ (vl s l e))).1 (val (Z1x (nbZ (vl s l e))).2.1) (Z1x (nbZ (vl s l e))).2.2.1).2 = true := t
 rw [← c1] at c2
 generalize (Z1x (nbZ (vl s l e))).1 = s' at *
 generalize val (Z1x (nbZ (vl s l e))).2.1 = n' at *
 generalize (Z1x (nbZ (vl s l e))).2.2.1 = e' at *
 rw [Z1y z] at c2
 by_cases z' : n' = 0
 ·rw [z', Z14] at c2
  have := congrArg (fun c => val c.2.1) c2
  replace this : val [] = val (ofN (od (val l))) := this
  rw [Z2f, Zy] at this
  exact absurd this.symm (Z3L z)
 rw [Z1y z'] at c2
 have a1 := congrArg (fun c => val c.2.1) c2
 have a2 := congrArg (fun c => c.2.2) c2
 replace a1 : val (ofN (od n')) = val (ofN (od (val l))) := a1
 replace a2 : e' + (tz n' : Int) = e + (tz (val l) : Int) := a2
 rw [Zy, Zy] at a1
 unfold toS at t ⊢
 rw [if_pos hft, if_neg z', a1, a2] at t
 rw [if_pos f, if_neg z]
 by_cases q : (bl (od (val l)) : Int) > 53 ∨ e + (tz (val l) : Int) + (bl (od (val l)) : Int) - 1 > 1023 ∨ e + (tz (val l) : Int) < -1074
 ·rw [if_pos q] at t; cases t
 rw [if_neg q]
theorem Z91 (k : Nat) (b : Bool) (A B : Bool × List Int × Int) (s0 s1 : Bool) (l0 l1 : List Int) (e0 e1 : Int) (wA : Wl A.2.1) (wB : Wl B.2.1) (w0 : Wl l0) (w1 : Wl l1) (ok : okI A.1 A.2.1 A.2.2 B.1 B.2.1 B.2.2) (hk : 300000000000000000 ≤ k)
  (hb : b = false → Z3N (vl A.1 A.2.1 A.2.2) (vl B.1 B.2.1 B.2.2)) :
  Zl.j2 (k + 1) 0 b s0 l0 e0 s1 l1 e1 A.1 A.2.1 A.2.2 B.1 B.2.1 B.2.2 (nbZ (vl A.1 A.2.1 A.2.2)) (Z1H (vl A.1 A.2.1 A.2.2)) = some true := by
 rw [Zl.j2]
 cases b
 rotate_left
 ·rfl
 rw [if_neg Zd, Z4v s0 l0 e0 k w0.ws w0.len Zo, Zc]
 by_cases f0 : Z19 (val l0) e0 = true
 rotate_left
 ·rw [if_neg f0]
 rw [if_pos f0, Z4v s1 l1 e1 k w1.ws w1.len Zo, Zc]
 by_cases f1 : Z19 (val l1) e1 = true
 rotate_left
 ·rw [if_neg f1]
 have g0 := Z1M w0.ws w0.len f0
 have g1 := Z1M w1.ws w1.len f1
 have gA := Z1M wA.ws wA.len ok.1
 have gB := Z1M wB.ws wB.len ok.2.1
 rw [if_pos f1, Z3k s1 s0 l1 l0 e1 e0 k g1.t g0 Zo, Zc]
 by_cases c1 : Z22 (vl s1 l1 e1) (vl s0 l0 e0) < 0
 ·rw [if_pos c1]
 rw [if_neg c1, Z3k _ s0 _ l0 _ e0 k gA.t g0 Zo, Zc]
 by_cases c2 : Z22 (vl A.1 A.2.1 A.2.2) (vl s0 l0 e0) > 0
 ·rw [if_pos c2]
 rw [if_neg c2, Z3k s1 _ l1 _ e1 _ k g1.t gB Zo, Zc]
 by_cases c3 : Z22 (vl s1 l1 e1) (vl B.1 B.2.1 B.2.2) > 0
 ·rw [if_pos c3]
 have o1 : vl s0 l0 e0 ≤ vl s1 l1 e1 := by
  by_cases q : vl s0 l0 e0 ≤ vl s1 l1 e1
  ·exact q
  exact absurd (by rw [ZaR Zo]; decide) c1
 have o2 : vl A.1 A.2.1 A.2.2 ≤ vl s0 l0 e0 := Classical.byContradiction fun q => c2 ((Z41 _ _).2 q)
 have o3 : vl s1 l1 e1 ≤ vl B.1 B.2.1 B.2.2 := Classical.byContradiction fun q => c3 ((Z41 _ _).2 q)
 have dd := hb rfl
 obtain ⟨p1, p2, p3⟩ := Z5L o2 Zo dd
 obtain ⟨q1, q2, q3⟩ := Z5L (Z := vl s1 l1 e1) Zo o3 dd
 have dw : Z3N (vl s0 l0 e0) (vl s1 l1 e1) := ⟨p1.trans q1.symm, p2.trans q2.symm⟩
 have okw : okI s0 l0 e0 s1 l1 e1 := ⟨f0, f1, o1⟩
 rw [if_neg c3, Z3O s0 s1 l0 l1 e0 e1 k w0 w1 hk, Zc, if_pos okw]
 unfold Z4Z
 rw [if_pos dw, if_pos rfl, if_pos rfl]
 have hfl : Z1H (vl s0 l0 e0) = Z1H (vl A.1 A.2.1 A.2.2) := by
  unfold Z1H
  rw [p3]
  by_cases c : tyA KK (vl A.1 A.2.1 A.2.2).natAbs
  ·rw [if_pos c, if_pos (p2.2 c)]
  rw [if_neg c, if_neg (fun q => c (p2.1 q))]
 show some (nbZ (vl s0 l0 e0) == nbZ (vl A.1 A.2.1 A.2.2) && (Z1H (vl s0 l0 e0) == Z1H (vl A.1 A.2.1 A.2.2))) = some true
 rw [p1, hfl, beq_self_eq_true, beq_self_eq_true]; rfl
theorem Z92 (k : Nat) (s0 s1 s2 s3 : Bool) (l0 l1 l2 l3 : List Int) (e0 e1 e2 e3 p : Int) (w0 : Wl l0) (w1 : Wl l1) (w2 : Wl l2) (w3 : Wl l3) (ok : okI s0 l0 e0 s1 l1 e1) (hk : 300000000000000000 ≤ k) :
  Zl.j1 (k + 6) p s0 l0 e0 s1 l1 e1 s2 l2 e2 s3 l3 e3 = some true := by
 rw [Zl.j1]
 rcases Zb1 k s0 s1 l0 l1 e0 e1 p w0 w1 hk ok with ⟨er, her, h⟩ | ⟨A, B, wA, wB, okw, h⟩
 ·rw [h, Zc]
  rcases her with rfl | rfl
  ·rw [if_neg Zd, if_pos rfl]
  rw [if_neg Zd, if_neg Zd]; rfl
 rw [h, Zc, if_pos rfl]
 show ((Zk.f (k + 5) A.1 A.2.1 A.2.2 B.1 B.2.1 B.2.2).bind _) = _
 rw [Z3O A.1 B.1 A.2.1 B.2.1 A.2.2 B.2.2 (k + 5) wA wB Zo, Zc, if_pos okw]
 unfold Z4Z
 by_cases c : Z3N (vl A.1 A.2.1 A.2.2) (vl B.1 B.2.1 B.2.2)
 ·rw [if_pos c, if_pos rfl]
  exact Z91 (k + 4) false A B s2 s3 l2 l3 e2 e3 wA wB w2 w3 okw Zo (fun _ => c)
 rw [if_neg c, if_pos rfl]
 rw [Zl.j2]; rfl
theorem RoundWithin (s0 : Bool) (l0 : List Int) (e0 : Int) (s1 : Bool) (l1 : List Int) (e1 : Int) (s2 : Bool) (l2 : List Int) (e2 : Int) (s3 : Bool) (l3 : List Int) (e3 : Int) (p : Int) (s4 : Bool) (l4 : List Int) (e4 : Int) (n0 : l0.length * 8 ≤ 140737488351232) (w0 : ∀ x ∈ l0, (Lit.int .u64 x).wf = true) (_ : (Lit.int .i64 e0).wf = true) (n1 : l1.length * 8 ≤ 140737488351232) (w1 : ∀ x ∈ l1, (Lit.int .u64 x).wf = true) (_ : (Lit.int .i64 e1).wf = true) (n2 : l2.length * 8 ≤ 140737488351232) (w2 : ∀ x ∈ l2, (Lit.int .u64 x).wf = true) (_ : (Lit.int .i64 e2).wf = true) (n3 : l3.length * 8 ≤ 140737488351232) (w3 : ∀ x ∈ l3, (Lit.int .u64 x).wf = true) (_ : (Lit.int .i64 e3).wf = true) (_ : (Lit.int .i64 p).wf = true) (n4 : l4.length * 8 ≤ 140737488351232) (w4 : ∀ x ∈ l4, (Lit.int .u64 x).wf = true) (_ : (Lit.int .i64 e4).wf = true) : ∃ k, Zl.f k s0 l0 e0 s1 l1 e1 s2 l2 e2 s3 l3 e3 p s4 l4 e4 = some true := by
 have g0 : Wl l0 := ⟨Z5d w0, by omega⟩
 have g1 : Wl l1 := ⟨Z5d w1, by omega⟩
 have g2 : Wl l2 := ⟨Z5d w2, by omega⟩
 have g3 : Wl l3 := ⟨Z5d w3, by omega⟩
 have g4 : Wl l4 := ⟨Z5d w4, by omega⟩
 obtain ⟨k, hk⟩ : ∃ k, k = 400000000000000000 := ⟨_, rfl⟩
 have hk0 : 400000000000000000 ≤ k := by omega
 clear hk
 refine ⟨k + 7, ?_⟩
 unfold Zl.f
 rw [Z9S (k + 7) Zo, Zc, if_pos rfl, Z3O s0 s1 l0 l1 e0 e1 (k + 7) g0 g1 Zo, Zc]
 by_cases ok : okI s0 l0 e0 s1 l1 e1
 rotate_left
 ·rw [if_neg ok, if_neg (show ¬ ((2 : Int) = 0) by decide)]; rfl
 rw [if_pos ok]
 have r0 := Z1M g0.ws g0.len ok.1
 have r1 := Z1M g1.ws g1.len ok.2.1
 have J1 := Z92 k s0 s1 s2 s3 l0 l1 l2 l3 e0 e1 e2 e3 p g0 g1 g2 g3 ok Zo
 have J0 : ∀ a b, Zl.j0 (k + 7) p false s0 l0 e0 s1 l1 e1 s2 l2 e2 s3 l3 e3 s4 l4 e4 a b = some true := by
  intro a b
  rw [Zl.j0, if_neg Zd]
  exact J1
 unfold Z4Z
 by_cases c : Z3N (vl s0 l0 e0) (vl s1 l1 e1)
 rotate_left
 ·rw [if_neg c, if_pos rfl, if_neg Zd]
  exact J0 _ _
 rw [if_pos c, if_pos rfl, if_pos rfl, Z4v s4 l4 e4 (k + 7) g4.ws g4.len Zo, Zc]
 by_cases f4 : Z19 (val l4) e4 = true
 rotate_left
 ·rw [if_neg f4]; exact J0 _ _
 have r4 := Z1M g4.ws g4.len f4
 rw [if_pos f4, Z3k s0 s4 l0 l4 e0 e4 (k + 7) r0.t r4 Zo, Zc]
 by_cases c1 : Z22 (vl s0 l0 e0) (vl s4 l4 e4) ≤ 0
 rotate_left
 ·rw [if_neg c1]; exact J0 _ _
 rw [if_pos c1, Z3k s4 s1 l4 l1 e4 e1 (k + 7) r4.t r1 Zo, Zc]
 by_cases c2 : Z22 (vl s4 l4 e4) (vl s1 l1 e1) ≤ 0
 rotate_left
 ·rw [decide_eq_false c2]; exact J0 _ _
 rw [decide_eq_true c2]
 obtain ⟨p1, p2, p3⟩ := Z5L ((Z7L _ _).1 c1) ((Z7L _ _).1 c2) c
 show Zl.j0 (k + 7) p true s0 l0 e0 s1 l1 e1 s2 l2 e2 s3 l3 e3 s4 l4 e4 (nbZ (vl s0 l0 e0)) (Z1H (vl s0 l0 e0)) = some true
 rw [Zl.j0, if_pos rfl, ZbL s4 l4 e4 (k + 6) g4 Zo, Zc, Z7K s4 l4 e4 (k + 6) g4 Zo, Zc]
 unfold Z6f
 rw [if_pos f4, if_pos rfl]
 by_cases own : (toS s4 (val l4) e4).2 = true
 ·rw [if_pos own, if_pos p1]; exact J1
 rw [if_neg own]
 have hls : lsA KK (vl s4 l4 e4).natAbs := Classical.byContradiction fun q => own (Z9U f4 q)
 have hfl : flA (vl s4 l4 e4).natAbs = Z1H (vl s0 l0 e0) := by
  rw [ZbT hls]
  unfold Z1H
  rw [p3]
  by_cases q : tyA KK (vl s0 l0 e0).natAbs
  ·rw [if_pos q, if_pos (p2.2 q)]
  rw [if_neg q, if_neg (fun q' => q (p2.1 q'))]
 have hne : (!(nbZ (vl s4 l4 e4) == nbZ (vl s0 l0 e0)) || (!(flA (vl s4 l4 e4).natAbs == Z1H (vl s0 l0 e0)))) = false := by
  rw [p1, hfl, beq_self_eq_true, beq_self_eq_true]; rfl
 show (if (!(nbZ (vl s4 l4 e4) == nbZ (vl s0 l0 e0)) || (!(flA (vl s4 l4 e4).natAbs == Z1H (vl s0 l0 e0)))) = true then _ else _) = _
 rw [hne, if_neg Zd]
 exact J1
end Go.Proofs.YtnjfckadjklmfaaDoor.Pure
