/- Plain part. -/
import Derived.Test.YtdbhednhhmbooaaXNatWayN1
import Derived.Test.YtdbhednhhmbooaaXNatWayP9
import Derived.Test.YtdbhednhhmbooaaXNatWayP10
import Derived.Test.YtdbhednhhmbooaaXNatWayN0
import Derived.Test.YtdbhednhhmbooaaXNatWayP8
import Derived.Test.YtdbhednhhmbooaaXNatWayP11
import Derived.Laws.StructEq
import Derived.Laws.Closers25b
namespace Go.Proofs.Ytdbhednhhmbooaa.Nf
open Go.RowKit Go.Proofs.Ytdbhednhhmbooaa.PAll Go.Proofs.YtdbhednhhmbooaaW.PrintWords Go.Proofs.YtdbhednhhmbooaaW.PrintLast Go.Proofs.YtdbhednhhmbooaaW.PrintMore Go.Proofs.Ytdbhednhhmbooaa.Nm
set_option linter.unusedVariables false
set_option linter.unusedSimpArgs false
theorem and1i {n : Nat} (hn : n < 9223372036854775808) : Go.bits .and .i64 (n : Int) 1 = ((n % 2 : Nat) : Int) := by
  have e : n &&& 1 = n % 2 := Nat.and_two_pow_sub_one_eq_mod n 1
  show IntKind.i64.wrap ((BitVec.ofInt 64 (n : Int) &&& BitVec.ofInt 64 ((1 : Nat) : Int)).toNat : Int) = _
  rw [BitVec.toNat_and, ofInt_u64 n (by omega), ofInt_u64 1 (by decide), e]
  have hb : n % 2 < 2 := Nat.mod_lt _ (by decide)
  obtain ⟨r, hr⟩ : ∃ r, r = n % 2 := ⟨_, rfl⟩
  rw [← hr] at hb ⊢
  rw [i64_w]
  exact wrapS (x := ((r : Nat) : Int)) (by omega) (by omega)
theorem ofN_one : ofN 1 = [1] := by
  rw [ofN_pos (by decide)]
  have : (1 : Nat) / 18446744073709551616 = 0 := by decide
  rw [this, ofN_zero]; rfl
theorem one_lt_big : 1 < big := (ofN_big 1).1 (by rw [ofN_one]; decide)
theorem len_mul {x y m n K : Nat} (hx : (ofN x).length ≤ m) (hy : (ofN y).length ≤ n) (hK : m + n = K) : (ofN (x * y)).length ≤ K := by
  subst hK
  rw [ofN_len] at hx hy ⊢
  rw [Nat.pow_add]; exact Nat.mul_lt_mul_of_lt_of_le hx (Nat.le_of_lt hy) (pow_pos n)
theorem mul_eq {x y m n : Nat} (k : Nat) (hx : (ofN x).length ≤ m) (hy : (ofN y).length ≤ n) (hm : m ≤ 4100) (hn : n ≤ 4100) (hk : m * (n + 2) + m + n + 10 < k) : nat_number_mul.f k (ofN x) (ofN y) = some (ofN (x * y)) := by
  have h1 : (ofN x).length * ((ofN y).length + 2) ≤ m * (n + 2) := Nat.mul_le_mul hx (by omega)
  have h := nmul_eq (ofN x) (ofN y) k (ws_ofN x) (ws_ofN y) (by omega) (by omega)
  rw [val_ofN, val_ofN] at h; exact h
theorem pow_half (b n : Nat) : b ^ n = (if n % 2 = 1 then b else 1) * (b * b) ^ (n / 2) := by
  have e : b * b = b ^ 2 := by rw [Nat.pow_succ, Nat.pow_one]
  rw [e, ← Nat.pow_mul]
  by_cases h : n % 2 = 1
  · rw [if_pos h, ← Nat.pow_succ']; congr 1; omega
  · rw [if_neg h, Nat.one_mul]; congr 1; omega
theorem pow_ge {b n : Nat} (hb : 1 ≤ b) (h : n ≠ 0) : b ≤ b ^ n := by
  obtain ⟨m, rfl⟩ : ∃ m, n = m + 1 := ⟨n - 1, by omega⟩
  rw [Nat.pow_succ]; exact Nat.le_mul_of_pos_left _ (Nat.pow_pos hb)
theorem pow_loop (n : Nat) : ∀ (k o b : Nat), n ≤ 65536 → 0 < o → o < big → 2 ≤ b → (ofN b).length ≤ 2048 → 3 * n + 3000000 < k → nat_Pow.l0 k (n : Int) (ofN o) (ofN b) = some (if o * b ^ n < big then (ofN (o * b ^ n), 0) else ([], 3)) := by
  induction n using Nat.strongRecOn with
  | _ n ih =>
    intro k o b hn ho hob hb hbl hk
    obtain ⟨k, rfl⟩ : ∃ m, k = m + 3 := ⟨k - 3, by omega⟩
    have hol := len_big hob
    rw [show k + 3 = (k + 2) + 1 from rfl]
    simp only [nat_Pow.l0]
    by_cases h0 : n = 0
    · subst h0
      rw [if_neg (by omega), answer_eq, bind_s, Nat.pow_zero, Nat.mul_one, if_pos hob]
    · rw [if_pos (by omega), and1i (by omega)]
      -- what the odd step leaves
      have step : ∀ o' : Nat, o' = o * (if n % 2 = 1 then b else 1) → nat_Pow.j1 (k + 2) (n : Int) (ofN o') (ofN b) = some (if o * b ^ n < big then (ofN (o * b ^ n), 0) else ([], 3)) := by
        intro o' e
        have tot : o * b ^ n = o' * (b * b) ^ (n / 2) := by rw [pow_half b n, e, Nat.mul_assoc]
        have hpos : 0 < (b * b) ^ (n / 2) := Nat.pow_pos (Nat.mul_pos (by omega) (by omega))
        have ho' : 0 < o' := by
          rw [e]; split
          · exact Nat.mul_pos ho (by omega)
          · omega
        have le1 : o' ≤ o * b ^ n := by rw [tot]; exact Nat.le_mul_of_pos_right _ hpos
        rw [show k + 2 = (k + 1) + 1 from rfl]
        simp only [nat_Pow.j1]
        rw [great_ofN, bind_s]
        by_cases h1 : o' < big
        · rw [if_neg (by simp [h1])]
          by_cases h2 : n = 1
          · subst h2
            rw [if_neg (by omega)]
            simp only [nat_Pow.j2]
            rw [if_neg (by decide), if_neg (by omega)]
            have e0 : ((1 : Nat) : Int) / 2 = ((0 : Nat) : Int) := by decide
            have t := ih 0 (by omega) k o' b (by omega) ho' h1 hb hbl (by omega)
            rw [e0, t, tot]
            simp
          · rw [if_pos (by omega), great_ofN, bind_s]
            simp only [nat_Pow.j2]
            by_cases h3 : b < big
            · rw [if_neg (by simp [h3]), if_pos (by omega)]
              have lb := len_big h3
              rw [mul_eq k lb lb (by omega) (by omega) (by omega), bind_s]
              have e2 : (n : Int) / 2 = ((n / 2 : Nat) : Int) := by omega
              have lb2 : (ofN (b * b)).length ≤ 2048 := len_mul lb lb (by omega)
              have hbb : 2 ≤ b * b := Nat.le_trans hb (Nat.le_mul_of_pos_left _ (by omega))
              rw [e2, ih (n / 2) (by omega) k o' (b * b) (by omega) ho' h1 hbb lb2 (by omega), tot]
            · rw [if_pos (by simp [h3])]
              have : b ≤ o * b ^ n := Nat.le_trans (pow_ge (by omega) h0) (Nat.le_mul_of_pos_left _ ho)
              rw [if_neg (by omega)]
        · rw [if_pos (by simp [h1])]
          simp only [nat_Pow.j2]
          rw [if_pos trivial, if_neg (by omega)]
      by_cases h1 : n % 2 = 1
      · rw [if_pos (by omega), mul_eq (k + 2) hol hbl (by omega) (by omega) (by omega), bind_s]
        exact step (o * b) (by rw [if_pos h1])
      · rw [if_neg (by omega)]
        exact step o (by rw [if_neg h1]; omega)
def powS (v : Nat) (n : Int) : List Int × Int := if v < big then (if n < 0 then ([], 2) else if v ^ n.toNat < big then (ofN (v ^ n.toNat), 0) else ([], 3)) else ([], 3)
theorem pow_big {v n : Nat} (hv : 2 ≤ v) (hn : 65536 < n) : ¬ v ^ n < big := by
  intro h
  have h1 := big_lt_iff.1 (Nat.lt_of_le_of_lt (Nat.pow_le_pow_left hv n) h)
  have h2 : bl (2 ^ n) = n + 1 := bl_unique (Nat.le_refl _) (by rw [Nat.pow_succ]; have : 0 < 2 ^ n := Nat.pow_pos (by decide); omega)
  omega
theorem Pow_eq (a : List Int) (n : Int) (k : Nat) (ha : Ws a) (hn : n < 9223372036854775808) (na : a.length < 17592186044000) (hk : a.length + 4000000 < k) : nat_Pow.f k a n = some (powS (val a) n) := by
  unfold nat_Pow.f powS
  rw [one_eq a k ha (by omega) (by omega), bind_s]
  by_cases h : val a < big
  · have hl := len_big h
    simp only [if_pos h]
    rw [if_pos trivial]
    by_cases h0 : n < 0
    · rw [if_pos h0, if_pos h0]
    · rw [if_neg h0, if_neg h0]
      obtain ⟨m, rfl⟩ : ∃ m : Nat, n = (m : Int) := ⟨n.toNat, by omega⟩
      have hm : m < 9223372036854775808 := by omega
      rw [Int.toNat_natCast]
      by_cases h1 : m = 0
      · subst h1
        rw [if_pos (by omega), Nat.pow_zero, if_pos one_lt_big]
        have t := nOf_eq 1 k (by decide) (by omega)
        have e1 : ((1 : Nat) : Int) = 1 := rfl
        rw [e1] at t
        rw [t, bind_s]
      · rw [if_neg (by omega), len_eq _ k hl (by omega), bind_s]
        by_cases h2 : bl (val a) ≤ 1
        · rw [if_pos (by omega)]
          have ho := own_eq (ofN (val a)) (by omega)
          rw [ho, bind_s]
          have hv : val a ≤ 1 := by have := bl_le_iff.1 h2; omega
          have hp : val a ^ m = val a := by
            have : val a = 0 ∨ val a = 1 := by omega
            rcases this with z | z
            · rw [z, Nat.zero_pow (by omega)]
            · rw [z, Nat.one_pow]
          rw [hp, if_pos h]
        · rw [if_neg (by omega)]
          have hv : 2 ≤ val a := by
            apply Classical.byContradiction; intro g
            exact h2 (bl_le_iff.2 (by omega))
          by_cases h3 : 65536 < m
          · rw [if_pos (by omega), if_neg (pow_big hv h3)]
          · have t := pow_loop m k 1 (val a) (by omega) (by decide) one_lt_big hv (by omega) (by omega)
            rw [ofN_one, Nat.one_mul] at t
            rw [if_neg (by omega), t]
  · simp only [if_neg h]
    rw [if_neg (by decide)]
end Go.Proofs.Ytdbhednhhmbooaa.Nf

namespace Go.Proofs.Ytdbhednhhmbooaa.Nf
open Go.RowKit Go.Proofs.Ytdbhednhhmbooaa.PAll Go.Proofs.YtdbhednhhmbooaaW.PrintWords
theorem lives_eq (k : Nat) (hk : 3000 ≤ k) : ulplaw03_lives.f k = some true :=
  at_rounds ulplaw03_lives.mono hk (by decide +kernel)
end Go.Proofs.Ytdbhednhhmbooaa.Nf

namespace Go.Proofs.Ytdbhednhhmbooaa.Pure
open Go.RowKit Go.Proofs.Ytdbhednhhmbooaa.PAll Go.Proofs.YtdbhednhhmbooaaW.PrintWords Go.Proofs.YtdbhednhhmbooaaW.PrintLast Go.Proofs.YtdbhednhhmbooaaW.PrintMore
set_option linter.unusedVariables false
set_option linter.unusedSimpArgs false
open Go.Proofs.Ytdbhednhhmbooaa.Nm Go.Proofs.Ytdbhednhhmbooaa.Nf
theorem ofN_two : ofN 2 = [2] := by
  rw [ofN_pos (by decide)]
  have : (2 : Nat) / 18446744073709551616 = 0 := by decide
  rw [this, ofN_zero]; rfl
theorem way_j3 (k : Nat) (a : List Int) (n : Nat) (ha : Ws a) (na : a.length < 17592186044000) (h : val a < big) (hs : val a * 2 ^ n < big) (hk : a.length + 3000000 < k) :
    ulplaw03_NatWay.j3 (k + 1) a (ofN (val a * 2 ^ n)) (powS 2 n).1 (powS 2 n).2 false = some true := by
  simp only [ulplaw03_NatWay.j3]
  rw [if_neg (by decide)]
  have h2 : (2 : Nat) < big := (ofN_big 2).1 (by rw [ofN_two]; decide)
  have n0 : ¬ ((n : Nat) : Int) < 0 := by omega
  by_cases hp : 2 ^ n < big
  · have e : powS 2 n = (ofN (2 ^ n), 0) := by
      unfold powS
      rw [if_pos h2, if_neg n0, Int.toNat_natCast, if_pos hp]
    have lp := len_big hp
    have m := Mul_eq a (ofN (2 ^ n)) k ha (ws_ofN _) (by omega) (by omega) (by omega)
    have e2 : proS (val a) (val (ofN (2 ^ n))) = (ofN (val a * 2 ^ n), 0) := by
      unfold proS
      rw [val_ofN, if_pos ⟨h, hp⟩, if_pos hs]
    have ls := len_big hs
    rw [e]
    (try simp only [])
    rw [if_pos trivial, m, e2, bind_s]
    (try simp only [])
    rw [if_pos trivial, same_eq _ k (by omega) (by omega), bind_s]
  · have e : powS 2 n = ([], 3) := by
      unfold powS
      rw [if_pos h2, if_neg n0, Int.toNat_natCast, if_neg hp]
    rw [e]
    (try simp only [])
    rw [if_neg (by decide)]; rfl
theorem way_j1 (k : Nat) (a : List Int) (n : Int) (ha : Ws a) (hn : n < 9223372036854775808) (na : a.length < 17592186044000) (hk : 4 * a.length + 5000000 < k) :
    ulplaw03_NatWay.j1 (k + 3) a n (if val a < big then (ofN (val a), (0 : Int)) else ([], 3)).1 = some true := by
  rw [show k + 3 = (k + 2) + 1 from rfl]
  simp only [ulplaw03_NatWay.j1]
  rw [Shl_eq a n (k + 2) ha (by omega) (by omega), bind_s]
  rw [show k + 2 = (k + 1) + 1 from rfl]
  by_cases h : val a < big
  · by_cases n0 : n < 0
    · have e : shlS (val a) n = ([], 2) := by unfold shlS; rw [if_pos h, if_pos n0]
      rw [e]; simp only []
      rw [if_neg (by decide)]
      simp only [ulplaw03_NatWay.j2]
      rw [if_pos trivial, if_neg (by decide)]; rfl
    · obtain ⟨m, rfl⟩ : ∃ m : Nat, n = (m : Int) := ⟨n.toNat, by omega⟩
      -- what a shift to the left answers
      have cases_ : shlS (val a) (m : Int) = (ofN (val a * 2 ^ m), 0) ∧ val a * 2 ^ m < big ∨ shlS (val a) (m : Int) = ([], 3) := by
        unfold shlS
        rw [if_pos h, if_neg n0, Int.toNat_natCast]
        by_cases z : val a = 0
        · rw [if_pos z]; left
          refine ⟨?_, ?_⟩
          · rw [z, Nat.zero_mul, ofN_zero]
          · rw [z, Nat.zero_mul]; rw [z] at h; exact h
        · rw [if_neg z]
          by_cases b : bl (val a) + m ≤ 65536
          · rw [if_pos b]; left; exact ⟨rfl, (shl_big z).2 b⟩
          · rw [if_neg b]; right; rfl
      rcases cases_ with ⟨e, hs⟩ | e
      · rw [e]; simp only [if_pos h]
        rw [if_pos trivial]
        simp only [ulplaw03_NatWay.j2]
        by_cases big_n : (m : Int) > 70000
        · rw [decide_eq_true big_n, if_pos rfl, if_pos trivial]
        · rw [decide_eq_false big_n, if_neg (by decide)]
          have ls := len_big hs
          rw [Shr_eq (ofN (val a * 2 ^ m)) (m : Int) (k + 1) (ws_ofN _) hn (by omega) (by omega), bind_s]
          have p := Pow_eq [2] (m : Int) (k + 1) (ws_cons.2 ⟨by omega, ws_nil⟩) hn (by decide) (by simp; omega)
          have v2 : val [2] = 2 := rfl
          rw [v2] at p
          have e1 : shrS (val (ofN (val a * 2 ^ m))) (m : Int) = (ofN (val a), false, 0) := by
            unfold shrS
            have hp : 0 < 2 ^ m := Nat.pow_pos (by decide)
            rw [val_ofN, if_pos hs, if_neg n0, Int.toNat_natCast, Nat.mul_div_cancel _ hp, Nat.mul_mod_left]; rfl
          rw [p, bind_s, e1]; simp only []
          rw [if_pos trivial, if_neg (by decide)]
          have la := len_big h
          rw [same_eq _ (k + 1) (by omega) (by omega), bind_s]
          exact way_j3 k a m ha na h hs (by omega)
      · rw [e]; simp only []
        rw [if_neg (by decide)]
        simp only [ulplaw03_NatWay.j2]
        rw [if_pos trivial, if_neg (by decide)]; rfl
  · have e : shlS (val a) n = ([], 3) := by unfold shlS; rw [if_neg h]
    rw [e]; simp only []
    rw [if_neg (by decide)]
    simp only [ulplaw03_NatWay.j2]
    rw [if_pos trivial, if_neg (by decide)]; rfl
theorem way_j0 (k : Nat) (a b : List Int) (n : Int) (ha : Ws a) (hb : Ws b) (hn : n < 9223372036854775808) (na : a.length < 17592186044000) (nb : b.length < 17592186044000) (hk : 4 * (a.length + b.length) + 6000000 < k) :
    ulplaw03_NatWay.j0 (k + 4) a b n (if val a < big then (ofN (val a), (0 : Int)) else ([], 3)).1 false = some true := by
  rw [show k + 4 = (k + 3) + 1 from rfl]
  simp only [ulplaw03_NatWay.j0]
  rw [if_neg (by decide), Div_eq a b (k + 3) ha hb (by omega) (by omega) (by omega), bind_s]
  by_cases h : val a < big ∧ val b < big
  · obtain ⟨h1, h2⟩ := h
    by_cases z : val b = 0
    · have e : quoS (val a) (val b) = ([], [], 30) := by unfold quoS; rw [if_pos ⟨h1, h2⟩, if_pos z]
      rw [e]; simp only []
      rw [if_neg (by decide)]
      exact way_j1 k a n ha hn na (by omega)
    · have e : quoS (val a) (val b) = (ofN (val a / val b), ofN (val a % val b), 0) := by unfold quoS; rw [if_pos ⟨h1, h2⟩, if_neg z]
      have q1 : val a / val b < big := Nat.lt_of_le_of_lt (Nat.div_le_self _ _) h1
      have q2 : val a % val b < big := Nat.lt_of_le_of_lt (Nat.mod_le _ _) h1
      have q3 : val a / val b * val b < big := Nat.lt_of_le_of_lt (Nat.div_mul_le_self _ _) h1
      have l1 := len_big q1
      have l2 := len_big q2
      have l3 := len_big q3
      have l4 := len_big h1
      have m := Mul_eq (ofN (val a / val b)) b (k + 3) (ws_ofN _) hb (by omega) (by omega) (by omega)
      have e2 : proS (val (ofN (val a / val b))) (val b) = (ofN (val a / val b * val b), 0) := by
        unfold proS
        rw [val_ofN, if_pos ⟨q1, h2⟩, if_pos q3]
      have s := Add_eq (ofN (val a / val b * val b)) (ofN (val a % val b)) (k + 3) (ws_ofN _) (ws_ofN _) (by omega) (by omega) (by omega)
      have tot : val a / val b * val b + val a % val b = val a := by rw [Nat.mul_comm]; exact Nat.div_add_mod _ _
      rw [val_ofN, val_ofN, tot, if_pos ⟨q3, q2⟩, if_pos h1] at s
      have c := Cmp_eq (ofN (val a % val b)) b (k + 3) (ws_ofN _) hb (by omega) (by omega) (by omega)
      rw [val_ofN, if_pos ⟨q2, h2⟩] at c
      have lt : val a % val b < val b := Nat.mod_lt _ (by omega)
      have ci : cmpI (val a % val b) (val b) = -1 := by unfold cmpI; rw [if_pos lt]
      rw [e]; simp only [if_pos h1]
      rw [if_pos trivial, m, e2, bind_s, s, bind_s, c, bind_s]
      (try simp only [])
      rw [if_pos trivial, if_pos trivial, same_eq _ (k + 3) (by omega) (by omega), bind_s, if_pos rfl, if_pos trivial, ci, if_neg (by decide)]
      have t := way_j1 k a n ha hn na (by omega)
      rw [if_pos h1] at t; exact t
  · have e : quoS (val a) (val b) = ([], [], 3) := by unfold quoS; rw [if_neg h]
    rw [e]; simp only []
    rw [if_neg (by decide)]
    exact way_j1 k a n ha hn na (by omega)
theorem NatWay : ulplaw03_NatWay.Pure := by
  intro a b n _ na wa _ nb wb wn
  have ha := ws_wf wa
  have hb := ws_wf wb
  obtain ⟨n0, n1⟩ := i64_wf wn
  refine ⟨4 * (a.length + b.length) + 7000000 + 4, ?_⟩
  obtain ⟨k, hk⟩ : ∃ k, k = 4 * (a.length + b.length) + 7000000 := ⟨_, rfl⟩
  rw [← hk]
  unfold ulplaw03_NatWay.f
  have go := way_j0 k a b n ha hb n1 (by omega) (by omega) (by omega)
  rw [lives_eq _ (by omega), bind_s, if_pos rfl, Add_eq a b _ ha hb (by omega) (by omega) (by omega), bind_s]
  have nn := Norm_eq a (k + 4) ha (by omega) (by omega)
  by_cases h : val a < big ∧ val b < big
  · obtain ⟨h1, h2⟩ := h
    rw [if_pos ⟨h1, h2⟩]
    have l4 := len_big h1
    by_cases h3 : val a + val b < big
    · rw [if_pos h3]
      have l3 := len_big h3
      have s := Sub_eq (ofN (val a + val b)) b (k + 4) (ws_ofN _) hb (by omega) (by omega) (by omega)
      rw [val_ofN, if_pos ⟨h3, h2⟩, if_neg (by omega), Nat.add_sub_cancel] at s
      (try simp only [])
      rw [s, bind_s, nn, bind_s]
      rw [if_pos h1] at go
      simp only [if_pos h1]
      rw [if_pos trivial, if_pos trivial, same_eq _ (k + 4) (by omega) (by omega), bind_s]
      exact go
    · rw [if_neg h3]
      have s := Sub_eq ([] : List Int) b (k + 4) ws_nil hb (by decide) (by omega) (by simp; omega)
      (try simp only [])
      rw [s, bind_s, nn, bind_s]
      (try simp only [])
      rw [if_neg (by decide)]
      exact go
  · rw [if_neg h]
    have s := Sub_eq ([] : List Int) b (k + 4) ws_nil hb (by decide) (by omega) (by simp; omega)
    (try simp only [])
    rw [s, bind_s, nn, bind_s]
    (try simp only [])
    rw [if_neg (by decide)]
    exact go
end Go.Proofs.Ytdbhednhhmbooaa.Pure
