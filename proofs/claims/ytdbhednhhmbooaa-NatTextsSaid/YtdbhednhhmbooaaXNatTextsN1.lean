/- Plain part. -/
import Derived.Test.YtdbhednhhmbooaaXNatTextsN0
import Derived.Test.YtdbhednhhmbooaaXNatTextsP4
import Derived.Test.YtdbhednhhmbooaaXNatTextsP0
import Derived.Test.YtdbhednhhmbooaaXNatTextsP2
import Derived.Test.YtdbhednhhmbooaaXNatTextsP1
import Derived.Test.YtdbhednhhmbooaaXNatTextsP9
import Derived.Test.YtdbhednhhmbooaaXNatTextsP3
import Derived.Test.YtdbhednhhmbooaaXNatTextsP5
import Derived.Laws.Closers25b
import Derived.Test.YtdbhednhhmbooaaXNatTextsP8
import Derived.Laws.StructEq
namespace Go.Proofs.Ytdbhednhhmbooaa.Nf
open Go.RowKit Go.Proofs.Ytdbhednhhmbooaa.PAll Go.Proofs.YtdbhednhhmbooaaW.PrintWords Go.Proofs.YtdbhednhhmbooaaW.PrintLast Go.Proofs.YtdbhednhhmbooaaW.PrintMore Go.Proofs.Ytdbhednhhmbooaa.Nm
set_option linter.unusedVariables false
set_option linter.unusedSimpArgs false
theorem wrapM (a b : Nat) : IntKind.u64.wrap ((a : Int) + (b : Int)) = (((a + b) % 18446744073709551616 : Nat) : Int) := by rw [IntKind.wrap_u64]; omega
theorem mac_lin {o c p h l : Nat} (e : p = h * 18446744073709551616 + l) (hl : l < 18446744073709551616) : ((l + o) % 18446744073709551616 + c) % 18446744073709551616 = (o + c + p) % 18446744073709551616 ∧ h + (l + o) / 18446744073709551616 + ((l + o) % 18446744073709551616 + c) / 18446744073709551616 = (o + c + p) / 18446744073709551616 := by
  subst e; constructor <;> omega
theorem mac_eq {o c p : Nat} (h : (o + c + p) / 18446744073709551616 < 18446744073709551616) :
    add64s (add64s ((p % 18446744073709551616 : Nat) : Int) (o : Int) 0) (c : Int) 0 = (((o + c + p) % 18446744073709551616 : Nat) : Int) ∧
    IntKind.u64.wrap ((IntKind.u64.wrap (((p / 18446744073709551616 : Nat) : Int) + add64c ((p % 18446744073709551616 : Nat) : Int) (o : Int) 0)) + add64c (add64s ((p % 18446744073709551616 : Nat) : Int) (o : Int) 0) (c : Int) 0) = (((o + c + p) / 18446744073709551616 : Nat) : Int) := by
  obtain ⟨m1, m2⟩ := mac_lin (o := o) (c := c) (p := p) (h := p / 18446744073709551616) (l := p % 18446744073709551616) (by omega) (Nat.mod_lt _ (by decide))
  rw [a64s, a64c, a64s, a64c]
  simp only [Int.toNat_natCast, Int.toNat_zero, Nat.add_zero]
  rw [m1]
  refine ⟨rfl, ?_⟩
  rw [wrapN2 (by omega), wrapN2 (by omega), m2]
theorem mac_ref {o c p h l : Nat} (e : p = h * 18446744073709551616 + l) (hl : l < 18446744073709551616) (ho : o < 18446744073709551616) (hc : c < 18446744073709551616) :
    ((o + l) % 18446744073709551616 + c) % 18446744073709551616 = (o + c + p) % 18446744073709551616 ∧ h + (if (o + l) % 18446744073709551616 < l then 1 else 0) + (if ((o + l) % 18446744073709551616 + c) % 18446744073709551616 < c then 1 else 0) = (o + c + p) / 18446744073709551616 := by
  subst e
  constructor
  · omega
  · split <;> split <;> omega
theorem row_step (b : List Int) (i j x : Nat) : 18446744073709551616 ^ i * (x * val (b.take (j + 1))) = 18446744073709551616 ^ i * (x * val (b.take j)) + 18446744073709551616 ^ (i + j) * (x * (b.getD j 0).toNat) := by
  rw [take_succ_getD b, Nat.mul_add, Nat.mul_add, Nat.pow_add, Nat.mul_left_comm x, ← Nat.mul_assoc (18446744073709551616 ^ i) (18446744073709551616 ^ j)]
theorem col_step (a b : List Int) (i : Nat) : val (a.take (i + 1)) * val b = val (a.take i) * val b + 18446744073709551616 ^ i * ((a.getD i 0).toNat * val b) := by
  rw [take_succ_getD a, Nat.add_mul, Nat.mul_assoc]
theorem rmul_inner (a b : List Int) (hb : Ws b) (i x L F V0 : Nat) (R : Option (List Int)) (hx : x < 18446744073709551616) (hL : i + b.length + 1 ≤ L) (hL2 : L < 70368744177664)
    (next : ∀ (k : Nat) (o : List Int), F < k → o.length = L → Ws o → val (o.take (i + b.length + 1)) = V0 + 18446744073709551616 ^ i * (x * val b) → (∀ m, i + b.length + 1 ≤ m → o.getD m 0 = 0) → ulpref03_Mul.l0 k b o a a.length ((i + 1 : Nat) : Int) = R) (s : Nat) :
    ∀ (j k : Nat) (o : List Int) (c : Nat), b.length - j = s → j ≤ b.length → F + s + 1 < k → o.length = L → Ws o → c < 18446744073709551616 → (∀ m, i + b.length ≤ m → o.getD m 0 = 0) →
    val (o.take (i + b.length)) + 18446744073709551616 ^ (i + j) * c = V0 + 18446744073709551616 ^ i * (x * val (b.take j)) →
    ulpref03_Mul.l1 k b o i x c a a.length i b b.length j = R := by
  induction s with
  | zero =>
    intro j k o c hs hj hk ho hw hc hz hv
    obtain ⟨k, rfl⟩ : ∃ m, k = m + 1 := ⟨k - 1, by omega⟩
    obtain rfl : j = b.length := by omega
    have g0 : ¬ ((b.length : Int) < (b.length : Int)) := by omega
    have b1 : i + b.length < 4611686018427387904 := by omega
    have b2 : i < 4611686018427387904 := by omega
    have g2 : ((i + b.length : Nat) : Int) < (o.length : Int) := by omega
    have i1 : i + b.length < o.length := by omega
    have i2 : F < k := by omega
    have hz' : ∀ m, i + b.length + 1 ≤ m → i + b.length ≤ m ∧ i + b.length ≠ m := fun m h => by omega
    have ww : wrap64 ((i : Int) + (b.length : Int)) = ((i + b.length : Nat) : Int) := by rw [wrapS (by omega) (by omega)]; omega
    simp only [ulpref03_Mul.l1]
    rw [if_neg g0, ww, if_pos (Int.natCast_nonneg _), if_pos g2, wrap_succ b2, Int.toNat_natCast]
    refine next k _ i2 (by rw [List.length_set]; exact ho) (ws_set hw _ (Int.natCast_nonneg _) (Int.ofNat_lt.2 hc)) ?_ ?_
    · rw [val_set_take o _ _ i1, Int.toNat_natCast, hv, val_take_ge _ _ (Nat.le_refl _)]
    · intro m hm
      obtain ⟨h1, h2⟩ := hz' m hm
      rw [Nm.getD_set_ne _ _ _ _ h2]; exact hz m h1
  | succ s ih =>
    intro j k o c hs hj hk ho hw hc hz hv
    obtain ⟨k, rfl⟩ : ∃ m, k = m + 1 := ⟨k - 1, by omega⟩
    have i1 : b.length - (j + 1) = s := by omega
    have i2 : j + 1 ≤ b.length := by omega
    have i3 : F + s + 1 < k := by omega
    have i4 : i + j < i + b.length := by omega
    have i5 : i + b.length ≤ o.length := by omega
    have g1 : (j : Int) < (b.length : Int) := by omega
    have g2 : ((i + j : Nat) : Int) < (o.length : Int) := by omega
    have b3 : j < 4611686018427387904 := by omega
    have hz' : ∀ m, i + b.length ≤ m → i + j ≠ m := fun m h => by omega
    have ww : wrap64 ((i : Int) + (j : Int)) = ((i + j : Nat) : Int) := by rw [wrapS (by omega) (by omega)]; omega
    obtain ⟨p0, p1⟩ := ws_get hb j
    obtain ⟨q0, q1⟩ := ws_get hw (i + j)
    have ey := asNat p0
    have eo := asNat q0
    have rs := row_step b i j x
    have vs := fun n : Nat => val_set o (i + j) (i + b.length) (n : Int) i4 i5
    generalize hyn : (b.getD j 0).toNat = y at *
    generalize hon : (o.getD (i + j) 0).toNat = u at *
    have y1 : y < 18446744073709551616 := Int.ofNat_lt.1 (ey ▸ p1)
    have u1 : u < 18446744073709551616 := Int.ofNat_lt.1 (eo ▸ q1)
    have hd := mul_bound u1 hc hx y1
    obtain ⟨m1, m2⟩ := mac_eq (o := u) (c := c) (p := x * y) hd
    have hn : (u + c + x * y) % 18446744073709551616 < 18446744073709551616 := Nat.mod_lt _ (by decide)
    have hdm := Nat.mod_add_div (u + c + x * y) 18446744073709551616
    have hl : x * y % 18446744073709551616 < 18446744073709551616 := Nat.mod_lt _ (by decide)
    obtain ⟨r1, r2⟩ := mac_ref (o := u) (c := c) (p := x * y) (h := x * y / 18446744073709551616) (l := x * y % 18446744073709551616) (by omega) hl u1 hc
    have key : ∀ d : Nat, d = (u + c + x * y) / 18446744073709551616 → ulpref03_Mul.l1 k b (o.set (i + j) (((u + c + x * y) % 18446744073709551616 : Nat) : Int)) i x (d : Int) a a.length i b b.length ((j + 1 : Nat) : Int) = R := by
      intro d hd2
      subst hd2
      refine ih (j + 1) k _ _ i1 i2 i3 (by rw [List.length_set]; exact ho) (ws_set hw _ (Int.natCast_nonneg _) (Int.ofNat_lt.2 hn)) hd ?_ ?_
      · intro m hm
        rw [Nm.getD_set_ne _ _ _ _ (hz' m hm)]; exact hz m hm
      · have vs' := vs ((u + c + x * y) % 18446744073709551616)
        rw [Int.toNat_natCast] at vs'
        rw [rs]
        exact mul_round vs' hdm hv
    simp only [ulpref03_Mul.l1]
    rw [if_pos g1, if_pos (Int.natCast_nonneg _), if_pos g1, rd_nat, ey, times_eq x y hx y1, bind_s, ww, if_pos (Int.natCast_nonneg _), if_pos g2, rd_nat, eo, wrap_succ b3, Int.toNat_natCast]
    dsimp only
    rw [wrapM, wrapM, r1]
    rw [r1] at r2
    clear m1 m2 rs vs hv hdm ih next hz
    generalize (u + c + x * y) / 18446744073709551616 = D at *
    generalize (u + c + x * y) % 18446744073709551616 = T at *
    generalize x * y / 18446744073709551616 = H at *
    generalize x * y % 18446744073709551616 = l at *
    generalize (u + l) % 18446744073709551616 = S at *
    have w1 : H + 1 ≤ D → IntKind.u64.wrap ((H : Int) + 1) = ((H + 1 : Nat) : Int) := fun h => wrapN2 (b := 1) (by omega)
    have w2 : H + 2 ≤ D → IntKind.u64.wrap (((H + 1 : Nat) : Int) + 1) = ((H + 2 : Nat) : Int) := fun h => wrapN2 (a := H + 1) (b := 1) (by omega)
    by_cases h1 : S < l
    · rw [if_pos h1] at r2
      rw [if_pos (Int.ofNat_lt.2 h1)]
      by_cases h2 : T < c
      · rw [if_pos h2] at r2
        rw [if_pos (Int.ofNat_lt.2 h2), w1 (by omega), w2 (by omega)]
        exact key _ r2
      · rw [if_neg h2] at r2
        rw [if_neg (fun h => h2 (Int.ofNat_lt.1 h)), w1 (by omega)]
        exact key _ r2
    · rw [if_neg h1] at r2
      rw [if_neg (fun h => h1 (Int.ofNat_lt.1 h))]
      by_cases h2 : T < c
      · rw [if_pos h2] at r2
        rw [if_pos (Int.ofNat_lt.2 h2), w1 (by omega)]
        exact key _ r2
      · rw [if_neg h2] at r2
        rw [if_neg (fun h => h2 (Int.ofNat_lt.1 h))]
        exact key _ r2
theorem rmul_outer (a b : List Int) (ha : Ws a) (hb : Ws b) (L : Nat) (hL : a.length + b.length + 1 = L) (hL2 : L < 17592186044000) (s : Nat) : ∀ (i k : Nat) (o : List Int), a.length - i = s → i ≤ a.length → s * (b.length + 2) + L + 10 < k → o.length = L → Ws o → (∀ m, i + b.length ≤ m → o.getD m 0 = 0) →
    val (o.take (i + b.length)) = val (a.take i) * val b → ulpref03_Mul.l0 k b o a a.length i = some (ofN (val a * val b)) := by
  induction s with
  | zero =>
    intro i k o hs hi hk ho hw hz hv
    obtain ⟨k, rfl⟩ : ∃ m, k = m + 1 := ⟨k - 1, by omega⟩
    obtain rfl : i = a.length := by omega
    have g0 : ¬ ((a.length : Int) < (a.length : Int)) := by omega
    simp only [ulpref03_Mul.l0]
    rw [if_neg g0, rnorm_eq o k hw (by omega) (by omega), bind_s]
    have hlast := val_take_succ o (a.length + b.length) (by omega)
    rw [hz _ (Nat.le_refl _), val_take_ge o _ (by omega)] at hlast
    simp only [Int.toNat_zero, Nat.mul_zero, Nat.add_zero] at hlast
    rw [← hlast, val_take_ge a _ (Nat.le_refl _)] at hv
    rw [hv]
  | succ s ih =>
    intro i k o hs hi hk ho hw hz hv
    rw [Nat.succ_mul] at hk
    obtain ⟨k, rfl⟩ : ∃ m, k = m + 1 := ⟨k - 1, by omega⟩
    have i1 : a.length - (i + 1) = s := by omega
    have i2 : i + 1 ≤ a.length := by omega
    have g1 : (i : Int) < (a.length : Int) := by omega
    have hl : i + b.length + 1 ≤ L := by omega
    have hL3 : L < 70368744177664 := by omega
    have hF : (s * (b.length + 2) + L + 10) + b.length + 1 < k := by omega
    have e1 : i + 1 + b.length = i + b.length + 1 := by omega
    obtain ⟨p0, p1⟩ := ws_get ha i
    have ex := asNat p0
    have cs := col_step a b i
    generalize hxn : (a.getD i 0).toNat = x at *
    have x1 : x < 18446744073709551616 := Int.ofNat_lt.1 (ex ▸ p1)
    simp only [ulpref03_Mul.l0]
    rw [if_pos g1, if_pos (Int.natCast_nonneg _), if_pos g1, rd_nat, ex]
    refine rmul_inner a b hb i x L (s * (b.length + 2) + L + 10) (val (a.take i) * val b) _ x1 hl hL3 ?_ b.length 0 k o 0 rfl (Nat.zero_le _) hF ho hw (by decide) hz (by rw [hv]; simp [val])
    intro k' o' hk' ho' hw' hv' hz'
    refine ih (i + 1) k' o' i1 i2 hk' ho' hw' (by rw [e1]; exact hz') ?_
    rw [e1, hv', cs]
theorem rmul_core (A B : List Int) (k : Nat) (wa : Ws A) (wb : Ws B) (hL : A.length + B.length < 17592186043000) (hk : A.length * (B.length + 2) + (A.length + B.length + 1) + 10 < k) :
    (if 0 ≤ (wrap64 ((wrap64 ((A.length : Int) + (B.length : Int))) + 1)) then (if (wrap64 ((wrap64 ((A.length : Int) + (B.length : Int))) + 1) : Int).toNat ≤ 35184372088832 then (ulpref03_Mul.l0 k B (List.replicate (wrap64 ((wrap64 ((A.length : Int) + (B.length : Int))) + 1) : Int).toNat 0) A (A.length : Int) 0) else (none)) else (none)) = some (ofN (val A * val B)) := by
  have c1 : A.length + B.length + 1 ≤ 35184372088832 := by omega
  have c2 : A.length + B.length + 1 < 17592186044000 := by omega
  have b1 : A.length + B.length < 4611686018427387904 := by omega
  have := rmul_outer A B wa wb _ rfl c2 A.length 0 k (List.replicate (A.length + B.length + 1) 0) rfl (Nat.zero_le _) hk (by simp) (ws_replicate _) (fun m _ => getD_rep _ _) (by rw [List.take_zero, List.take_replicate, val_replicate]; simp [val])
  have e0 : wrap64 ((A.length : Int) + (B.length : Int)) = ((A.length + B.length : Nat) : Int) := by rw [wrapS (by omega) (by omega)]; omega
  rw [e0, wrap_succ b1, if_pos (Int.natCast_nonneg _), Int.toNat_natCast, if_pos c1]
  exact this
theorem rmul_eq (a b : List Int) (k : Nat) (ha : Ws a) (hb : Ws b) (na : a.length < 17592186044000) (nb : b.length < 17592186044000) (hL : (ofN (val a)).length + (ofN (val b)).length < 17592186043000) (hk : (ofN (val a)).length * ((ofN (val b)).length + 2) + ((ofN (val a)).length + (ofN (val b)).length + 1) + 10 < k) (hk1 : a.length < k) (hk2 : b.length < k) : ulpref03_Mul.f k a b = some (ofN (val a * val b)) := by
  unfold ulpref03_Mul.f
  have := rmul_core (ofN (val a)) (ofN (val b)) k (ws_ofN _) (ws_ofN _) hL hk
  rw [val_ofN, val_ofN] at this
  rw [rnorm_eq a k ha (by omega) hk1, bind_s, rnorm_eq b k hb (by omega) hk2, bind_s]
  exact this
end Go.Proofs.Ytdbhednhhmbooaa.Nf

namespace Go.Proofs.Ytdbhednhhmbooaa.Nf
open Go.RowKit Go.Proofs.Ytdbhednhhmbooaa.PAll Go.Proofs.YtdbhednhhmbooaaW.PrintWords Go.Proofs.YtdbhednhhmbooaaW.PrintLast Go.Proofs.YtdbhednhhmbooaaW.PrintMore Go.Proofs.Ytdbhednhhmbooaa.Nm
set_option linter.unusedVariables false
set_option linter.unusedSimpArgs false
theorem getD_mid (P T : List Int) (x : Int) : (P ++ x :: T).getD P.length 0 = x := by
  rw [List.getD_eq_getElem?_getD]; simp
theorem set_mid (P T : List Int) (x y : Int) : (P ++ x :: T).set P.length y = P ++ y :: T := by simp
/-- Two words of a list, changed for each other. -/
theorem swap_eq (P M S : List Int) (a b : Int) (j : Nat) (hj : j = P.length + (M.length + 1)) :
    ((P ++ (a :: M ++ [b]) ++ S).set P.length ((P ++ (a :: M ++ [b]) ++ S).getD j 0)).set j ((P ++ (a :: M ++ [b]) ++ S).getD P.length 0) = (P ++ [b]) ++ M ++ (a :: S) := by
  subst hj
  have e1 : P ++ (a :: M ++ [b]) ++ S = P ++ a :: (M ++ b :: S) := by simp
  have e2 : P ++ a :: (M ++ b :: S) = (P ++ a :: M) ++ b :: S := by simp
  have l2 : (P ++ a :: M).length = P.length + (M.length + 1) := by simp
  have g2 : (P ++ a :: (M ++ b :: S)).getD (P.length + (M.length + 1)) 0 = b := by
    rw [e2, ← l2, getD_mid]
  rw [e1, g2, getD_mid, set_mid]
  have e3 : P ++ b :: (M ++ b :: S) = (P ++ b :: M) ++ b :: S := by simp
  have l3 : (P ++ b :: M).length = P.length + (M.length + 1) := by simp
  rw [e3, ← l3, set_mid]
  simp
theorem ends_of {M : List Int} (h : 2 ≤ M.length) : ∃ a N b, M = a :: N ++ [b] := by
  cases M with
  | nil => simp at h
  | cons a T =>
    have hT : T ≠ [] := by rintro rfl; simp at h
    exact ⟨a, T.dropLast, T.getLast hT, by rw [List.cons_append, List.dropLast_concat_getLast hT]⟩
theorem short_rev {M : List Int} (h : ¬ 2 ≤ M.length) : M.reverse = M := by
  match M with
  | [] => rfl
  | [a] => rfl
  | a :: b :: T => simp at h
theorem text_l2 (n : Nat) : ∀ (P M S : List Int) (k : Nat), M.length = n → P.length + n + S.length < 4611686018427387904 → n < k → nat_Text.l2 k (P ++ M ++ S) P.length ((P.length : Int) + n - 1) = some (strOfNums (P ++ M.reverse ++ S), 0) := by
  induction n using Nat.strongRecOn with
  | _ n ih =>
    intro P M S k hM hb hk
    obtain ⟨k, rfl⟩ : ∃ m, k = m + 1 := ⟨k - 1, by omega⟩
    simp only [nat_Text.l2]
    by_cases h : 2 ≤ M.length
    · obtain ⟨a, N, b, rfl⟩ := ends_of h
      have hN : N.length + 2 = n := by rw [← hM]; simp
      have hlen : (P ++ (a :: N ++ [b]) ++ S).length = P.length + n + S.length := by simp; omega
      have ej : (P.length : Int) + (n : Int) - 1 = ((P.length + (N.length + 1) : Nat) : Int) := by omega
      have c1 : (P.length : Int) < ((P.length + (N.length + 1) : Nat) : Int) := by omega
      have c2 : ((P.length + (N.length + 1) : Nat) : Int) < ((P ++ (a :: N ++ [b]) ++ S).length : Int) := by rw [hlen]; omega
      have c3 : (P.length : Int) < ((P ++ (a :: N ++ [b]) ++ S).length : Int) := by rw [hlen]; omega
      have b1 : P.length < 4611686018427387904 := by omega
      have b2 : P.length + (N.length + 1) < 4611686018427387904 := by omega
      have e5 : ((P.length + (N.length + 1) : Nat) : Int) - 1 = ((P ++ [b]).length : Int) + (N.length : Int) - 1 := by simp; omega
      have e6 : ((P.length + 1 : Nat) : Int) = ((P ++ [b]).length : Int) := by simp
      have := ih N.length (by omega) (P ++ [b]) N (a :: S) k rfl (by simp; omega) (by omega)
      rw [ej, if_pos c1, if_pos (Int.natCast_nonneg _), if_pos c2, if_pos (Int.natCast_nonneg _), if_pos c3, rd_nat, rd_nat, Int.toNat_natCast, Int.toNat_natCast, swap_eq P N S a b _ rfl, wrap_succ b1, wrap_pred b2, e5, e6, this]
      simp
    · rw [if_neg (by omega), short_rev h]
theorem rtext_l1 (n : Nat) : ∀ (P M S : List Int) (k : Nat), M.length = n → P.length = S.length → P.length + n + S.length < 4611686018427387904 → n < k → ulpref03_Text.l1 k (P ++ M ++ S) P.length = some (strOfNums (P ++ M.reverse ++ S)) := by
  induction n using Nat.strongRecOn with
  | _ n ih =>
    intro P M S k hM hPS hb hk
    obtain ⟨k, rfl⟩ : ∃ m, k = m + 1 := ⟨k - 1, by omega⟩
    have hl : (P ++ M ++ S).length = P.length + n + S.length := by simp; omega
    have w1 : wrap64 (((P ++ M ++ S).length : Int) / 2) = (((P.length + n + S.length) / 2 : Nat) : Int) := by
      rw [hl, wrapS (by omega) (by omega)]; omega
    simp only [ulpref03_Text.l1]
    rw [w1]
    by_cases h : 2 ≤ M.length
    · have c1 : (P.length : Int) < (((P.length + n + S.length) / 2 : Nat) : Int) := by clear w1; omega
      have c3 : (P.length : Int) < ((P ++ M ++ S).length : Int) := by clear w1; rw [hl]; omega
      have ww : wrap64 ((wrap64 (((P ++ M ++ S).length : Int) - 1)) - (P.length : Int)) = ((P.length + n - 1 : Nat) : Int) := by
        clear w1
        rw [hl, wrapS (x := ((P.length + n + S.length : Nat) : Int) - 1) (by omega) (by omega), wrapS (by omega) (by omega)]; omega
      rw [if_pos c1, if_pos (Int.natCast_nonneg _), if_pos c3, ww]
      clear w1 ww
      obtain ⟨a, N, b, rfl⟩ := ends_of h
      have hN : N.length + 2 = n := by rw [← hM]; simp
      have ej : ((P.length + n - 1 : Nat) : Int) = ((P.length + (N.length + 1) : Nat) : Int) := by omega
      have c2 : ((P.length + (N.length + 1) : Nat) : Int) < ((P ++ (a :: N ++ [b]) ++ S).length : Int) := by rw [hl]; omega
      have b1 : P.length < 4611686018427387904 := by omega
      have e6 : ((P.length + 1 : Nat) : Int) = ((P ++ [b]).length : Int) := by simp
      have := ih N.length (by omega) (P ++ [b]) N (a :: S) k rfl (by simp; omega) (by simp; omega) (by omega)
      rw [ej, if_pos (Int.natCast_nonneg _), if_pos c2, rd_nat, rd_nat, Int.toNat_natCast, Int.toNat_natCast, swap_eq P N S a b _ rfl, wrap_succ b1, e6, this]
      simp
    · have c1 : ¬ ((P.length : Int) < (((P.length + n + S.length) / 2 : Nat) : Int)) := by clear w1; omega
      rw [if_neg c1, short_rev h]
theorem digit_byte (r : Nat) : (IntKind.u64.wrap (48 + (Int.tmod (r : Int) 10))) % 256 = ((48 + r % 10 : Nat) : Int) := by
  have c : Int.tmod (r : Int) 10 = ((r % 10 : Nat) : Int) := tmodN r 10
  have e : (48 : Int) + ((r % 10 : Nat) : Int) = ((48 + r % 10 : Nat) : Int) := rfl
  rw [c, e, wrapN (by omega)]; omega
theorem byte_digit {r : Nat} (h : r < 10) : (IntKind.u64.wrap (48 + (r : Int))) % 256 = ((48 + r : Nat) : Int) := by
  have e : (48 : Int) + (r : Int) = ((48 + r : Nat) : Int) := rfl
  rw [e, wrapN (by omega)]; omega
theorem rdig_div (v : Nat) (h : v ≠ 0) (n : Nat) (hn : 0 < n) : (rdig (v / 10 ^ n)).length + 1 ≤ (rdig v).length := by
  obtain ⟨m, rfl⟩ : ∃ m, n = m + 1 := ⟨n - 1, by omega⟩
  have a := (rdig_len v (rdig v).length).1 (Nat.le_refl _)
  have hp : 1 ≤ (rdig v).length := by rw [rdig_pos h]; simp
  have : (rdig (v / 10 ^ (m + 1))).length ≤ (rdig v).length - 1 := by
    rw [rdig_len, Nat.div_lt_iff_lt_mul (Nat.pow_pos (by decide)), ← Nat.pow_add]
    exact Nat.lt_of_lt_of_le a (Nat.pow_le_pow_right (by decide) (by omega))
  omega
theorem text_l1 (q F T : Nat) (hT : T < 140737488355328) (next : ∀ (bk : List Int) (k : Nat), F < k → bk.length + (rdig q).length ≤ T → nat_Text.l0 k (ofN q) bk = some (strOfNums (bk ++ rdig q).reverse, 0)) (s : Nat) :
    ∀ (i r k : Nat) (bk : List Int), i + s = 19 → r < 10 ^ s → F + s + 1 < k → bk.length + (rdig (q * 10 ^ s + r)).length ≤ T → nat_Text.l1 k bk (ofN q) r i = some (strOfNums (bk ++ rdig (q * 10 ^ s + r)).reverse, 0) := by
  induction s with
  | zero =>
    intro i r k bk hi hr hk hb
    obtain ⟨k, rfl⟩ : ∃ m, k = m + 1 := ⟨k - 1, by omega⟩
    have hr0 : r = 0 := by rw [Nat.pow_zero] at hr; omega
    subst hr0
    rw [Nat.pow_zero, Nat.mul_one, Nat.add_zero] at hb ⊢
    simp only [nat_Text.l1]
    rw [if_neg (by omega)]
    exact next bk k (by omega) hb
  | succ s ih =>
    intro i r k bk hi hr hk hb
    obtain ⟨k, rfl⟩ : ∃ m, k = m + 1 := ⟨k - 1, by omega⟩
    have g0 : (i : Int) < 19 := by omega
    have w1 : wrap64 ((i : Int) + 1) = ((i + 1 : Nat) : Int) := wrap_succ (by omega)
    have hr' : r < 10 ^ s * 10 := by rw [← Nat.pow_succ]; exact hr
    have hq : q * 10 ^ (s + 1) = 10 * (q * 10 ^ s) := by rw [Nat.pow_succ, ← Nat.mul_assoc, Nat.mul_comm]
    have h10 : Int.tdiv (r : Int) 10 = ((r / 10 : Nat) : Int) := tdivN r 10
    have step : q * 10 ^ (s + 1) + r ≠ 0 → (if bk.length < 140737488355328 then (nat_Text.l1 k (bk ++ [(IntKind.u64.wrap (48 + (Int.tmod (r : Int) 10))) % 256]) (ofN q) (IntKind.u64.wrap (Int.tdiv (r : Int) 10)) (wrap64 ((i : Int) + 1))) else (none)) = some (strOfNums (bk ++ rdig (q * 10 ^ (s + 1) + r)).reverse, 0) := by
      intro hu
      have hm : (q * 10 ^ (s + 1) + r) % 10 = r % 10 := by rw [hq]; omega
      have hd : (q * 10 ^ (s + 1) + r) / 10 = q * 10 ^ s + r / 10 := by rw [hq]; omega
      rw [rdig_pos hu, hm, hd] at hb ⊢
      rw [List.length_cons] at hb
      have rlt : r < 18446744073709551616 := by
        have : 10 ^ (s + 1) ≤ 10 ^ 19 := Nat.pow_le_pow_right (by decide) (by omega)
        exact Nat.lt_of_lt_of_le hr (Nat.le_trans this (by decide))
      rw [if_pos (by clear w1; omega), w1, digit_byte, h10, wrapN (Nat.lt_of_le_of_lt (Nat.div_le_self _ _) rlt)]
      rw [ih (i + 1) (r / 10) k _ (by omega) (by omega) (by omega) (by simp; omega)]
      simp
    simp only [nat_Text.l1]
    rw [if_pos g0]
    by_cases z : q = 0
    · have hl : ¬ (((ofN q).length : Int) > 0) := by rw [z, ofN_zero]; simp
      rw [if_neg hl]
      by_cases y : r = 0
      · have hr0 : ¬ ((r : Int) > 0) := by omega
        rw [if_neg hr0, y, z, Nat.zero_mul, Nat.add_zero]
        rw [y, z, Nat.zero_mul, Nat.add_zero] at hb
        rw [z] at next
        exact next bk k (by omega) hb
      · rw [if_pos (by omega)]
        exact step (by omega)
    · have hl : ((ofN q).length : Int) > 0 := by
        have : (ofN q).length ≠ 0 := fun x => z (ofN_zero_iff.1 x)
        omega
      rw [if_pos hl]
      have : 0 < q * 10 ^ s := Nat.mul_pos (by omega) (Nat.pow_pos (by decide))
      exact step (by omega)
theorem text_l0 (v : Nat) : ∀ (bk : List Int) (k : Nat), (ofN v).length ≤ 1024 → 30 * (rdig v).length + 2 * (bk.length + (rdig v).length) + 3000 < k → bk.length + (rdig v).length < 140737488355328 → nat_Text.l0 k (ofN v) bk = some (strOfNums (bk ++ rdig v).reverse, 0) := by
  induction v using Nat.strongRecOn with
  | _ v ih =>
    intro bk k hl hk hb
    obtain ⟨k, rfl⟩ : ∃ m, k = m + 1 := ⟨k - 1, by omega⟩
    simp only [nat_Text.l0]
    by_cases z : v = 0
    · have hl0 : ¬ (((ofN v).length : Int) > 0) := by rw [z, ofN_zero]; simp
      have := text_l2 bk.length [] bk [] k rfl (by simp; omega) (by omega)
      rw [if_neg hl0, z, rdig_zero, List.append_nil, wrap_pred (by omega)]
      simpa using this
    · have hl0 : ((ofN v).length : Int) > 0 := by
        have : (ofN v).length ≠ 0 := fun x => z (ofN_zero_iff.1 x)
        omega
      have hs := short_eq (ofN v) (ws_ofN v) 10000000000000000000 k (by decide) (by decide) (by omega) (by omega)
      rw [val_ofN] at hs
      have hs' : nat_number_short.f k (ofN v) 10000000000000000000 = some (ofN (v / 10000000000000000000), ((v % 10000000000000000000 : Nat) : Int)) := hs
      rw [if_pos hl0, hs', bind_s]
      have hd := rdig_div v z 19 (by decide)
      have e19 : (10 : Nat) ^ 19 = 10000000000000000000 := by decide
      rw [e19] at hd
      have hlq : (ofN (v / 10000000000000000000)).length ≤ 1024 := Nat.le_trans (ofN_len_le (Nat.div_le_self _ _)) hl
      have hlt : v / 10000000000000000000 < v := Nat.div_lt_self (by omega) (by decide)
      have hu : v / 10000000000000000000 * 10 ^ 19 + v % 10000000000000000000 = v := by rw [e19]; omega
      have hm : v % 10000000000000000000 < 10 ^ 19 := by rw [e19]; exact Nat.mod_lt _ (by decide)
      have := text_l1 (v / 10000000000000000000) (30 * (rdig (v / 10000000000000000000)).length + 2 * (bk.length + (rdig v).length) + 3000) (bk.length + (rdig v).length) hb (fun bk' k' hk' hb' => ih _ hlt bk' k' hlq (by omega) (by omega)) 19 0 (v % 10000000000000000000) k bk (by omega) hm (by omega) (by rw [hu]; exact Nat.le_refl _)
      rw [hu] at this
      exact this
theorem rtext_l0 (v : Nat) : ∀ (bk : List Int) (k : Nat), (ofN v).length ≤ 1024 → 2 * (bk.length + (rdig v).length) + (rdig v).length + 3000 < k → bk.length + (rdig v).length < 140737488355328 → ulpref03_Text.l0 k (ofN v) bk = some (strOfNums (bk ++ rdig v).reverse) := by
  induction v using Nat.strongRecOn with
  | _ v ih =>
    intro bk k hl hk hb
    obtain ⟨k, rfl⟩ : ∃ m, k = m + 1 := ⟨k - 1, by omega⟩
    simp only [ulpref03_Text.l0]
    by_cases z : v = 0
    · have hl0 : ¬ (((ofN v).length : Int) > 0) := by rw [z, ofN_zero]; simp
      have := rtext_l1 bk.length [] bk [] k rfl rfl (by simp; omega) (by omega)
      rw [if_neg hl0, z, rdig_zero, List.append_nil]
      simpa using this
    · have hl0 : ((ofN v).length : Int) > 0 := by
        have : (ofN v).length ≠ 0 := fun x => z (ofN_zero_iff.1 x)
        omega
      have hs := rshort_eq (ofN v) (ws_ofN v) 10 k (by decide) (by decide) (by omega) (by omega)
      rw [val_ofN] at hs
      have hs' : ulpref03_short.f k (ofN v) 10 = some (ofN (v / 10), ((v % 10 : Nat) : Int)) := hs
      have hlq : (ofN (v / 10)).length ≤ 1024 := Nat.le_trans (ofN_len_le (Nat.div_le_self _ _)) hl
      rw [rdig_pos z, List.length_cons] at hk hb
      rw [if_pos hl0, hs', bind_s, rdig_pos z]
      dsimp only
      rw [if_pos (by omega), byte_digit (Nat.mod_lt _ (by decide)), ih (v / 10) (by omega) _ k hlq (by simp; omega) (by simp; omega)]
      simp
theorem big_digits {v : Nat} (h : v < big) : (rdig v).length ≤ 30000 := by
  rw [rdig_len]
  have h1 := big_lt_iff.1 h
  have key : ∀ m, bl v ≤ 3 * m → v < 10 ^ m := fun m hm => by
    have a : v < 2 ^ (3 * m) := bl_le_iff.1 hm
    rw [Nat.pow_mul] at a
    exact Nat.lt_of_lt_of_le a (Nat.pow_le_pow_left (by decide) m)
  exact key 30000 (by omega)
/-- The text of a number. -/
def textS (v : Nat) : ByteArray := if v = 0 then ⟨#[48]⟩ else strOfNums (rdig v).reverse
theorem Text_eq (a : List Int) (k : Nat) (ha : Ws a) (na : a.length < 17592186044000) (hk : a.length + 2000000 < k) : nat_Text.f k a = some (if val a < big then (textS (val a), 0) else (⟨#[]⟩, 3)) := by
  unfold nat_Text.f
  rw [one_eq a k ha (by omega) (by omega), bind_s]
  by_cases h : val a < big
  · have hl := len_big h
    have hd := big_digits h
    simp only [if_pos h]
    rw [if_pos trivial]
    unfold textS
    by_cases z : val a = 0
    · have z' := ofN_zero_iff.2 z
      rw [if_pos z, if_pos (by omega)]
    · have z' : (ofN (val a)).length ≠ 0 := fun x => z (ofN_zero_iff.1 x)
      have := text_l0 (val a) [] k hl (by simp; omega) (by simp; omega)
      rw [if_neg z, if_neg (by omega)]
      simpa using this
  · simp only [if_neg h]
    rw [if_neg (by decide)]
theorem rText_eq (a : List Int) (k : Nat) (ha : Ws a) (h : val a < big) (na : a.length < 17592186044000) (hk : a.length + 2000000 < k) : ulpref03_Text.f k a = some (textS (val a)) := by
  unfold ulpref03_Text.f
  have hl := len_big h
  have hd := big_digits h
  rw [rnorm_eq a k ha (by omega) (by omega), bind_s]
  unfold textS
  by_cases z : val a = 0
  · have z' := ofN_zero_iff.2 z
    rw [if_pos z, if_pos (by omega)]
  · have z' : (ofN (val a)).length ≠ 0 := fun x => z (ofN_zero_iff.1 x)
    have := rtext_l0 (val a) [] k hl (by simp; omega) (by simp; omega)
    rw [if_neg z, if_neg (by omega)]
    simpa using this
end Go.Proofs.Ytdbhednhhmbooaa.Nf

namespace Go.Proofs.Ytdbhednhhmbooaa.Nf
open Go.RowKit Go.Proofs.Ytdbhednhhmbooaa.PAll Go.Proofs.YtdbhednhhmbooaaW.PrintWords Go.Proofs.YtdbhednhhmbooaaW.PrintLast Go.Proofs.YtdbhednhhmbooaaW.PrintMore Go.Proofs.Ytdbhednhhmbooaa.Nm
set_option linter.unusedVariables false
set_option linter.unusedSimpArgs false
theorem eq_of_len : ∀ {l : List Int}, Ws l → (ofN (val l)).length = l.length → l = ofN (val l)
  | [], _, _ => by rw [val_nil, ofN_zero]
  | w :: l, hw, h => by
    obtain ⟨h1, h2⟩ := ws_cons.1 hw
    have h0 : val (w :: l) ≠ 0 := fun z => by rw [z, ofN_zero] at h; simp at h
    have e1 : ((val (w :: l) % 18446744073709551616 : Nat) : Int) = w := by rw [val_cons]; omega
    have e2 : val (w :: l) / 18446744073709551616 = val l := by rw [val_cons]; omega
    rw [ofN_pos h0, e1, e2] at h ⊢
    rw [← eq_of_len h2 (by simpa using h)]
theorem grown_lin {P n B D w c vo va d : Nat} (h : n + B * D = w * 10 + c) (hv : vo + P * c = 10 * va + d) : vo + P * n + P * B * D = 10 * (va + P * w) + d := by
  have e : P * (n + B * D) = P * (w * 10 + c) := by rw [h]
  rw [Nat.mul_add, Nat.mul_add, ← Nat.mul_assoc, ← Nat.mul_assoc P w 10] at e
  rw [Nat.mul_add]
  omega
theorem grown_loop (a : List Int) (ha : Ws a) (d : Nat) (hd : d ≤ 9) (na : a.length < 17592186044000) (s : Nat) : ∀ (j k : Nat) (o : List Int) (c : Nat), a.length - j = s → j ≤ a.length → s + 2 < k → o.length = a.length → Ws o → c ≤ 9 → (∀ m, j ≤ m → o.getD m 0 = a.getD m 0) →
    val (o.take j) + 18446744073709551616 ^ j * c = 10 * val (a.take j) + d →
    (a = ofN (val a)) → nat_number_grown.l0 k o c a.length j = some (ofN (10 * val a + d)) := by
  induction s with
  | zero =>
    intro j k o c hs hj hk ho hw hc hz hv hN
    obtain ⟨k, rfl⟩ : ∃ m, k = m + 1 := ⟨k - 1, by omega⟩
    obtain rfl : j = a.length := by omega
    rw [val_take_ge _ _ (by omega), val_take_ge _ _ (Nat.le_refl _)] at hv
    simp only [nat_number_grown.l0]
    rw [if_neg (by omega)]
    by_cases z : c = 0
    · subst z
      rw [Nat.mul_zero, Nat.add_zero] at hv
      rw [if_neg (by omega), ← hv]
      congr 1
      refine eq_of_len hw ?_
      have h1 : (ofN (val a)).length ≤ (ofN (val o)).length := ofN_len_le (by omega)
      rw [← hN] at h1
      have h2 := (ofN_len (val o) o.length).2 (val_lt hw)
      omega
    · rw [if_pos (by omega), if_pos (by omega), ← hv]
      have e : val (o ++ [(c : Int)]) = val o + 18446744073709551616 ^ a.length * c := by rw [val_snoc, ho, Int.toNat_natCast]
      rw [← e]
      congr 1
      exact eq_ofN (ws_append.2 ⟨hw, ws_cons.2 ⟨by omega, ws_nil⟩⟩) (nrm_of_last (by omega))
  | succ s ih =>
    intro j k o c hs hj hk ho hw hc hz hv hN
    obtain ⟨k, rfl⟩ : ∃ m, k = m + 1 := ⟨k - 1, by omega⟩
    have i1 : a.length - (j + 1) = s := by omega
    have i2 : j + 1 ≤ a.length := by omega
    have i3 : s + 2 < k := by omega
    have i4 : j < o.length := by omega
    have g1 : (j : Int) < (a.length : Int) := by omega
    have g2 : (j : Int) < (o.length : Int) := by omega
    have b3 : j < 4611686018427387904 := by omega
    have hzj := hz j (Nat.le_refl _)
    obtain ⟨p0, p1⟩ := ws_get ha j
    have ew := asNat p0
    have ts := take_succ_getD a j
    generalize hwn : (a.getD j 0).toNat = w at *
    have w1 : w < 18446744073709551616 := Int.ofNat_lt.1 (ew ▸ p1)
    have c1 : (w * 10 % 18446744073709551616 + c) % 18446744073709551616 < 18446744073709551616 := Nat.mod_lt _ (by decide)
    have c2 : w * 10 / 18446744073709551616 + (w * 10 % 18446744073709551616 + c) / 18446744073709551616 ≤ 9 := by omega
    have c3 : (w * 10 % 18446744073709551616 + c) % 18446744073709551616 + 18446744073709551616 * (w * 10 / 18446744073709551616 + (w * 10 % 18446744073709551616 + c) / 18446744073709551616) = w * 10 + c := by omega
    have c4 : w * 10 / 18446744073709551616 + (w * 10 % 18446744073709551616 + c) / 18446744073709551616 < 18446744073709551616 := by omega
    have hm := Mul64_eq w 10 w1 (by decide)
    have hm' : bits_Mul64.f (w : Int) 10 = some (((w * 10 / 18446744073709551616 : Nat) : Int), ((w * 10 % 18446744073709551616 : Nat) : Int)) := hm
    have s1 : add64s ((w * 10 % 18446744073709551616 : Nat) : Int) (c : Int) 0 = (((w * 10 % 18446744073709551616 + c) % 18446744073709551616 : Nat) : Int) := by
      rw [a64s]; simp only [Int.toNat_natCast, Int.toNat_zero, Nat.add_zero]
    have s2 : add64c ((w * 10 % 18446744073709551616 : Nat) : Int) (c : Int) 0 = (((w * 10 % 18446744073709551616 + c) / 18446744073709551616 : Nat) : Int) := by
      rw [a64c]; simp only [Int.toNat_natCast, Int.toNat_zero, Nat.add_zero]
    simp only [nat_number_grown.l0]
    rw [if_pos g1, if_pos (Int.natCast_nonneg _), if_pos g2, rd_nat, hzj, ew, hm', bind_s]
    dsimp only
    rw [s1, s2, wrapN2 c4, wrap_succ b3, Int.toNat_natCast]
    refine ih (j + 1) k _ _ i1 i2 i3 (by rw [List.length_set]; exact ho) (ws_set hw _ (Int.natCast_nonneg _) (Int.ofNat_lt.2 c1)) c2 ?_ ?_ hN
    · intro m hm2
      rw [Nm.getD_set_ne _ _ _ _ (Nat.ne_of_lt hm2)]
      exact hz m (Nat.le_of_succ_le hm2)
    · rw [val_set_take o _ _ i4, Int.toNat_natCast, ts, Nat.pow_succ]
      exact grown_lin c3 hv
theorem grown_eq (v d k : Nat) (hd : d ≤ 9) (na : (ofN v).length < 17592186044000) (hk : (ofN v).length + 2 < k) : nat_number_grown.f k (ofN v) d = some (ofN (10 * v + d)) := by
  unfold nat_number_grown.f
  have := grown_loop (ofN v) (ws_ofN v) d hd na _ 0 k (ofN v) d rfl (Nat.zero_le _) hk rfl (ws_ofN v) hd (fun _ _ => rfl) (by simp [val]) (by rw [val_ofN])
  rw [val_ofN] at this
  exact this
theorem Of_eq (w k : Nat) (hw : w < 18446744073709551616) (hk : 1 < k) : ulpref03_Of.f k w = some (ofN w) := by
  unfold ulpref03_Of.f
  have : val [(w : Int)] = w := by simp [val]
  rw [rnorm_eq _ k (ws_cons.2 ⟨by omega, ws_nil⟩) (by simp) (by simpa using hk), bind_s, this]
/-- What the reading of digits comes to. -/
def parS (s : ByteArray) : Nat → Nat → Nat → List Int × Int × Int
  | 0, _, v => (ofN v, 0, 0)
  | r + 1, i, v => if bt s (i : Int) < 48 ∨ bt s (i : Int) > 57 ∨ (i = 1 ∧ bt s 0 = 48) then ([], 32, (i : Int)) else parS s r (i + 1) (10 * v + (bt s (i : Int) - 48).toNat)
theorem len_dig {v i : Nat} (h : v < 10 ^ i) : (ofN v).length ≤ i := (ofN_len v i).2 (Nat.lt_of_lt_of_le h (Nat.pow_le_pow_left (by decide) i))
theorem parS_len (s : ByteArray) (r : Nat) : ∀ i v, v < 10 ^ i → (parS s r i v).1.length ≤ i + r := by
  induction r with
  | zero => intro i v h; exact len_dig h
  | succ r ih =>
    intro i v h
    unfold parS
    by_cases c : bt s (i : Int) < 48 ∨ bt s (i : Int) > 57 ∨ (i = 1 ∧ bt s 0 = 48)
    · rw [if_pos c]; exact Nat.zero_le _
    · rw [if_neg c]
      have := ih (i + 1) (10 * v + (bt s (i : Int) - 48).toNat) (by rw [Nat.pow_succ]; omega)
      omega
theorem parse_loop (s : ByteArray) (hs : s.size ≤ 4096) (r : Nat) : ∀ (i v k : Nat), i + r = s.size → v < 10 ^ i → r + 5000 < k → nat_Parse.l0 k s (ofN v) i = some (parS s r i v) := by
  induction r with
  | zero =>
    intro i v k hi hv hk
    obtain ⟨k, rfl⟩ : ∃ m, k = m + 1 := ⟨k - 1, by omega⟩
    have hl := len_dig hv
    simp only [nat_Parse.l0]
    rw [if_neg (by omega), own_eq _ (by omega), bind_s]; rfl
  | succ r ih =>
    intro i v k hi hv hk
    obtain ⟨k, rfl⟩ : ∃ m, k = m + 1 := ⟨k - 1, by omega⟩
    have hl := len_dig hv
    have w1 : wrap64 ((i : Int) + 1) = ((i + 1 : Nat) : Int) := wrap_succ (by omega)
    have g1 : (i : Int) < (s.size : Int) := by omega
    have g2 : 0 < (s.size : Int) := by omega
    have g3 : (i : Int) = 1 ↔ i = 1 := by omega
    have i1 : i + 1 + r = s.size := by omega
    have i2 : r + 5000 < k := by omega
    have i3 : (ofN v).length < 17592186044000 := by omega
    have i4 : (ofN v).length + 2 < k := by omega
    have go : ∀ b : Int, bt s (i : Int) = b → ¬ b < 48 → ¬ b > 57 → ((nat_number_grown.f k (ofN v) ((b - 48) % 256)).bind fun t => nat_Parse.l0 k s t (wrap64 ((i : Int) + 1))) = some (parS s r (i + 1) (10 * v + (b - 48).toNat)) := by
      intro b hb h1 h2
      have e : (b - 48) % 256 = (((b - 48).toNat : Nat) : Int) := by omega
      rw [e, grown_eq v _ k (by omega) i3 i4, bind_s, w1, ih (i + 1) _ k i1 (by rw [Nat.pow_succ]; omega) i2]
    simp only [nat_Parse.l0]
    unfold parS
    rw [if_pos g1, if_pos (Int.natCast_nonneg _)]
    generalize hb : bt s (i : Int) = b at *
    by_cases h1 : b < 48
    · rw [if_pos h1, if_pos (.inl h1)]
    · rw [if_neg h1]
      by_cases h2 : b > 57
      · rw [if_pos h2, if_pos (.inr (.inl h2))]
      · rw [if_neg h2]
        by_cases h3 : i = 1
        · rw [if_pos (g3.2 h3), if_pos g2]
          by_cases h4 : bt s 0 = 48
          · rw [if_pos h4, if_pos (.inr (.inr ⟨h3, h4⟩))]
          · rw [if_neg h4, if_neg (fun h => h.elim h1 (fun h => h.elim h2 (fun h => h4 h.2)))]
            exact go b rfl h1 h2
        · rw [if_neg (fun h => h3 (g3.1 h)), if_neg (fun h => h.elim h1 (fun h => h.elim h2 (fun h => h3 h.1)))]
          exact go b rfl h1 h2
theorem rparse_loop (s : ByteArray) (hs : s.size ≤ 4096) (hne : ¬ s.toList = ([] : List UInt8)) (r : Nat) : ∀ (i v k : Nat), i + r = s.size → v < 10 ^ i → 2 * r + 60000 < k → ulpref03_Parse.l0 k s (ofN v) i = some (parS s r i v) := by
  induction r with
  | zero =>
    intro i v k hi hv hk
    obtain ⟨k, rfl⟩ : ∃ m, k = m + 1 := ⟨k - 1, by omega⟩
    simp only [ulpref03_Parse.l0]
    rw [if_neg (by omega), if_neg hne]; rfl
  | succ r ih =>
    intro i v k hi hv hk
    obtain ⟨k, rfl⟩ : ∃ m, k = m + 2 := ⟨k - 2, by omega⟩
    have hl := len_dig hv
    have w1 : wrap64 ((i : Int) + 1) = ((i + 1 : Nat) : Int) := wrap_succ (by omega)
    have g1 : (i : Int) < (s.size : Int) := by omega
    have g2 : 0 < (s.size : Int) := by omega
    have g3 : (i : Int) = 1 ↔ i = 1 := by omega
    have i1 : i + 1 + r = s.size := by omega
    have i2 : 2 * r + 60000 < k := by omega
    have i3 : (ofN v).length ≤ 4096 := by omega
    have i4 : 1 < k := by omega
    have l10 : (ofN 10).length ≤ 1 := (ofN_len 10 1).2 (by decide)
    have bad : ulpref03_Parse.j1 (k + 1) s (ofN v) i true = some ([], 32, (i : Int)) := by
      simp only [ulpref03_Parse.j1]; rw [if_pos trivial]
    have go : ∀ b : Int, bt s (i : Int) = b → ¬ b < 48 → ¬ b > 57 → ulpref03_Parse.j1 (k + 1) s (ofN v) i false = some (parS s r (i + 1) (10 * v + (b - 48).toNat)) := by
      intro b hb h1 h2
      have e : (b - 48) % 256 = (((b - 48).toNat : Nat) : Int) := by omega
      have d9 : (b - 48).toNat ≤ 9 := by omega
      have dw : (b - 48).toNat < 18446744073709551616 := by omega
      have ld : (ofN (b - 48).toNat).length ≤ 1 := (ofN_len _ 1).2 (by omega)
      have lt : (ofN (v * 10)).length ≤ 4097 := by
        have := len_dig (v := v * 10) (i := i + 1) (by rw [Nat.pow_succ]; omega)
        omega
      have hO := Of_eq 10 k (by decide) i4
      have hO' : ulpref03_Of.f k 10 = some (ofN 10) := hO
      have hM : (ofN v).length * ((ofN 10).length + 2) ≤ 4096 * 3 := Nat.mul_le_mul i3 (by omega)
      have hmul := rmul_eq (ofN v) (ofN 10) k (ws_ofN _) (ws_ofN _) (by omega) (by omega) (by rw [val_ofN, val_ofN]; omega) (by rw [val_ofN, val_ofN]; omega) (by omega) (by omega)
      rw [val_ofN, val_ofN] at hmul
      have hadd := radd_eq (ofN (v * 10)) (ofN (b - 48).toNat) k (ws_ofN _) (ws_ofN _) (by omega) (by omega) (by omega)
      rw [val_ofN, val_ofN] at hadd
      simp only [ulpref03_Parse.j1]
      rw [if_neg (by decide), hO', bind_s, hmul, bind_s, if_pos (Int.natCast_nonneg _), if_pos g1, hb, e, Of_eq _ k dw i4, bind_s, hadd, bind_s, w1, Nat.mul_comm v 10]
      exact ih (i + 1) _ k i1 (by rw [Nat.pow_succ]; omega) i2
    simp only [ulpref03_Parse.l0]
    unfold parS
    rw [if_pos g1, if_pos (Int.natCast_nonneg _), bad]
    generalize hb : bt s (i : Int) = b at *
    by_cases h1 : b < 48
    · rw [if_pos h1, if_pos (.inl h1)]
    · rw [if_neg h1]
      by_cases h2 : b > 57
      · rw [if_pos h2, if_pos (.inr (.inl h2))]
      · rw [if_neg h2]
        by_cases h3 : i = 1
        · rw [if_pos (g3.2 h3), if_pos g2]
          by_cases h4 : bt s 0 = 48
          · have e : (bt s 0 == 48) = true := by rw [h4]; rfl
            rw [e, if_pos (.inr (.inr ⟨h3, h4⟩)), bad]
          · have e : (bt s 0 == 48) = false := by simpa using h4
            rw [e, if_neg (fun h => h.elim h1 (fun h => h.elim h2 (fun h => h4 h.2)))]
            exact go b rfl h1 h2
        · rw [if_neg (fun h => h3 (g3.1 h)), if_neg (fun h => h.elim h1 (fun h => h.elim h2 (fun h => h3 h.1)))]
          exact go b rfl h1 h2
/-- What is answered of a text. -/
def parseS (s : ByteArray) : List Int × Int × Int := if (s.size : Int) > 4096 then ([], 4, 0) else if s.toList = ([] : List UInt8) then ([], 32, 0) else parS s s.size 0 0
theorem Parse_eq (s : ByteArray) (k : Nat) (hk : 80000 < k) : nat_Parse.f k s = some (parseS s) := by
  unfold nat_Parse.f parseS
  by_cases h : (s.size : Int) > 4096
  · rw [if_pos h, if_pos h]
  · rw [if_neg h, if_neg h]
    by_cases g : s.toList = ([] : List UInt8)
    · rw [if_pos g, if_pos g]
    · have := parse_loop s (by omega) s.size 0 0 k (by omega) (by decide) (by omega)
      rw [ofN_zero] at this
      rw [if_neg g, if_neg g]; exact this
theorem rParse_eq (s : ByteArray) (k : Nat) (hk : 80000 < k) : ulpref03_Parse.f k s = some (parseS s) := by
  unfold ulpref03_Parse.f parseS
  by_cases h : (s.size : Int) > 4096
  · rw [if_pos h, if_pos h]
  · rw [if_neg h, if_neg h]
    by_cases g : s.toList = ([] : List UInt8)
    · rw [if_pos g]
      have hz : s.size = 0 := by rw [(toList_nil_iff_emptyBytes s).1 g]; rfl
      obtain ⟨k, rfl⟩ : ∃ m, k = m + 1 := ⟨k - 1, by omega⟩
      simp only [ulpref03_Parse.l0]
      rw [if_neg (by omega), if_pos g]
    · have := rparse_loop s (by omega) g s.size 0 0 k (by omega) (by decide) (by omega)
      rw [ofN_zero] at this
      rw [if_neg g]; exact this
theorem parseS_len (s : ByteArray) : (parseS s).1.length ≤ 4096 := by
  unfold parseS
  by_cases h : (s.size : Int) > 4096
  · rw [if_pos h]; exact Nat.zero_le _
  · rw [if_neg h]
    by_cases g : s.toList = ([] : List UInt8)
    · rw [if_pos g]; exact Nat.zero_le _
    · rw [if_neg g]
      have := parS_len s s.size 0 0 (by decide)
      omega
end Go.Proofs.Ytdbhednhhmbooaa.Nf

namespace Go.Proofs.Ytdbhednhhmbooaa.Nf
open Go.RowKit Go.Proofs.Ytdbhednhhmbooaa.PAll Go.Proofs.YtdbhednhhmbooaaW.PrintWords
theorem lives_eq (k : Nat) (hk : 3000 ≤ k) : ulplaw03_lives.f k = some true :=
  at_rounds ulplaw03_lives.mono hk (by decide +kernel)
end Go.Proofs.Ytdbhednhhmbooaa.Nf

namespace Go.Proofs.Ytdbhednhhmbooaa.Pure
open Go.RowKit Go.Proofs.Ytdbhednhhmbooaa.PAll Go.Proofs.YtdbhednhhmbooaaW.PrintWords Go.Proofs.YtdbhednhhmbooaaW.PrintLast Go.Proofs.YtdbhednhhmbooaaW.PrintMore
set_option linter.unusedVariables false
set_option linter.unusedSimpArgs false
open Go.Proofs.Ytdbhednhhmbooaa.Nm Go.Proofs.Ytdbhednhhmbooaa.Nf
theorem NatTexts : ulplaw03_NatTexts.Pure := by
  intro a s _ na wa ns
  have ha := ws_wf wa
  have na' : a.length < 17592186044000 := by omega
  refine ⟨2 * a.length + 3000000 + 1, ?_⟩
  obtain ⟨k, hk⟩ : ∃ k, k = 2 * a.length + 3000000 := ⟨_, rfl⟩
  rw [← hk]
  unfold ulplaw03_NatTexts.f
  have hp := parseS_len s
  rw [Text_eq a _ ha na' (by omega), bind_s, Parse_eq s _ (by omega), bind_s, rParse_eq s _ (by omega), bind_s, lives_eq _ (by omega), bind_s, if_pos rfl, same_eq _ _ (by omega) (by omega), bind_s, if_pos rfl, if_pos rfl, bne_self_eq_false]
  simp only [ulplaw03_NatTexts.j0]
  rw [if_neg (by decide), rgreat_eq a k ha (by omega) (by omega), bind_s]
  by_cases h : val a < big
  · rw [if_neg (by simpa using h), rText_eq a k ha h na' (by omega), bind_s, if_pos h, if_pos rfl]; rfl
  · rw [if_pos (by simpa using h), if_neg h]
    exact if_pos ((toList_nil_iff_emptyBytes (⟨#[]⟩ : ByteArray)).2 rfl)
end Go.Proofs.Ytdbhednhhmbooaa.Pure
