/- Many floats, added; polynomials: they come to floats. Plain numbers: no program. -/
import Derived.Test.YteaghcchalfgmaaNXt
namespace Go.Proofs.Yteaghcchalfgmaa.Nm
open Ieee
set_option linter.unusedVariables false
set_option maxRecDepth 10000

section
variable {E e : Nat} (hE : E ≤ 2030) (he : 2 ^ E = e)
include hE he
theorem addL {x y : Nat} (hx : Fi x) (hy : Fi y) (h1 : -(9007199254740992 * (e : Int)) ≤ V x + V y) (h2 : V x + V y ≤ 9007199254740992 * (e : Int)) : ∃ z, fA x y = some z ∧ Fi z ∧ -(e : Int) ≤ V z - (V x + V y) ∧ V z - (V x + V y) ≤ e := by
  obtain ⟨z, e1, f, h⟩ := add_V hx hy hE (by rw [Nat.pow_add, he]; omega)
  rw [he] at h
  exact ⟨z, e1, f, by omega, by omega⟩
theorem subL {x y : Nat} (hx : Fi x) (hy : Fi y) (h1 : -(9007199254740992 * (e : Int)) ≤ V x - V y) (h2 : V x - V y ≤ 9007199254740992 * (e : Int)) : ∃ z, fS x y = some z ∧ Fi z ∧ -(e : Int) ≤ V z - (V x - V y) ∧ V z - (V x - V y) ≤ e := by
  obtain ⟨z, e1, f, h⟩ := sub_V hx hy hE (by rw [Nat.pow_add, he]; omega)
  rw [he] at h
  exact ⟨z, e1, f, by omega, by omega⟩
theorem mulL {x y : Nat} (hx : Fi x) (hy : Fi y) (hb : (V x * V y).natAbs ≤ 9007199254740992 * (e * 2 ^ ku)) : ∃ z, fM x y = some z ∧ Fi z ∧ (V z * ((2 ^ ku : Nat) : Int) - V x * V y).natAbs ≤ e * 2 ^ ku := by
  obtain ⟨z, e1, f, h⟩ := mul_V hx hy hE (by rw [Nat.pow_add, he, Nat.mul_assoc]; exact hb)
  rw [he] at h
  exact ⟨z, e1, f, h⟩

theorem two_V {a b : Nat} (ha : Fi a) (hb : Fi b) {A B : Int} (a1 : -A ≤ V a) (a2 : V a ≤ A) (b1 : -B ≤ V b) (b2 : V b ≤ B) (h : A + B + 16 * (e : Int) ≤ 9007199254740992 * e) :
    ∃ s t, twoF a b = some (s, t) ∧ Fi s ∧ Fi t ∧ (-(e : Int) ≤ V s - (V a + V b) ∧ V s - (V a + V b) ≤ e) ∧ -(7 * (e : Int)) ≤ V t ∧ V t ≤ 7 * (e : Int) := by
  obtain ⟨s, es, fs, s1, s2⟩ := addL hE he ha hb (by omega) (by omega)
  obtain ⟨x, ex, fx, x1, x2⟩ := subL hE he fs ha (by omega) (by omega)
  obtain ⟨y, ey, fy, y1, y2⟩ := subL hE he fs fx (by omega) (by omega)
  obtain ⟨u, eu, fu, u1, u2⟩ := subL hE he ha fy (by omega) (by omega)
  obtain ⟨v, ev, fv, v1, v2⟩ := subL hE he hb fx (by omega) (by omega)
  obtain ⟨t, et, ft, t1, t2⟩ := addL hE he fu fv (by omega) (by omega)
  refine ⟨s, t, ?_, fs, ft, ⟨s1, s2⟩, by omega, by omega⟩
  unfold twoF
  simp only [es, ex, ey, eu, ev, et, Option.bind_some]

theorem fast_V {a b : Nat} (ha : Fi a) (hb : Fi b) {A B : Int} (a1 : -A ≤ V a) (a2 : V a ≤ A) (b1 : -B ≤ V b) (b2 : V b ≤ B) (h : A + B + 16 * (e : Int) ≤ 9007199254740992 * e) :
    ∃ s t, fastF a b = some (s, t) ∧ Fi s ∧ Fi t ∧ (-(A + B + e) ≤ V s ∧ V s ≤ A + B + e) ∧ -(3 * (e : Int)) ≤ V t ∧ V t ≤ 3 * (e : Int) := by
  obtain ⟨s, es, fs, s1, s2⟩ := addL hE he ha hb (by omega) (by omega)
  obtain ⟨x, ex, fx, x1, x2⟩ := subL hE he fs ha (by omega) (by omega)
  obtain ⟨t, et, ft, t1, t2⟩ := subL hE he hb fx (by omega) (by omega)
  refine ⟨s, t, ?_, fs, ft, ⟨by omega, by omega⟩, by omega, by omega⟩
  unfold fastF
  simp only [es, ex, et, Option.bind_some]

omit hE he in
theorem cancel {X : Int} {c u : Nat} (hu : 0 < u) (h : (X * (u : Int)).natAbs ≤ c * u) : X.natAbs ≤ c := by
  rw [Int.natAbs_mul, Int.natAbs_natCast] at h
  exact Nat.le_of_mul_le_mul_right h hu

theorem halves_V {a : Nat} (ha : Fi a) (h : (V a).natAbs ≤ 33554432 * e) :
    ∃ s t, halvesF a = some (s, t) ∧ Fi s ∧ Fi t ∧ (-(2 * (e : Int)) ≤ V s - V a ∧ V s - V a ≤ 2 * (e : Int)) ∧ -(3 * (e : Int)) ≤ V t ∧ V t ≤ 3 * (e : Int) := by
  have fk : Fi 4728779608772575232 := ⟨by decide, by decide⟩
  have hk : (V 4728779608772575232 * V a).natAbs = 134217729 * (V a).natAbs * 2 ^ ku := by
    rw [V_kk, Int.natAbs_mul, Int.natAbs_mul, Int.natAbs_natCast, Nat.mul_assoc, Nat.mul_assoc, Nat.mul_comm (2 ^ ku)]; rfl
  obtain ⟨c, ec, fc, hc⟩ := mulL hE he fk ha (by
    rw [hk, ← Nat.mul_assoc]
    exact Nat.mul_le_mul_right _ (by omega))
  have hc' : (V c - 134217729 * V a).natAbs ≤ e := by
    refine cancel (Nat.two_pow_pos ku) ?_
    rw [Int.sub_mul, Int.mul_assoc, Int.mul_comm (V a), ← Int.mul_assoc, ← V_kk]
    exact hc
  clear hc hk
  have a1 : -(33554432 * (e : Int)) ≤ V a := by omega
  have a2 : V a ≤ 33554432 * (e : Int) := by omega
  have c1 : -(e : Int) ≤ V c - 134217729 * V a := by omega
  have c2 : V c - 134217729 * V a ≤ e := by omega
  clear hc' h
  obtain ⟨q, eq, fq, q1, q2⟩ := subL hE he fc ha (by omega) (by omega)
  obtain ⟨s, es, fs, s1, s2⟩ := subL hE he fc fq (by omega) (by omega)
  obtain ⟨t, et, ft, t1, t2⟩ := subL hE he ha fs (by omega) (by omega)
  refine ⟨s, t, ?_, fs, ft, ⟨by omega, by omega⟩, by omega, by omega⟩
  unfold halvesF
  simp only [ec, eq, es, et, Option.bind_some]
end

/-- 2^-25, in these units, is two to this. -/
def kv : Nat := 1049
theorem mulB {A B : Int} {α β x y : Nat} (ha : A.natAbs ≤ α * x) (hb : B.natAbs ≤ β * y) : (A * B).natAbs ≤ α * β * (x * y) := by
  rw [Int.natAbs_mul]
  refine Nat.le_trans (Nat.mul_le_mul ha hb) (Nat.le_of_eq ?_)
  rw [Nat.mul_assoc, Nat.mul_assoc, ← Nat.mul_assoc x, Nat.mul_comm x, Nat.mul_assoc]

/-- What is lost of a product, as it is reckoned: P1, P2: the products times 2^ku. -/
theorem prod_num {H K H' M' P1 P2 : Int} {w : Nat} (b0 : (P1 - H * K).natAbs ≤ 33554432 * w) (b1 : (P2 - H' * M').natAbs ≤ 33554432 * w)
    (b2 : ((H' - H) * M').natAbs ≤ 16777216 * 33554434 * w) (b3 : (H * (M' - K)).natAbs ≤ 281474976710656 * 2 * w) : (P1 - P2).natAbs ≤ 33554435 * (33554432 * w) := by
  have e : H' * M' - H * K = (H' - H) * M' + H * (M' - K) := by rw [Int.sub_mul, Int.mul_sub]; omega
  generalize H' * M' = X at *
  generalize H * K = Y at *
  generalize (H' - H) * M' = Z at *
  generalize H * (M' - K) = T at *
  omega
theorem two_sides {X : Int} {c : Nat} (h : X.natAbs ≤ c) : -(c : Int) ≤ X ∧ X ≤ c := by omega
theorem one_side {X : Int} {c : Nat} (h : -(c : Int) ≤ X) (h2 : X ≤ c) : X.natAbs ≤ c := by omega

theorem small {q A B : Nat} {e g u α β c : Nat} (hu : 0 < u) (hew : e * u = 33554432 * (e * g)) (hA : (V A).natAbs ≤ α * e) (hB : (V B).natAbs ≤ β * g) (hq : (V q * (u : Int) - V A * V B).natAbs ≤ e * u) (hc : α * β + 33554432 ≤ c * 33554432) : (V q).natAbs ≤ c * e := by
  refine cancel hu ?_
  rw [Nat.mul_assoc, hew]
  rw [hew] at hq
  have hAB := mulB hA hB
  have h9 : (α * β + 33554432) * (e * g) ≤ c * 33554432 * (e * g) := Nat.mul_le_mul_right _ hc
  rw [Nat.add_mul, Nat.mul_assoc c] at h9
  generalize V q * (u : Int) = P at *
  generalize V A * V B = Q at *
  generalize α * β * (e * g) = R at *
  generalize c * (33554432 * (e * g)) = S at *
  generalize e * g = w at *
  omega
theorem room {A B : Nat} {e g u α β : Nat} (hew : e * u = 33554432 * (e * g)) (hA : (V A).natAbs ≤ α * e) (hB : (V B).natAbs ≤ β * g) (hc : α * β ≤ 9007199254740992 * 33554432) : (V A * V B).natAbs ≤ 9007199254740992 * (e * u) := by
  rw [hew, ← Nat.mul_assoc]
  exact Nat.le_trans (mulB hA hB) (Nat.mul_le_mul_right _ hc)
theorem by_one {p a k : Nat} {e u : Nat} (hu : 0 < u) (h1 : (V k).natAbs ≤ u) (b0 : (V p * (u : Int) - V a * V k).natAbs ≤ e * u) : (V p).natAbs ≤ (V a).natAbs + e := by
  refine cancel hu ?_
  have q1 : (V a * V k).natAbs ≤ (V a).natAbs * u := by rw [Int.natAbs_mul]; exact Nat.mul_le_mul_left _ h1
  rw [Nat.add_mul]
  generalize V p * (u : Int) = P at *
  generalize V a * V k = Q at *
  generalize (V a).natAbs * u = R at *
  generalize e * u = S at *
  omega

/-- The first halves: what p and the product of the halves differ. -/
theorem halves_diff {a k hh m p x0 e g u : Nat} (hu : 0 < u) (hew : e * u = 33554432 * (e * g)) (h : (V a).natAbs ≤ 281474976710656 * e) (hM' : (V m).natAbs ≤ 33554434 * g) (d1 : (V hh - V a).natAbs ≤ 16777216 * e) (d2 : (V m - V k).natAbs ≤ 2 * g)
    (b0 : (V p * (u : Int) - V a * V k).natAbs ≤ e * u) (b1 : (V x0 * (u : Int) - V hh * V m).natAbs ≤ e * u) : (V p - V x0).natAbs ≤ 33554435 * e := by
  refine cancel hu ?_
  rw [Int.sub_mul, Nat.mul_assoc, hew]
  rw [hew] at b0 b1
  exact prod_num b0 b1 (mulB d1 hM') (mulB h d2)

set_option maxHeartbeats 2000000 in
theorem prod_V {E e : Nat} (hE : E ≤ 2000) (he : 2 ^ E = e) {a k : Nat} (ha : Fi a) (hk : Fi k) (h : (V a).natAbs ≤ 281474976710656 * e) (h1 : (V k).natAbs ≤ 2 ^ ku) :
    ∃ p t, prodF a k = some (p, t) ∧ Fi p ∧ Fi t ∧ (V p).natAbs ≤ (V a).natAbs + e ∧ (V t).natAbs ≤ 268435456 * e := by
  have hE0 : E ≤ 2030 := by omega
  have hu : 2 ^ ku = 33554432 * 2 ^ kv := by
    rw [show (33554432 : Nat) = 2 ^ 25 from rfl, ← Nat.pow_add]
    exact congrArg (fun n => 2 ^ n) (show ku = 25 + kv from rfl)
  have hup := Nat.two_pow_pos ku
  have h23 : 2 ^ (23 + E) = 8388608 * e := by rw [Nat.pow_add, he]
  obtain ⟨hh, l, e1, fh, fl, ⟨a1, a2⟩, a3, a4⟩ := halves_V (E := 23 + E) (by omega) h23 ha (by rw [← Nat.mul_assoc]; exact h)
  obtain ⟨m, n, e2, fm, fn, ⟨a5, a6⟩, a7, a8⟩ := halves_V (E := kv) (by decide) rfl hk (by rw [← hu]; exact h1)
  generalize hg : 2 ^ kv = g at *
  have hew : e * 2 ^ ku = 33554432 * (e * g) := by rw [hu, Nat.mul_left_comm]
  have d1 : (V hh - V a).natAbs ≤ 16777216 * e := one_side (by omega) (by omega)
  have d2 : (V m - V k).natAbs ≤ 2 * g := one_side (by omega) (by omega)
  have hl : (V l).natAbs ≤ 25165824 * e := one_side (by omega) (by omega)
  have hn : (V n).natAbs ≤ 3 * g := one_side (by omega) (by omega)
  have hH' : (V hh).natAbs ≤ 281475010265088 * e := by clear a1 a2 a3 a4 a5 a6 a7 a8 d2 hl hn; omega
  have hM' : (V m).natAbs ≤ 33554434 * g := by clear a1 a2 a3 a4 a5 a6 a7 a8 d1 hl hn hH'; omega
  have h1' : (V k).natAbs ≤ 33554432 * g := by rw [← hu]; exact h1
  clear a1 a2 a3 a4 a5 a6 a7 a8
  obtain ⟨p, e3, fp, b0⟩ := mulL hE0 he ha hk (room hew h h1' (by decide))
  obtain ⟨x0, e4, f4, b1⟩ := mulL hE0 he fh fm (room hew hH' hM' (by decide))
  obtain ⟨y0, e6, f6, b6⟩ := mulL hE0 he fl fm (room hew hl hM' (by decide))
  obtain ⟨z0, e8, f8, b8⟩ := mulL hE0 he fh fn (room hew hH' hn (by decide))
  obtain ⟨u0, e10, f10, b10⟩ := mulL hE0 he fl fn (room hew hl hn (by decide))
  have g0 := two_sides (halves_diff hup hew h hM' d1 d2 b0 b1)
  have g1 := two_sides (small (c := 25165828) hup hew hl hM' b6 (by decide))
  have g2 := two_sides (small (c := 25165828) hup hew hH' hn b8 (by decide))
  have g3 := two_sides (small (c := 4) hup hew hl hn b10 (by decide))
  have hp := by_one hup h1 b0
  clear b0 b1 b6 b8 b10 h1' hM' hH' hn hl d1 d2 h1 hew
  have hp2 := two_sides hp
  have h0 := two_sides h
  obtain ⟨x, e5, f5, x1, x2⟩ := subL hE0 he fp f4 (by omega) (by omega)
  obtain ⟨y, e7, f7, y1, y2⟩ := subL hE0 he f5 f6 (by omega) (by omega)
  obtain ⟨z, e9, f9, z1, z2⟩ := subL hE0 he f7 f8 (by omega) (by omega)
  obtain ⟨t, e11, f11, t1, t2⟩ := subL hE0 he f10 f9 (by omega) (by omega)
  refine ⟨p, t, ?_, fp, f11, hp, one_side (by omega) (by omega)⟩
  unfold prodF
  simp only [e1, e2, e3, e4, e5, e6, e7, e8, e9, e10, e11, Option.bind_some]

theorem V_0 : V 0 = 0 := by decide
theorem fi_0 : Fi 0 := ⟨by decide, by decide⟩

theorem addF_V {E e : Nat} (hE : E ≤ 2000) (he : 2 ^ E = e) {a b x : Nat} (ha : Fi a) (hb : Fi b) (hx : Fi x) {A B X : Int} (a1 : -A ≤ V a) (a2 : V a ≤ A) (b1 : -B ≤ V b) (b2 : V b ≤ B) (x1 : -X ≤ V x) (x2 : V x ≤ X) (h : A + B + X ≤ 1125899906842624 * (e : Int)) :
    ∃ s t, addF a b x 0 = some (s, t) ∧ Fi s ∧ Fi t ∧ (-(A + B + X + 64 * (e : Int)) ≤ V s ∧ V s ≤ A + B + X + 64 * (e : Int)) ∧ -(3 * (e : Int)) ≤ V t ∧ V t ≤ 3 * (e : Int) := by
  have hE0 : E ≤ 2030 := by omega
  have hpos : (0 : Int) < e := by have := Nat.two_pow_pos E; omega
  have hA : 0 ≤ A := by omega
  have hB : 0 ≤ B := by omega
  have hX : 0 ≤ X := by omega
  obtain ⟨s, t, e1, f1, f2, ⟨s1, s2⟩, t1, t2⟩ := two_V hE0 he ha hx a1 a2 x1 x2 (by omega)
  obtain ⟨u, v, e2, f3, f4, ⟨u1, u2⟩, v1, v2⟩ := two_V hE0 he hb fi_0 b1 b2 (B := 0) (by rw [V_0]; decide) (by rw [V_0]; decide) (by omega)
  rw [V_0] at u1 u2
  obtain ⟨w, e3, f5, w1, w2⟩ := addL hE0 he f2 f3 (by omega) (by omega)
  obtain ⟨q, r, e4, f6, f7, ⟨q1, q2⟩, r1, r2⟩ := fast_V hE0 he f1 f5 (A := A + X + e) (B := B + 9 * e) (by omega) (by omega) (by omega) (by omega) (by omega)
  obtain ⟨z, e5, f8, z1, z2⟩ := addL hE0 he f4 f7 (by omega) (by omega)
  obtain ⟨g, o, e6, f9, f10, ⟨g1, g2⟩, o1, o2⟩ := fast_V hE0 he f6 f8 (A := A + X + B + 11 * e) (B := 11 * e) (by omega) (by omega) (by omega) (by omega) (by omega)
  refine ⟨g, o, ?_, f9, f10, ⟨by omega, by omega⟩, o1, o2⟩
  unfold addF
  simp only [e1, e2, e3, e4, e5, e6, Option.bind_some]

theorem timesF_V {E e : Nat} (hE : E ≤ 2000) (he : 2 ^ E = e) {a b k : Nat} (ha : Fi a) (hb : Fi b) (hk : Fi k) {A B : Int} (a1 : -A ≤ V a) (a2 : V a ≤ A) (b1 : -B ≤ V b) (b2 : V b ≤ B) (h : A + B ≤ 281474976710656 * (e : Int)) (h1 : (V k).natAbs ≤ 2 ^ ku) :
    ∃ s t, timesF a b k = some (s, t) ∧ Fi s ∧ Fi t ∧ (-(A + B + 4294967296 * (e : Int)) ≤ V s ∧ V s ≤ A + B + 4294967296 * (e : Int)) ∧ -(3 * (e : Int)) ≤ V t ∧ V t ≤ 3 * (e : Int) := by
  have hE0 : E ≤ 2030 := by omega
  have hpos : (0 : Int) < e := by have := Nat.two_pow_pos E; omega
  have hA : 0 ≤ A := by omega
  have hB : 0 ≤ B := by omega
  obtain ⟨p, t0, e1, f1, f2, c1, c2⟩ := prod_V hE he ha hk (by omega) h1
  have hbk : (V b).natAbs ≤ 281474976710656 * e := by omega
  obtain ⟨f, e2, f3, b3⟩ := mulL hE0 he hb hk (by
    rw [Int.natAbs_mul, ← Nat.mul_assoc]
    exact Nat.mul_le_mul (Nat.le_trans hbk (Nat.mul_le_mul_right _ (by decide))) h1)
  have c3 := by_one (Nat.two_pow_pos ku) h1 b3
  clear b3 hbk h1
  have p1 : -(A + e) ≤ V p ∧ V p ≤ A + e := by clear c2 c3; omega
  have t1 := two_sides c2
  have q1 : -(B + e) ≤ V f ∧ V f ≤ B + e := by clear c1 c2; omega
  clear c1 c2 c3
  obtain ⟨q, r, e3, f4, f5, ⟨q3, q4⟩, r1, r2⟩ := fast_V hE0 he f1 f3 p1.1 p1.2 q1.1 q1.2 (by omega)
  obtain ⟨g, e4, f6, g1, g2⟩ := addL hE0 he f5 f2 (by omega) (by omega)
  obtain ⟨s, t, e5, f7, f8, ⟨s1, s2⟩, t3, t4⟩ := fast_V hE0 he f4 f6 q3 q4 (B := 268435460 * e) (by omega) (by omega) (by omega)
  refine ⟨s, t, ?_, f7, f8, ⟨by omega, by omega⟩, t3, t4⟩
  unfold timesF
  simp only [e1, e2, e3, e4, e5, Option.bind_some]

/-- floats added to a pair, one by one; a polynomial. -/
def sumF : Nat × Nat → List Nat → Option (Nat × Nat)
  | q, [] => some q
  | q, x :: l => (addF q.1 q.2 x 0).bind fun r => sumF r l
def polyF (k : Nat) : Nat × Nat → List Nat → Option (Nat × Nat)
  | q, [] => some q
  | q, x :: l => (timesF q.1 q.2 k).bind fun p => (addF p.1 p.2 x 0).bind fun r => polyF k r l

theorem poly_all {E e : Nat} (hE : E ≤ 2000) (he : 2 ^ E = e) {k : Nat} (hk : Fi k) (hk1 : (V k).natAbs ≤ 2 ^ ku) : ∀ (l : List Nat) (q : Nat × Nat) (i : Nat), (∀ x ∈ l, Fi x ∧ (V x).natAbs ≤ 137438953472 * e) → i + l.length ≤ 1024 → Fi q.1 → Fi q.2 → (V q.1).natAbs ≤ i * (146028888064 * e) → (V q.2).natAbs ≤ 3 * e →
    (∃ s t, sumF q l = some (s, t) ∧ Fi s ∧ Fi t) ∧ ∃ s t, polyF k q l = some (s, t) ∧ Fi s ∧ Fi t
  | [], q, i, _, _, h1, h2, _, _ => ⟨⟨q.1, q.2, rfl, h1, h2⟩, q.1, q.2, rfl, h1, h2⟩
  | x :: l, q, i, hx, hi, h1, h2, h3, h4 => by
    have hpos := Nat.two_pow_pos E
    rw [he] at hpos
    have hx0 := hx x (List.mem_cons_self ..)
    simp only [List.length_cons] at hi
    have hib : i * (146028888064 * e) ≤ 1024 * (146028888064 * e) := Nat.mul_le_mul_right _ (by omega)
    have hn : (i + 1) * (146028888064 * e) = i * (146028888064 * e) + 146028888064 * e := by rw [Nat.add_mul, Nat.one_mul]
    generalize i * (146028888064 * e) = J at *
    have a0 := two_sides h3
    have b0 := two_sides h4
    have x0 := two_sides hx0.2
    obtain ⟨s, t, e1, f1, f2, ⟨s1, s2⟩, t1, t2⟩ := addF_V hE he h1 h2 hx0.1 a0.1 a0.2 b0.1 b0.2 x0.1 x0.2 (by omega)
    obtain ⟨u, v, e2, f3, f4, ⟨u1, u2⟩, v1, v2⟩ := timesF_V hE he h1 h2 hk a0.1 a0.2 b0.1 b0.2 (by omega) hk1
    obtain ⟨o, r, e3, f5, f6, ⟨o1, o2⟩, r1, r2⟩ := addF_V hE he f3 f4 hx0.1 u1 u2 (B := 3 * e) v1 v2 x0.1 x0.2 (by omega)
    have k1 : (V s).natAbs ≤ (i + 1) * (146028888064 * e) := by rw [hn]; clear a0 b0 x0 u1 u2 v1 v2 o1 o2 r1 r2 t1 t2; omega
    have k2 : (V t).natAbs ≤ 3 * e := by clear a0 b0 x0 u1 u2 v1 v2 o1 o2 r1 r2 s1 s2; omega
    have k3 : (V o).natAbs ≤ (i + 1) * (146028888064 * e) := by rw [hn]; clear a0 b0 x0 u1 u2 v1 v2 s1 s2 r1 r2 t1 t2; omega
    have k4 : (V r).natAbs ≤ 3 * e := by clear a0 b0 x0 u1 u2 v1 v2 o1 o2 t1 t2 s1 s2; omega
    obtain ⟨⟨s', t', e', f'⟩, -⟩ := poly_all hE he hk hk1 l (s, t) (i + 1) (fun y hy => hx y (List.mem_cons_of_mem _ hy)) (by omega) f1 f2 k1 k2
    obtain ⟨-, o', r', g', h'⟩ := poly_all hE he hk hk1 l (o, r) (i + 1) (fun y hy => hx y (List.mem_cons_of_mem _ hy)) (by omega) f5 f6 k3 k4
    exact ⟨⟨s', t', by unfold sumF; rw [e1]; exact e', f'⟩, o', r', by unfold polyF; rw [e2]; show (addF u v x 0).bind _ = _; rw [e3]; exact g', h'⟩
end Go.Proofs.Yteaghcchalfgmaa.Nm
