/- For any words and fields the laws BitsSplits and BitsBack answer true. -/
import Derived.Test.YtcigeggdapjijaaRef
namespace Go.Proofs.Ytcigeggdapjijaa.Pure
open Go.RowKit Go.Proofs.Ytcigeggdapjijaa.PAll Go.Proofs.YtcigeggdapjijaaW.PrintWords Go.Proofs.YtcigeggdapjijaaW.PrintLast Go.Proofs.YtcigeggdapjijaaW.PrintMore
set_option linter.unusedVariables false
set_option linter.unusedSimpArgs false

def ulplaw01_BitsSplits.Pure : Prop := ∀ (a0 : Int) (a1_0 : Bool) (a1_1 a1_2 : Int), (Lit.int .u64 a0).wf = true → (Lit.int .i64 a1_1).wf = true → (Lit.int .u64 a1_2).wf = true → ∃ k, ulplaw01_BitsSplits.f k a0 a1_0 a1_1 a1_2 = some true
theorem join_eq {k : Nat} {s : Bool} {e m : Int} (hk : 1 ≤ k) (hm : W64 m) : bits_Join.f k s e m = some (if e < 0 ∨ e > 2047 ∨ m > 4503599627370495 then (0, 2) else (e * 4503599627370496 + m + (if s = true then 9223372036854775808 else 0), 0)) := by
  obtain ⟨k, rfl⟩ : ∃ m, k = m + 1 := ⟨k - 1, by omega⟩
  have h0 := hm.1; have h1 := hm.2
  unfold bits_Join.f; simp only [bits_Join.j0]
  by_cases a : e < 0
  · simp [a]
  · rw [if_neg a]
    by_cases b : e > 2047
    · simp [b]
    · rw [if_neg b]
      by_cases c : m > 4503599627370495
      · simp [c]
      · rw [if_neg (c := decide (m > 4503599627370495) = true) (by simpa using c), if_neg (c := e < 0 ∨ e > 2047 ∨ m > 4503599627370495) (by omega)]
        have e1 : IntKind.u64.wrap (IntKind.u64.wrap e * 4503599627370496) = e * 4503599627370496 := by
          rw [wrapU (x := e) (by omega) (by omega), wrapU (by omega) (by omega)]
        have p : ((2 ^ 52 : Nat) : Int) = 4503599627370496 := by decide
        rw [e1, or_join 52 (by omega) (by omega) (by rw [p]; omega) h0 h1 (by rw [p]; omega), or_sign (by omega) (by omega)]
        cases s <;> simp
theorem rjoin_eq {k : Nat} {s : Bool} {e m : Int} (hk : 1 ≤ k) (hm : W64 m) : ulpref01_Join.f k s e m = some (if e < 0 ∨ e > 2047 ∨ m > 4503599627370495 then (0, 2) else (e * 4503599627370496 + m + (if s = true then 9223372036854775808 else 0), 0)) := by
  obtain ⟨k, rfl⟩ : ∃ m, k = m + 1 := ⟨k - 1, by omega⟩
  have h0 := hm.1; have h1 := hm.2
  unfold ulpref01_Join.f; simp only [ulpref01_Join.j0]
  by_cases a : e < 0
  · simp [a]
  · rw [if_neg a]
    by_cases b : e > 2047
    · simp [b]
    · rw [if_neg b]
      by_cases c : m > 4503599627370495
      · have c' : m ≥ 4503599627370496 := by omega
        simp [c, c']
      · have c' : ¬ m ≥ 4503599627370496 := by omega
        rw [if_neg (c := decide (m ≥ 4503599627370496) = true) (by simpa using c'), if_neg (c := e < 0 ∨ e > 2047 ∨ m > 4503599627370495) (by omega)]
        have e1 : IntKind.u64.wrap (IntKind.u64.wrap e * 4503599627370496) = e * 4503599627370496 := by
          rw [wrapU (x := e) (by omega) (by omega), wrapU (by omega) (by omega)]
        rw [e1, wrapU (x := e * 4503599627370496 + m) (by omega) (by omega), wrapU (by omega) (by omega)]
        cases s <;> simp
theorem rclass_eq {k : Nat} {x : Int} (hk : 1 ≤ k) (hx : W64 x) : ulpref01_Class.f k x = some (cls x) := by
  obtain ⟨k, rfl⟩ : ∃ m, k = m + 1 := ⟨k - 1, by omega⟩
  have h0 := hx.1; have h1 := hx.2
  have b := ex_bd hx; have c := fr_bd hx
  have e1 : Int.tmod (IntKind.u64.wrap (Int.tdiv x 4503599627370496)) 2048 = ex x := by
    unfold ex; rw [tdivE hx.1, wrapU (by omega) (by omega), tmodE (by omega)]
  have e2 : Int.tmod x 4503599627370496 = fr x := by unfold fr; rw [tmodE h0]
  unfold ulpref01_Class.f cls; simp only [ulpref01_Class.j0]; rw [e1, e2]
  by_cases z : ex x = 0
  · rw [if_pos z, if_pos z]
    by_cases f : fr x = 0
    · simp [f, z]
    · rw [if_neg (by simpa using f), if_pos z, if_neg f]
  · rw [if_neg z, if_neg z]; simp only [Bool.false_eq_true, if_false, z]
    (repeat' split) <;> rfl
theorem BitsSplits : ulplaw01_BitsSplits.Pure := by
  intro x s e m hx he hm
  replace hx := w64_of hx; replace hm := w64_of hm
  refine ⟨10, ?_⟩
  unfold ulplaw01_BitsSplits.f
  rw [join_eq (by decide) hm, rjoin_eq (by decide) hm, lives_eq (by decide), class_eq (by decide) hx, rclass_eq (by decide) hx, split_eq hx, rsplit_eq hx]
  simp
def ulplaw01_BitsBack.Pure : Prop := ∀ (a0 : Int) (a1_0 : Bool) (a1_1 a1_2 : Int), (Lit.int .u64 a0).wf = true → (Lit.int .i64 a1_1).wf = true → (Lit.int .u64 a1_2).wf = true → ∃ k, ulplaw01_BitsBack.f k a0 a1_0 a1_1 a1_2 = some true
theorem BitsBack : ulplaw01_BitsBack.Pure := by
  intro x s e m hx he hm
  replace hx := w64_of hx; replace hm := w64_of hm
  refine ⟨10, ?_⟩
  have h0 := hx.1; have h1 := hx.2; have h2 := hm.1; have h3 := hm.2
  have b := ex_bd hx; have c := fr_bd hx
  unfold ulplaw01_BitsBack.f
  rw [split_eq hx]; simp only [Option.bind_some]
  rw [join_eq (by decide) (by unfold W64; omega), join_eq (by decide) hm, lives_eq (by decide)]
  simp only [Option.bind_some, if_true]
  rw [if_neg (c := ex x < 0 ∨ ex x > 2047 ∨ fr x > 4503599627370495) (by omega)]
  have e1 : ex x * 4503599627370496 + fr x + (if decide (9223372036854775808 ≤ x) = true then 9223372036854775808 else 0) = x := by
    unfold ex fr; simp only [decide_eq_true_eq]; split <;> omega
  rw [e1]
  simp only [if_true, bne_self_eq_false, ulplaw01_BitsBack.j0, Bool.false_eq_true, if_false]
  by_cases d : e < 0 ∨ e > 2047 ∨ m > 4503599627370495
  · rw [if_pos d]; rfl
  · rw [if_neg d]
    have w : W64 (e * 4503599627370496 + m + if s = true then 9223372036854775808 else 0) := by
      unfold W64; split <;> omega
    simp only [if_true]
    rw [split_eq w]
    have f1 : ex (e * 4503599627370496 + m + if s = true then 9223372036854775808 else 0) = e := by
      unfold ex; split <;> omega
    have f2 : fr (e * 4503599627370496 + m + if s = true then 9223372036854775808 else 0) = m := by
      unfold fr; split <;> omega
    rw [f1, f2]
    cases s <;> simp <;> omega

end Go.Proofs.Ytcigeggdapjijaa.Pure
