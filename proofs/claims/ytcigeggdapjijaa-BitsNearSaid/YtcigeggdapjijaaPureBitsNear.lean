/- For any words the law BitsNear answers true. -/
import Derived.Test.YtcigeggdapjijaaRef
namespace Go.Proofs.Ytcigeggdapjijaa.Pure
open Go.RowKit Go.Proofs.Ytcigeggdapjijaa.PAll Go.Proofs.YtcigeggdapjijaaW.PrintWords Go.Proofs.YtcigeggdapjijaaW.PrintLast Go.Proofs.YtcigeggdapjijaaW.PrintMore
set_option linter.unusedVariables false
set_option linter.unusedSimpArgs false

theorem down_up {x : Int} (hx : W64 x) (n : isNum x) (h1 : x ≠ 9218868437227405312) (h2 : x ≠ 9223372036854775809) (h3 : x % 9223372036854775808 ≠ 0) : down (up x) = x := by
  have h0 := hx.1; have h1 := hx.2
  have n' : x % 9223372036854775808 ≤ 9218868437227405312 := n
  unfold up; rw [if_pos n, if_neg (by assumption), if_neg h3]
  by_cases c : x < 9223372036854775808
  · rw [if_pos c]
    have m : isNum (x + 1) := by unfold isNum; omega
    unfold down; rw [if_pos m, if_neg (by omega), if_neg (by omega), if_pos (by omega)]; omega
  · rw [if_neg c]
    have m : isNum (x - 1) := by unfold isNum; omega
    unfold down; rw [if_pos m, if_neg (by omega), if_neg (by omega), if_neg (by omega)]; omega
theorem BitsNear : ulplaw01_BitsNear.Pure := by
  intro x y hx hy
  replace hx := w64_of hx; replace hy := w64_of hy
  refine ⟨10, ?_⟩
  have h0 := hx.1; have h1 := hx.2
  have b := ex_bd hx; have c := fr_bd hx
  unfold ulplaw01_BitsNear.f
  rw [class_eq (by decide) hx, lives_eq (by decide), neg_eq hx]
  simp only [Option.bind_some, if_true]
  rw [neg_eq (ng_w hx), abs_eq hx, abs_eq (ng_w hx)]
  simp only [Option.bind_some]
  have e1 : ng (ng x) = x := by unfold ng; (repeat' split) <;> omega
  have e2 : am (ng x) = am x := by unfold am ng; split <;> omega
  rw [if_pos e1, e2, bne_self_eq_false]
  simp only [ulplaw01_BitsNear.j0, Bool.false_eq_true, if_false]
  have ncls : isNum x ↔ (cls x ≠ 5 ∧ cls x ≠ 6) := by
    have hn : isNum x ↔ ex x < 2047 ∨ fr x = 0 := by unfold isNum ex fr; omega
    rw [hn]; unfold cls; (repeat' split) <;> omega
  have zcls : cls x = 3 ∨ cls x = 2 → x % 9223372036854775808 ≠ 0 ∧ x ≠ 9218868437227405312 := by
    intro h
    constructor
    · intro z
      have : x = 0 ∨ x = 9223372036854775808 := by omega
      rcases this with rfl | rfl <;> revert h <;> decide
    · rintro rfl; revert h; decide
  by_cases n : isNum x
  · have n' : x % 9223372036854775808 ≤ 9218868437227405312 := n
    have ⟨c5, c6⟩ := ncls.1 n
    rw [if_neg c5]
    have c6' : (cls x == 6) = false := by simpa using c6
    rw [c6']
    simp only [ulplaw01_BitsNear.j1, Bool.false_eq_true, if_false]
    rw [up_eq (by decide) hx, down_eq (by decide) hx, neg_eq hx]
    simp only [Option.bind_some]
    rw [up_eq (by decide) (ng_w hx)]; simp only [Option.bind_some]
    rw [neg_eq (up_w (ng_w hx))]; simp only [Option.bind_some]
    have e3 : down x = ng (up (ng x)) := by
      have m : isNum (ng x) := by unfold isNum ng; split <;> omega
      unfold down; rw [if_pos n]
      unfold up; rw [if_pos m]
      unfold ng
      by_cases c : x < 9223372036854775808 <;> simp only [c, if_true, if_false] <;> (repeat' split) <;> omega
    rw [if_pos e3]
    have tail : ∀ (r : Option Bool), r = some true → (if cls x = 3 then (if x = 9223372036854775809 then some true else r) else if cls x = 2 then (if x = 9223372036854775809 then some true else r) else some true) = some true := by
      intro r hr; (repeat' split) <;> first | rfl | exact hr
    have fin : (if cls x = 3 then (if x = 9223372036854775809 then some true else (bits_Down.f 8 (up x)).bind fun t347 => some (t347 == x)) else if cls x = 2 then (if x = 9223372036854775809 then some true else (bits_Down.f 8 (up x)).bind fun t347 => some (t347 == x)) else some true) = some true := by
      rw [down_eq (by decide) (up_w hx)]; simp only [Option.bind_some]
      by_cases p : x = 9223372036854775809
      · (repeat' split) <;> rfl
      · by_cases q : cls x = 3 ∨ cls x = 2
        · have ⟨z1, z2⟩ := zcls q
          rw [down_up hx n z2 p z1]; (repeat' split) <;> simp
        · rw [if_neg (fun h => q (.inl h)), if_neg (fun h => q (.inr h))]
    by_cases i : x = 9218868437227405312
    · rw [if_pos i]; exact fin
    · rw [if_neg i, less_eq hx (up_w hx), less_eq hx hy, less_eq hy (up_w hx)]
      simp only [Option.bind_some, decide_eq_true_eq]
      have n1 : isNum (up x) := by unfold isNum up; rw [if_pos n, if_neg i]; (repeat' split) <;> omega
      have e : pl (up x) = pl x + 1 := by
        unfold pl up; rw [if_pos n, if_neg i]; (repeat' split) <;> omega
      rw [if_pos ⟨n, n1, by omega⟩]
      by_cases m : isNum x ∧ isNum y ∧ pl x < pl y
      · rw [if_pos m, if_neg (by rintro ⟨_, _, h⟩; omega)]; exact fin
      · rw [if_neg m]; exact fin
  · have d : up x = x := by unfold up; rw [if_neg n]
    have d2 : down x = x := by unfold down; rw [if_neg n]
    have j : ulplaw01_BitsNear.j1 9 x y (cls x) true = some true := by
      simp only [ulplaw01_BitsNear.j1, if_true]
      rw [up_eq (by decide) hx, down_eq (by decide) hx, less_eq hx hy, less_eq hy hx]
      simp [d, d2, n]
    by_cases c5 : cls x = 5
    · rw [if_pos c5]; exact j
    · rw [if_neg c5]
      have c6 : cls x = 6 := by
        by_cases h : cls x = 6
        · exact h
        · exact absurd (ncls.2 ⟨c5, h⟩) n
      have : (cls x == 6) = true := by simpa using c6
      rw [this]; exact j

end Go.Proofs.Ytcigeggdapjijaa.Pure
