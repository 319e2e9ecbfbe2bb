/- For any words the law BitsWhole answers true. -/
import Derived.Test.YtcigeggdapjijaaRef
namespace Go.Proofs.Ytcigeggdapjijaa.Pure
open Go.RowKit Go.Proofs.Ytcigeggdapjijaa.PAll Go.Proofs.YtcigeggdapjijaaW.PrintWords Go.Proofs.YtcigeggdapjijaaW.PrintLast Go.Proofs.YtcigeggdapjijaaW.PrintMore
set_option linter.unusedVariables false
set_option linter.unusedSimpArgs false

theorem ng_fields {x : Int} (hx : W64 x) : ex (ng x) = ex x ∧ fr (ng x) = fr x := by
  have h0 := hx.1; have h1 := hx.2
  unfold ex fr ng; split <;> omega
theorem whole_ng {x : Int} (hx : W64 x) : whole (ng x) = whole x := by
  have ⟨a, b⟩ := ng_fields hx
  unfold whole; simp only [isFin_iff hx, isFin_iff (ng_w hx), mant, expo, a, b]
theorem odd_ng {x : Int} (hx : W64 x) : odd (ng x) = odd x := by
  have ⟨a, b⟩ := ng_fields hx
  unfold odd; rw [whole_ng hx]; have m : mant (ng x) = mant x := by unfold mant; rw [a, b]
  have e : expo (ng x) = expo x := by unfold expo; rw [a]
  rw [m, e]
theorem bind_s {α β : Type} (a : α) (f : α → Option β) : (some a).bind f = f a := by simp
theorem j0_fin {x : Int} (hx : W64 x) (wt : expo x ≥ 0 → whole x = true) (oz : expo x > 0 → odd x = false) (ow : odd x = true → whole x = true) (oe : expo x = 0 → odd x = (x % 2 == 1)) :
    ulplaw01_BitsWhole.j0 10 x (expo x) 0 false = some true := by
  have h0 := hx.1
  simp only [ulplaw01_BitsWhole.j0, Bool.false_eq_true, if_false, if_true]
  rw [whole_eq hx, odd_eq hx, neg_eq hx]; simp only [bind_s]
  rw [whole_eq (ng_w hx), odd_eq (ng_w hx)]; simp only [bind_s]
  rw [whole_ng hx, odd_ng hx, tmodE h0]
  generalize (x % 2 == 1) = q at *
  generalize whole x = w at *
  generalize odd x = o at *
  generalize expo x = e at *
  clear hx h0
  by_cases p : e ≥ 0
  · have hw := wt p; subst hw
    by_cases q : e > 0
    · have r : ¬ e = 0 := by omega
      have ho := oz q; subst ho
      simp only [if_pos p, if_pos q, if_neg r]; rfl
    · have r : e = 0 := by omega
      have ho := oe r; subst ho
      subst r
      cases o <;> rfl
  · have q : ¬ e > 0 := by omega
    have r : ¬ e = 0 := by omega
    simp only [if_neg p, if_neg q, if_neg r]
    cases o
    · cases w <;> rfl
    · have hw := ow rfl; subst hw; rfl
theorem BitsWhole : ulplaw01_BitsWhole.Pure := by
  intro x hx
  replace hx := w64_of hx
  refine ⟨10, ?_⟩
  have h0 := hx.1; have h1 := hx.2
  have b := ex_bd hx; have c := fr_bd hx
  unfold ulplaw01_BitsWhole.f
  rw [last_eq hx, lives_eq (by decide), isNumber_eq (by decide) hx, class_eq (by decide) hx]
  simp only [Option.bind_some, if_true, decide_eq_true_eq]
  have hf := isFin_iff hx
  by_cases f : isFin x
  · have e := hf.1 f
    have n : isNum x := by unfold isNum; unfold isFin at f; omega
    have c4 : cls x ≠ 4 := by unfold cls; (repeat' split) <;> omega
    have l : last x = (expo x, 0) := by
      unfold last expo; rw [if_pos f]; (repeat' split) <;> first | rfl | omega
    rw [if_pos n, l]
    have c4' : ((((expo x, (0 : Int)) : Int × Int).2 == 0) != (cls x != 4)) = false := by simp [c4]
    rw [c4']
    have wt : expo x ≥ 0 → whole x = true := by
      intro h; unfold whole; simp [f, h]
    have oz : expo x > 0 → odd x = false := by
      intro h; unfold odd; simp; intro _ h2; omega
    have ow : odd x = true → whole x = true := by
      intro h; unfold odd at h; simp at h; exact h.1
    have oe : expo x = 0 → odd x = (x % 2 == 1) := by
      intro h; unfold odd; rw [wt (by omega), h]
      rw [Bool.eq_iff_iff]; simp
      unfold expo at h; unfold mant
      split at h
      · omega
      · rename_i hz; rw [if_neg hz]; unfold fr; omega
    exact j0_fin hx wt oz ow oe
  · have e : ex x = 2047 := by
      have : ¬ ex x < 2047 := fun h => f (hf.2 h)
      omega
    have l : last x = (0, 5) := by unfold last; rw [if_neg f]
    have w : whole x = false := by unfold whole; simp [f]
    have o : odd x = false := by unfold odd; simp [w]
    rw [l]
    have fin : ulplaw01_BitsWhole.j0 10 x 0 5 false = some true := by
      simp only [ulplaw01_BitsWhole.j0, Bool.false_eq_true, if_false]
      rw [whole_eq hx, odd_eq hx]; simp [w, o]
    by_cases n : isNum x
    · have z : fr x = 0 := by
        have : ¬ x % 9223372036854775808 < 9218868437227405312 := f
        have n' : x % 9223372036854775808 ≤ 9218868437227405312 := n
        unfold fr; omega
      have c4 : cls x = 4 := by unfold cls; (repeat' split) <;> omega
      rw [if_pos n, c4]; exact fin
    · rw [if_neg n]; exact fin

end Go.Proofs.Ytcigeggdapjijaa.Pure
