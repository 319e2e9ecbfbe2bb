/- Printed functions, merged by a program of this session. -/
import Derived.Test.YtemfckibdojbbaaDoorXDyadCutP0
import Derived.Test.YtemfckibdojbbaaDoorXDyadCutP3
import Derived.Laws.StructEq
import Derived.Test.YtemfckibdojbbaaDoorXDyadCutSh
namespace Go.Proofs.YtemfckibdojbbaaDoor.PAll
open Go.RowKit Go.Proofs.YtemfckibdojbbaaDoorW.PrintWords Go.Proofs.YtemfckibdojbbaaDoorW.PrintLast Go.Proofs.YtemfckibdojbbaaDoorW.PrintMore Go.Proofs.YtemfckibdojbbaaDoorW.PrintWords.Kd
attribute [local go_sem] max2_int min2_int max_two min_two max_three min_three max_four min_four   -- for this text's walks alone
set_option linter.unusedVariables false
set_option linter.unusedSimpArgs false
attribute [local go_sem] ext135 ext136
def limbs_Cmp.l0 : Nat → List Int → List Int → Int → Option (Int)
 | 0, _, _, _ => none
 | k + 1, x0, x1, x5 => if x5 ≥ 0 then (if 0 ≤ x5 then (if x5 < (x0.length : Int) then (if x5 < (x1.length : Int) then (if (rd x0 x5) = (rd x1 x5) then (limbs_Cmp.l0 k x0 x1 (wrap64 (x5 - 1))) else (if (rd x0 x5) < (rd x1 x5) then (some (-1)) else (some 1))) else (none)) else (none)) else (none)) else (some 0)
def limbs_Cmp.f (k : Nat) (l0 : List Int) (l1 : List Int) : Option (Int) := (limbs_Trim.f k l0).bind fun t199 => ((limbs_Trim.f k l1).bind fun t202 => (if (t199.length : Int) = (t202.length : Int) then (limbs_Cmp.l0 k t199 t202 (wrap64 ((t199.length : Int) - 1))) else (if (t199.length : Int) < (t202.length : Int) then (some (-1)) else (some 1))))
theorem limbs_Cmp.mono_l : ∀ k, (∀ y0 y1 y2, LeO (limbs_Cmp.l0 k y0 y1 y2) (limbs_Cmp.l0 (k + 1) y0 y1 y2))
 | 0 => fun _ _ _ r h => by simp [limbs_Cmp.l0] at h
 | k + 1 => by
  have ih0 := limbs_Cmp.mono_l k
  intro y0 y1 y2
  unfold limbs_Cmp.l0
  repeat' first
  | (with_reducible exact ih0 _ _ _)
  | (with_reducible exact limbs_Trim.mono _ _)
  | (with_reducible exact LeO.refl _)
  | (with_reducible exact LeO.none _)
  | (with_reducible refine LeO.ite ?_ ?_)
  | (with_reducible refine LeO.bind ?_ (fun _ => ?_))
  | exact ih0 _ _ _
  | exact limbs_Trim.mono _ _
  | exact LeO.none _
  | refine LeO.ite ?_ ?_
  | refine LeO.bind ?_ (fun _ => ?_)
theorem limbs_Cmp.mono : ∀ a0 a1 k, LeO (limbs_Cmp.f k a0 a1) (limbs_Cmp.f (k + 1) a0 a1) := by
 intro a0 a1 k
 have ih0 := limbs_Cmp.mono_l k
 unfold limbs_Cmp.f
 repeat' first
   | (with_reducible exact ih0 _ _ _)
   | (with_reducible exact limbs_Trim.mono _ _)
   | (with_reducible exact LeO.refl _)
   | (with_reducible exact LeO.none _)
   | (with_reducible refine LeO.ite ?_ ?_)
   | (with_reducible refine LeO.bind ?_ (fun _ => ?_))
   | exact ih0 _ _ _
   | exact limbs_Trim.mono _ _
   | exact LeO.none _
   | refine LeO.ite ?_ ?_
   | refine LeO.bind ?_ (fun _ => ?_)
set_option maxHeartbeats 8000000 in
set_option maxRecDepth 100000 in
theorem limbs_Cmp.calls (k : Nat) (A0 : Option Addr) (c0 : Nat) (l0 : List Int) (A1 : Option Addr) (c1 : Nat) (l1 : List Int) (r : Int) (w : World) (hr0 : Kd.C (Kd.int .u64) w A0 l0.length l0) (hc0 : l0.length ≤ c0) (hr1 : Kd.C (Kd.int .u64) w A1 l1.length l1) (hc1 : l1.length ≤ c1) (h : limbs_Cmp.f k l0 l1 = some r) :
  Calls Tryd.prog 114 #[.slice A0 l0.length c0, .slice A1 l1.length c1] w fun e w' => e = .returned (.int .i64 r) ∧ Below w.heap.size w w' := by
 have HR0 := zA hr0
 have HC0 := zA hc0
 clear hr0 hc0
 have HR1 := zA hr1
 have HC1 := zA hc1
 clear hr1 hc1
 have HB := zA (Below.refl w.heap.size w)
 have H : ((limbs_Trim.f k l0).bind fun t199 => ((limbs_Trim.f k l1).bind fun t202 => (if (t199.length : Int) = (t202.length : Int) then (limbs_Cmp.l0 k t199 t202 (wrap64 ((t199.length : Int) - 1))) else (if (t199.length : Int) < (t202.length : Int) then (some (-1)) else (some 1))))) = some r := h
 clear h
 obtain ⟨t199, A3, H⟩ := zh H
 obtain ⟨t202, A4, H⟩ := zh H
 by_cases c5 : (t199.length : Int) = (t202.length : Int)
 ·rw [if_pos c5] at H
  have c5b0 := beq_iff_eq.mpr c5
  have c5b1 := bne_eq_false_iff_eq.mpr c5
  have c5b2 : (t199.length == t202.length) = true := by first | simpa using c5 | (simp at c5 ⊢; omega)
  clear c5
  have H' := zA H
  clear H
  go_enter Tryd.func114, Tryd.ntmps114
  go_wp2_with (first | (go_at_call 122; (with_reducible refine (limbs_Trim.calls k (fun k_ => k_ < w.heap.size) _ _ l0 t199 _ ?side1 A3.out).mono ?_); (case side1 => exact V_mk HC0.out (Kd.F_below (C_F (Kd.heap_int .u64) HR0.out) bq)); rintro e w6 ⟨v200, rfl, ho0, hb⟩; have HO201 := zA (V_lower (V_mono (ok' := fun k_ => True) ho0 (fun k_ hk_ => trivial)) (below_size bq)); replace HB := ze hb; (try clear ho0)) | (go_at_call 122; (with_reducible refine (limbs_Trim.calls k (fun k_ => k_ < w.heap.size) _ _ l1 t202 _ ?side1 A4.out).mono ?_); (case side1 => exact V_mk HC1.out (Kd.F_below (C_F (Kd.heap_int .u64) HR1.out) bq)); rintro e w7 ⟨v203, rfl, ho0, hb⟩; replace HO201 := zA (V_below (vu HO201.out) hb); have HO204 := zA (V_lower (V_mono (ok' := fun k_ => True) ho0 (fun k_ hk_ => trivial)) (below_size bq)); replace HB := ze hb; (try clear ho0); obtain ⟨Ao8, co8, eo8⟩ := V_slice HO201.out; subst eo8; obtain ⟨Ao9, co9, eo9⟩ := V_slice HO204.out; subst eo9))
  repeat (go_quiet (first | (go_at_call 122; (with_reducible refine (limbs_Trim.calls k (fun k_ => k_ < w.heap.size) _ _ l0 t199 _ ?side1 A3.out).mono ?_); (case side1 => exact V_mk HC0.out (Kd.F_below (C_F (Kd.heap_int .u64) HR0.out) bq)); rintro e w6 ⟨v200, rfl, ho0, hb⟩; have HO201 := zA (V_lower (V_mono (ok' := fun k_ => True) ho0 (fun k_ hk_ => trivial)) (below_size bq)); replace HB := ze hb; (try clear ho0)) | (go_at_call 122; (with_reducible refine (limbs_Trim.calls k (fun k_ => k_ < w.heap.size) _ _ l1 t202 _ ?side1 A4.out).mono ?_); (case side1 => exact V_mk HC1.out (Kd.F_below (C_F (Kd.heap_int .u64) HR1.out) bq)); rintro e w7 ⟨v203, rfl, ho0, hb⟩; replace HO201 := zA (V_below (vu HO201.out) hb); have HO204 := zA (V_lower (V_mono (ok' := fun k_ => True) ho0 (fun k_ hk_ => trivial)) (below_size bq)); replace HB := ze hb; (try clear ho0); obtain ⟨Ao8, co8, eo8⟩ := V_slice HO201.out; subst eo8; obtain ⟨Ao9, co9, eo9⟩ := V_slice HO204.out; subst eo9)); try go_wp2_with (first | (go_at_call 122; (with_reducible refine (limbs_Trim.calls k (fun k_ => k_ < w.heap.size) _ _ l0 t199 _ ?side1 A3.out).mono ?_); (case side1 => exact V_mk HC0.out (Kd.F_below (C_F (Kd.heap_int .u64) HR0.out) bq)); rintro e w6 ⟨v200, rfl, ho0, hb⟩; have n0_ := zA (V_lower (V_mono (ok' := fun k_ => True) ho0 (fun k_ hk_ => trivial)) (below_size bq)); have n1_ := ze hb; clear HB; have HO201 := n0_; have HB := n1_; clear n0_ n1_; (try clear hb2); (try clear hk); (try clear hi); (try clear ho0)) | (go_at_call 122; (with_reducible refine (limbs_Trim.calls k (fun k_ => k_ < w.heap.size) _ _ l1 t202 _ ?side1 A4.out).mono ?_); (case side1 => exact V_mk HC1.out (Kd.F_below (C_F (Kd.heap_int .u64) HR1.out) bq)); rintro e w7 ⟨v203, rfl, ho0, hb⟩; have n0_ := zA (V_below (vu HO201.out) hb); have n1_ := zA (V_lower (V_mono (ok' := fun k_ => True) ho0 (fun k_ hk_ => trivial)) (below_size bq)); have n2_ := ze hb; clear HO201; clear HB; have HO201 := n0_; have HO204 := n1_; have HB := n2_; clear n0_ n1_ n2_; (try clear hb2); (try clear hk); (try clear hi); (try clear ho0); obtain ⟨Ao8, co8, eo8⟩ := V_slice HO201.out; subst eo8; obtain ⟨Ao9, co9, eo9⟩ := V_slice HO204.out; subst eo9)))
  go_loopg [5] k (fun kq v5 w' => ∃ (x5_1 : Int), v5 = .int .i64 x5_1 ∧ Aside0 (limbs_Cmp.l0 kq t199 t202 x5_1 = some r) ∧ Aside0 (kq ≤ k) ∧ Aside0 (Kd.V (Kd.int .u64) 43 w' w.heap.size (fun _ => True) (.slice Ao8 t199.length co8) t199) ∧ Aside0 (Kd.V (Kd.int .u64) 43 w' w.heap.size (fun _ => True) (.slice Ao9 t202.length co9) t202) ∧ Aside0 (Below w.heap.size w w'))
  case atStart => exact ⟨(wrap64 ((t199.length : Int) - 1)), zi, H', ⟨Nat.le_refl _⟩, ⟨vu HO201.out⟩, ⟨vu HO204.out⟩, ⟨bq⟩⟩
  case round =>
   clear H'
   try clear c1
   try clear c5
   try clear c5b0
   try clear c5b1
   try clear c5b2
   obtain ⟨x5_1, rfl, HA, HK1, HO_0, HO_1, HB⟩ := hrel
   cases gk with
   | zero => exact absurd HA.out (by simp [limbs_Cmp.l0])
   | succ k1 =>
    have H := HA.out
    clear HA
    simp only [limbs_Cmp.l0] at H
    by_cases c10 : x5_1 ≥ 0
    ·rw [if_pos c10] at H
     have c10b0 := decide_eq_true c10
     clear c10
     replace H := dn H
     obtain ⟨c11, H⟩ := H
     have c11b0 := decide_eq_true c11
     clear c11
     replace H := dn H
     obtain ⟨c12, H⟩ := H
     have c12b0 := decide_eq_true c12
     clear c12
     replace H := dn H
     obtain ⟨c13, H⟩ := H
     have c13b0 := decide_eq_true c13
     clear c13
     by_cases c14 : (rd t199 x5_1) = (rd t202 x5_1)
     ·rw [if_pos c14] at H
      have c14b0 := beq_iff_eq.mpr c14
      have c14b1 := bne_eq_false_iff_eq.mpr c14
      clear c14
      have H' := zA H
      clear H
      have p205 : 0 ≤ (x5_1 : Int) := od
      have q205 : x5_1 < (t199.length : Int) := od
      obtain ⟨ad205, e205, hx205_0⟩ := Kd.at_int (V_reads' HO_0.out).2.2 x5_1 p205 q205
      cases e205
      replace p205 := eq_true p205
      replace q205 := eq_true q205
      have p206 : 0 ≤ (x5_1 : Int) := od
      have q206 : x5_1 < (t202.length : Int) := od
      obtain ⟨ad206, e206, hx206_0⟩ := Kd.at_int (V_reads' HO_1.out).2.2 x5_1 p206 q206
      cases e206
      replace p206 := eq_true p206
      replace q206 := eq_true q206
      go_wp2
      repeat (go_quiet (fail); try go_wp2)
      go_roundg k1
      case measure => have := HK1.out; omega
      case rel => exact ⟨(wrap64 (x5_1 - 1)), zi, H', ⟨by have := HK1.out; omega⟩, ⟨vu HO_0.out⟩, ⟨vu HO_1.out⟩, ⟨bq⟩⟩
     rw [if_neg c14] at H
     have c14b0 := beq_eq_false_iff_ne.mpr c14
     have c14b1 := bne_iff_ne.mpr c14
     by_cases c15 : (rd t199 x5_1) < (rd t202 x5_1)
     ·rw [if_pos c15] at H
      have c15b0 := decide_eq_true c15
      clear c15
      obtain rfl := Option.some.inj H
      have p205 : 0 ≤ (x5_1 : Int) := od
      have q205 : x5_1 < (t199.length : Int) := od
      obtain ⟨ad205, e205, hx205_0⟩ := Kd.at_int (V_reads' HO_0.out).2.2 x5_1 p205 q205
      cases e205
      replace p205 := eq_true p205
      replace q205 := eq_true q205
      have p206 : 0 ≤ (x5_1 : Int) := od
      have q206 : x5_1 < (t202.length : Int) := od
      obtain ⟨ad206, e206, hx206_0⟩ := Kd.at_int (V_reads' HO_1.out).2.2 x5_1 p206 q206
      cases e206
      replace p206 := eq_true p206
      replace q206 := eq_true q206
      have p207 : 0 ≤ (x5_1 : Int) := od
      have q207 : x5_1 < (t199.length : Int) := od
      obtain ⟨ad207, e207, hx207_0⟩ := Kd.at_int (V_reads' HO_0.out).2.2 x5_1 p207 q207
      obtain rfl : ad205 = ad207 := (by injection e207)
      replace p207 := eq_true p207
      replace q207 := eq_true q207
      have p208 : 0 ≤ (x5_1 : Int) := od
      have q208 : x5_1 < (t202.length : Int) := od
      obtain ⟨ad208, e208, hx208_0⟩ := Kd.at_int (V_reads' HO_1.out).2.2 x5_1 p208 q208
      obtain rfl : ad206 = ad208 := (by injection e208)
      replace p208 := eq_true p208
      replace q208 := eq_true q208
      go_wp2
      repeat (go_quiet (fail); try go_wp2)
      go_ret
      exact ⟨er, bq⟩
     rw [if_neg c15] at H
     have c15b0 := decide_eq_false c15
     clear c15
     obtain rfl := Option.some.inj H
     have p205 : 0 ≤ (x5_1 : Int) := od
     have q205 : x5_1 < (t199.length : Int) := od
     obtain ⟨ad205, e205, hx205_0⟩ := Kd.at_int (V_reads' HO_0.out).2.2 x5_1 p205 q205
     cases e205
     replace p205 := eq_true p205
     replace q205 := eq_true q205
     have p206 : 0 ≤ (x5_1 : Int) := od
     have q206 : x5_1 < (t202.length : Int) := od
     obtain ⟨ad206, e206, hx206_0⟩ := Kd.at_int (V_reads' HO_1.out).2.2 x5_1 p206 q206
     cases e206
     replace p206 := eq_true p206
     replace q206 := eq_true q206
     have p207 : 0 ≤ (x5_1 : Int) := od
     have q207 : x5_1 < (t199.length : Int) := od
     obtain ⟨ad207, e207, hx207_0⟩ := Kd.at_int (V_reads' HO_0.out).2.2 x5_1 p207 q207
     obtain rfl : ad205 = ad207 := (by injection e207)
     replace p207 := eq_true p207
     replace q207 := eq_true q207
     have p208 : 0 ≤ (x5_1 : Int) := od
     have q208 : x5_1 < (t202.length : Int) := od
     obtain ⟨ad208, e208, hx208_0⟩ := Kd.at_int (V_reads' HO_1.out).2.2 x5_1 p208 q208
     obtain rfl : ad206 = ad208 := (by injection e208)
     replace p208 := eq_true p208
     replace q208 := eq_true q208
     go_wp2
     repeat (go_quiet (fail); try go_wp2)
     go_ret
     exact ⟨er, bq⟩
    rw [if_neg c10] at H
    have c10b0 := decide_eq_false c10
    clear c10
    obtain rfl := Option.some.inj H
    go_wp2
    repeat (go_quiet (fail); try go_wp2)
    go_ret
    exact ⟨er, bq⟩
 rw [if_neg c5] at H
 have c5b0 := beq_eq_false_iff_ne.mpr c5
 have c5b1 := bne_iff_ne.mpr c5
 have c5b2 : (t199.length == t202.length) = false := by first | simpa using c5 | (simp at c5 ⊢; omega)
 by_cases c16 : (t199.length : Int) < (t202.length : Int)
 ·rw [if_pos c16] at H
  have c16b0 := decide_eq_true c16
  have c16b1 : decide (t199.length < t202.length) = true := decide_eq_true (Int.ofNat_lt.mp c16)
  clear c16
  obtain rfl := Option.some.inj H
  go_enter Tryd.func114, Tryd.ntmps114
  go_wp2_with (first | (go_at_call 122; (with_reducible refine (limbs_Trim.calls k (fun k_ => k_ < w.heap.size) _ _ l0 t199 _ ?side1 A3.out).mono ?_); (case side1 => exact V_mk HC0.out (Kd.F_below (C_F (Kd.heap_int .u64) HR0.out) bq)); rintro e w17 ⟨v200, rfl, ho0, hb⟩; have HO201 := zA (V_lower (V_mono (ok' := fun k_ => True) ho0 (fun k_ hk_ => trivial)) (below_size bq)); replace HB := ze hb; (try clear ho0)) | (go_at_call 122; (with_reducible refine (limbs_Trim.calls k (fun k_ => k_ < w.heap.size) _ _ l1 t202 _ ?side1 A4.out).mono ?_); (case side1 => exact V_mk HC1.out (Kd.F_below (C_F (Kd.heap_int .u64) HR1.out) bq)); rintro e w18 ⟨v203, rfl, ho0, hb⟩; replace HO201 := zA (V_below (vu HO201.out) hb); have HO204 := zA (V_lower (V_mono (ok' := fun k_ => True) ho0 (fun k_ hk_ => trivial)) (below_size bq)); replace HB := ze hb; (try clear ho0); obtain ⟨Ao19, co19, eo19⟩ := V_slice HO201.out; subst eo19; obtain ⟨Ao20, co20, eo20⟩ := V_slice HO204.out; subst eo20))
  repeat (go_quiet (first | (go_at_call 122; (with_reducible refine (limbs_Trim.calls k (fun k_ => k_ < w.heap.size) _ _ l0 t199 _ ?side1 A3.out).mono ?_); (case side1 => exact V_mk HC0.out (Kd.F_below (C_F (Kd.heap_int .u64) HR0.out) bq)); rintro e w17 ⟨v200, rfl, ho0, hb⟩; have HO201 := zA (V_lower (V_mono (ok' := fun k_ => True) ho0 (fun k_ hk_ => trivial)) (below_size bq)); replace HB := ze hb; (try clear ho0)) | (go_at_call 122; (with_reducible refine (limbs_Trim.calls k (fun k_ => k_ < w.heap.size) _ _ l1 t202 _ ?side1 A4.out).mono ?_); (case side1 => exact V_mk HC1.out (Kd.F_below (C_F (Kd.heap_int .u64) HR1.out) bq)); rintro e w18 ⟨v203, rfl, ho0, hb⟩; replace HO201 := zA (V_below (vu HO201.out) hb); have HO204 := zA (V_lower (V_mono (ok' := fun k_ => True) ho0 (fun k_ hk_ => trivial)) (below_size bq)); replace HB := ze hb; (try clear ho0); obtain ⟨Ao19, co19, eo19⟩ := V_slice HO201.out; subst eo19; obtain ⟨Ao20, co20, eo20⟩ := V_slice HO204.out; subst eo20)); try go_wp2_with (first | (go_at_call 122; (with_reducible refine (limbs_Trim.calls k (fun k_ => k_ < w.heap.size) _ _ l0 t199 _ ?side1 A3.out).mono ?_); (case side1 => exact V_mk HC0.out (Kd.F_below (C_F (Kd.heap_int .u64) HR0.out) bq)); rintro e w17 ⟨v200, rfl, ho0, hb⟩; have n0_ := zA (V_lower (V_mono (ok' := fun k_ => True) ho0 (fun k_ hk_ => trivial)) (below_size bq)); have n1_ := ze hb; clear HB; have HO201 := n0_; have HB := n1_; clear n0_ n1_; (try clear hb2); (try clear hk); (try clear hi); (try clear ho0)) | (go_at_call 122; (with_reducible refine (limbs_Trim.calls k (fun k_ => k_ < w.heap.size) _ _ l1 t202 _ ?side1 A4.out).mono ?_); (case side1 => exact V_mk HC1.out (Kd.F_below (C_F (Kd.heap_int .u64) HR1.out) bq)); rintro e w18 ⟨v203, rfl, ho0, hb⟩; have n0_ := zA (V_below (vu HO201.out) hb); have n1_ := zA (V_lower (V_mono (ok' := fun k_ => True) ho0 (fun k_ hk_ => trivial)) (below_size bq)); have n2_ := ze hb; clear HO201; clear HB; have HO201 := n0_; have HO204 := n1_; have HB := n2_; clear n0_ n1_ n2_; (try clear hb2); (try clear hk); (try clear hi); (try clear ho0); obtain ⟨Ao19, co19, eo19⟩ := V_slice HO201.out; subst eo19; obtain ⟨Ao20, co20, eo20⟩ := V_slice HO204.out; subst eo20)))
  go_ret
  exact ⟨er, bq⟩
 rw [if_neg c16] at H
 have c16b0 := decide_eq_false c16
 have c16b1 : decide (t199.length < t202.length) = false := decide_eq_false (fun h => c16 (Int.ofNat_lt.mpr h))
 clear c16
 obtain rfl := Option.some.inj H
 go_enter Tryd.func114, Tryd.ntmps114
 go_wp2_with (first | (go_at_call 122; (with_reducible refine (limbs_Trim.calls k (fun k_ => k_ < w.heap.size) _ _ l0 t199 _ ?side1 A3.out).mono ?_); (case side1 => exact V_mk HC0.out (Kd.F_below (C_F (Kd.heap_int .u64) HR0.out) bq)); rintro e w21 ⟨v200, rfl, ho0, hb⟩; have HO201 := zA (V_lower (V_mono (ok' := fun k_ => True) ho0 (fun k_ hk_ => trivial)) (below_size bq)); replace HB := ze hb; (try clear ho0)) | (go_at_call 122; (with_reducible refine (limbs_Trim.calls k (fun k_ => k_ < w.heap.size) _ _ l1 t202 _ ?side1 A4.out).mono ?_); (case side1 => exact V_mk HC1.out (Kd.F_below (C_F (Kd.heap_int .u64) HR1.out) bq)); rintro e w22 ⟨v203, rfl, ho0, hb⟩; replace HO201 := zA (V_below (vu HO201.out) hb); have HO204 := zA (V_lower (V_mono (ok' := fun k_ => True) ho0 (fun k_ hk_ => trivial)) (below_size bq)); replace HB := ze hb; (try clear ho0); obtain ⟨Ao23, co23, eo23⟩ := V_slice HO201.out; subst eo23; obtain ⟨Ao24, co24, eo24⟩ := V_slice HO204.out; subst eo24))
 repeat (go_quiet (first | (go_at_call 122; (with_reducible refine (limbs_Trim.calls k (fun k_ => k_ < w.heap.size) _ _ l0 t199 _ ?side1 A3.out).mono ?_); (case side1 => exact V_mk HC0.out (Kd.F_below (C_F (Kd.heap_int .u64) HR0.out) bq)); rintro e w21 ⟨v200, rfl, ho0, hb⟩; have HO201 := zA (V_lower (V_mono (ok' := fun k_ => True) ho0 (fun k_ hk_ => trivial)) (below_size bq)); replace HB := ze hb; (try clear ho0)) | (go_at_call 122; (with_reducible refine (limbs_Trim.calls k (fun k_ => k_ < w.heap.size) _ _ l1 t202 _ ?side1 A4.out).mono ?_); (case side1 => exact V_mk HC1.out (Kd.F_below (C_F (Kd.heap_int .u64) HR1.out) bq)); rintro e w22 ⟨v203, rfl, ho0, hb⟩; replace HO201 := zA (V_below (vu HO201.out) hb); have HO204 := zA (V_lower (V_mono (ok' := fun k_ => True) ho0 (fun k_ hk_ => trivial)) (below_size bq)); replace HB := ze hb; (try clear ho0); obtain ⟨Ao23, co23, eo23⟩ := V_slice HO201.out; subst eo23; obtain ⟨Ao24, co24, eo24⟩ := V_slice HO204.out; subst eo24)); try go_wp2_with (first | (go_at_call 122; (with_reducible refine (limbs_Trim.calls k (fun k_ => k_ < w.heap.size) _ _ l0 t199 _ ?side1 A3.out).mono ?_); (case side1 => exact V_mk HC0.out (Kd.F_below (C_F (Kd.heap_int .u64) HR0.out) bq)); rintro e w21 ⟨v200, rfl, ho0, hb⟩; have n0_ := zA (V_lower (V_mono (ok' := fun k_ => True) ho0 (fun k_ hk_ => trivial)) (below_size bq)); have n1_ := ze hb; clear HB; have HO201 := n0_; have HB := n1_; clear n0_ n1_; (try clear hb2); (try clear hk); (try clear hi); (try clear ho0)) | (go_at_call 122; (with_reducible refine (limbs_Trim.calls k (fun k_ => k_ < w.heap.size) _ _ l1 t202 _ ?side1 A4.out).mono ?_); (case side1 => exact V_mk HC1.out (Kd.F_below (C_F (Kd.heap_int .u64) HR1.out) bq)); rintro e w22 ⟨v203, rfl, ho0, hb⟩; have n0_ := zA (V_below (vu HO201.out) hb); have n1_ := zA (V_lower (V_mono (ok' := fun k_ => True) ho0 (fun k_ hk_ => trivial)) (below_size bq)); have n2_ := ze hb; clear HO201; clear HB; have HO201 := n0_; have HO204 := n1_; have HB := n2_; clear n0_ n1_ n2_; (try clear hb2); (try clear hk); (try clear hi); (try clear ho0); obtain ⟨Ao23, co23, eo23⟩ := V_slice HO201.out; subst eo23; obtain ⟨Ao24, co24, eo24⟩ := V_slice HO204.out; subst eo24)))
 go_ret
 exact ⟨er, bq⟩
def raw_Top.f (k : Nat) (a0_0 : Bool) (l0_1 : List Int) (a0_2 : Int) : Option (Int) := (limbs_Len.f k l0_1).bind fun t348 => (some (wrap64 ((wrap64 (a0_2 + t348)) - 1)))
theorem raw_Top.mono : ∀ a0 a1 a2 k, LeO (raw_Top.f k a0 a1 a2) (raw_Top.f (k + 1) a0 a1 a2) := by
 intro a0 a1 a2 k
 unfold raw_Top.f
 repeat' first
   | (with_reducible exact limbs_Len.mono _ _)
   | (with_reducible exact LeO.refl _)
   | (with_reducible exact LeO.none _)
   | (with_reducible refine LeO.ite ?_ ?_)
   | (with_reducible refine LeO.bind ?_ (fun _ => ?_))
   | exact limbs_Len.mono _ _
   | exact LeO.none _
   | refine LeO.ite ?_ ?_
   | refine LeO.bind ?_ (fun _ => ?_)
def raw_Top.T1 : Bool × List (List Nat × List Nat) := (true, [([], []), ([0], [0]), ([], []), ([2], [2]), ([3], [3]), ([1, 4], [1, 4]), ([5], [5]), ([6, 4, 0, 1, 2, 3, 4, 5, 6], [6])])
def raw_Top.B1 : List Nat := [0, 1, 0, 4, 12, 31, 63, 127]
theorem raw_Top.tab1 : rtab .any (opsOf Tryd.f87 1) = raw_Top.T1 := by kernel_rfl
theorem raw_Top.bits1 : waitsOk raw_Top.T1.2 raw_Top.B1 = true := by kernel_rfl
set_option maxHeartbeats 8000000 in
set_option maxRecDepth 100000 in
theorem raw_Top.calls (k : Nat) (a0_0 : Bool) (A0_1 : Option Addr) (c0_1 : Nat) (l0_1 : List Int) (a0_2 : Int) (r : Int) (w : World) (hr0_1 : Kd.C (Kd.int .u64) w A0_1 l0_1.length l0_1) (hc0_1 : l0_1.length ≤ c0_1) (h : raw_Top.f k a0_0 l0_1 a0_2 = some r) :
  Calls Tryd.prog 87 #[.agg #[.bool a0_0, .slice A0_1 l0_1.length c0_1, .int .i64 a0_2]] w fun e w' => e = .returned (.int .i64 r) ∧ Below w.heap.size w w' := by
 have hu25 := Tryd.underlying25
 have HR0_1 := zA hr0_1
 have HC0_1 := zA hc0_1
 clear hr0_1 hc0_1
 have HB := zA (Below.refl w.heap.size w)
 have H : ((limbs_Len.f k l0_1).bind fun t348 => (some (wrap64 ((wrap64 (a0_2 + t348)) - 1)))) = some r := h
 clear h
 obtain ⟨t348, A2, H⟩ := zh H
 obtain rfl := Option.some.inj H
 go_enter Tryd.func87, Tryd.ntmps87
 try go_wp2_with (first | ((with_reducible refine zD 1 rfl ?_); refine zn (N := 1) (cs := #[.bool a0_0, .slice A0_1 l0_1.length c0_1, .int .i64 a0_2]) (t := 25) rfl rfl ?_; intro gb347 hg w3 hbox hb; have BK347 := zA (hbox); have GW347 := zw hg; replace HB := ze hb; clear hb hbox hg))
 replace BK347 := zA (blk_drew BK347.out)
 replace HB := zA (below_drew1 HB.out)
 refine start_ (n := 8) (S := fun w' => z3 w' gb347 (.bool a0_0) (.slice A0_1 l0_1.length c0_1) (.int .i64 a0_2)) (ds := []) #[false, false, false, false, false, false, false, false] (by kernel_rfl) rfl rfl (zz BK347) (fun hHeld => ?_); refine with_tabW raw_Top.tab1 raw_Top.bits1 (fun HT_ HW_ => ?_)
 generalize w3.drew = w4 at BK347 HB hHeld ⊢
 refine pure_ (i := 0) (N := some 3) (v := ?_) (a' := ?_) #[true, false, false, false, false, false, false, false] rfl rfl (any_of HT_.out (by kernel_rfl)) (fun _ _ _ h => h) (Or.inl ⟨by rfl, ?_⟩) ?_ ?_
 rotate_left
 ·intro w'
  go_simp
  with_reducible rfl
 rotate_left
 ·exact zq
 refine pure_ (i := 2) (N := some 5) (v := ?_) (a' := ?_) #[true, false, true, false, false, false, false, false] rfl rfl (any_of HT_.out (by kernel_rfl)) (fun _ _ _ h => h) (Or.inl ⟨by rfl, ?_⟩) ?_ ?_
 rotate_left
 ·intro w'
  go_simp
  with_reducible rfl
 rotate_left
 ·exact zq
 refine take_ (i := 1) (N := some 4) (v := ?_) (a' := ?_) #[true, true, true, false, false, false, false, false] rfl rfl (take_ofW HT_.out HW_.out (by kernel_rfl)) (fun _ _ _ h => h) (Or.inl ⟨by rfl, ?_⟩) hHeld ?_ ?_
 rotate_left
 ·rintro w' ⟨s0, s1, s2⟩
  go_simp
  with_reducible rfl
 rotate_left
 ·exact zq
 refine take_ (i := 3) (N := some 6) (v := ?_) (a' := ?_) #[true, true, true, true, false, false, false, false] rfl rfl (take_ofW HT_.out HW_.out (by kernel_rfl)) (fun _ _ _ h => h) (Or.inl ⟨by rfl, ?_⟩) hHeld ?_ ?_
 rotate_left
 ·rintro w' ⟨s0, s1, s2⟩
  go_simp
  with_reducible rfl
 rotate_left
 ·exact zq
 refine one_ (i := 4) (N := some 7) #[true, true, true, true, true, false, false, false] rfl rfl (one_of HT_.out (by kernel_rfl)) (by decide) (fun K hK => ?_)
 refine goes_ Tryd.func84 (by kernel_rfl) rfl #[.slice A0_1 l0_1.length c0_1] (by rfl) rfl rfl ga ?_
 with_reducible refine (limbs_Len.calls k _ _ l0_1 t348 _ ?side1 ?side2 A2.out).mono ?_
 (case side1 => exact zk (C_below HR0_1.out HB.out))
 (case side2 => exact HC0_1.out)
 rintro e w5 ⟨rfl, hb⟩
 refine ⟨_, rfl, ?_⟩
 replace BK347 := zb BK347 hb
 replace HB := zf hb
 (try clear hb)
 (try clear hb2)
 (try clear hk)
 (try clear hi)
 refine hK.out _ _ (zz BK347) (fun hHeld => ?_)
 clear hK K
 refine norm_ (a' := ?_) ?_ ?_
 rotate_left
 ·show Act.put _ (some 7) _ = _
  simp only [Act.put, List.setIfInBounds_toArray, List.set_cons_zero, List.set_cons_succ, i64_w, i32_w]
  rfl
 refine pure_ (i := 5) (N := some 8) (v := ?_) (a' := ?_) #[true, true, true, true, true, true, false, false] rfl rfl (any_of HT_.out (by kernel_rfl)) (fun _ _ _ h => h) (Or.inl ⟨by rfl, ?_⟩) ?_ ?_
 rotate_left
 ·intro w'
  go_simp
  with_reducible rfl
 rotate_left
 ·exact zq
 refine pure_ (i := 6) (N := some 9) (v := ?_) (a' := ?_) #[true, true, true, true, true, true, true, false] rfl rfl (any_of HT_.out (by kernel_rfl)) (fun _ _ _ h => h) (Or.inl ⟨by rfl, ?_⟩) ?_ ?_
 rotate_left
 ·intro w'
  go_simp
  with_reducible rfl
 rotate_left
 ·exact zq
 refine pure_ (i := 7) (N := some 2) (v := ?_) (a' := ?_) #[true, true, true, true, true, true, true, true] rfl rfl (any_of HT_.out (by kernel_rfl)) (fun _ _ _ h => h) (Or.inl ⟨by rfl, ?_⟩) ?_ ?_
 rotate_left
 ·intro w'
  go_simp
  with_reducible rfl
 rotate_left
 ·exact zq
 refine done_ (done_of HT_.out (by kernel_rfl)) ?_
 try go_wp2
 go_ret
 exact ⟨er, zs⟩
def raw_Zero.f (k : Nat) (a0_0 : Bool) (l0_1 : List Int) (a0_2 : Int) : Option (Bool) := (limbs_Trim.f k l0_1).bind fun t113 => (some ((t113.length : Int) == 0))
theorem raw_Zero.mono : ∀ a0 a1 a2 k, LeO (raw_Zero.f k a0 a1 a2) (raw_Zero.f (k + 1) a0 a1 a2) := by
 intro a0 a1 a2 k
 unfold raw_Zero.f
 repeat' first
   | (with_reducible exact limbs_Trim.mono _ _)
   | (with_reducible exact LeO.refl _)
   | (with_reducible exact LeO.none _)
   | (with_reducible refine LeO.ite ?_ ?_)
   | (with_reducible refine LeO.bind ?_ (fun _ => ?_))
   | exact limbs_Trim.mono _ _
   | exact LeO.none _
   | refine LeO.ite ?_ ?_
   | refine LeO.bind ?_ (fun _ => ?_)
set_option maxHeartbeats 8000000 in
set_option maxRecDepth 100000 in
theorem raw_Zero.calls (k : Nat) (a0_0 : Bool) (A0_1 : Option Addr) (c0_1 : Nat) (l0_1 : List Int) (a0_2 : Int) (r : Bool) (w : World) (hr0_1 : Kd.C (Kd.int .u64) w A0_1 l0_1.length l0_1) (hc0_1 : l0_1.length ≤ c0_1) (h : raw_Zero.f k a0_0 l0_1 a0_2 = some r) :
  Calls Tryd.prog 73 #[.agg #[.bool a0_0, .slice A0_1 l0_1.length c0_1, .int .i64 a0_2]] w fun e w' => e = .returned (.bool r) ∧ Below w.heap.size w w' := by
 have hu25 := Tryd.underlying25
 have HR0_1 := zA hr0_1
 have HC0_1 := zA hc0_1
 clear hr0_1 hc0_1
 have HB := zA (Below.refl w.heap.size w)
 have H : ((limbs_Trim.f k l0_1).bind fun t113 => (some ((t113.length : Int) == 0))) = some r := h
 clear h
 obtain ⟨t113, A2, H⟩ := zh H
 obtain rfl := Option.some.inj H
 go_enter Tryd.func73, Tryd.ntmps73
 go_wp2_with (first | ((with_reducible refine zD 1 rfl ?_); refine zn (N := 1) (cs := #[.bool a0_0, .slice A0_1 l0_1.length c0_1, .int .i64 a0_2]) (t := 25) rfl rfl ?_; intro gb112 hg w3 hbox hb; have BK112 := zA (hbox); have GW112 := zw hg; replace HB := ze hb; clear hb hbox hg; obtain ⟨_, _, _, _, _, _⟩ := zc BK112) | ((with_reducible refine zG 122 rfl ?_); refine zL (some 5) rfl rfl Tryd.func122 #[.slice A0_1 l0_1.length c0_1] rfl ?_; (with_reducible refine (limbs_Trim.calls k (fun k_ => k_ < w.heap.size) _ _ l0_1 t113 _ ?side1 A2.out).mono ?_); (case side1 => exact V_mk HC0_1.out (Kd.F_below (C_F (Kd.heap_int .u64) HR0_1.out) zs)); rintro e w5 ⟨v114, rfl, ho0, hb⟩; refine ⟨_, rfl, ?_⟩; have HO115 := zA (V_lower (V_mono (ok' := fun k_ => k_ ≠ gb112) ho0 (fun k_ hk_ => Or.elim hk_ (fun hs_ => fun e_ => Nat.not_le.2 hs_ (by rw [e_]; exact GW112.out)) (fun hn_ => (zj BK112 k_ hn_)))) (below_size zs)); replace BK112 := zb BK112 hb; replace HB := zf hb; (try clear ho0); obtain ⟨Ao6, co6, eo6⟩ := V_slice HO115.out; subst eo6))
 go_ret
 exact ⟨er, zs⟩
def raw_Sign.f (k : Nat) (a0_0 : Bool) (l0_1 : List Int) (a0_2 : Int) : Option (Int) := (raw_Zero.f k a0_0 l0_1 a0_2).bind fun t350 => (if t350 = true then (some 0) else (if a0_0 = true then (some (-1)) else (some 1)))
theorem raw_Sign.mono : ∀ a0 a1 a2 k, LeO (raw_Sign.f k a0 a1 a2) (raw_Sign.f (k + 1) a0 a1 a2) := by
 intro a0 a1 a2 k
 unfold raw_Sign.f
 repeat' first
   | (with_reducible exact raw_Zero.mono _ _ _ _)
   | (with_reducible exact LeO.refl _)
   | (with_reducible exact LeO.none _)
   | (with_reducible refine LeO.ite ?_ ?_)
   | (with_reducible refine LeO.bind ?_ (fun _ => ?_))
   | exact raw_Zero.mono _ _ _ _
   | exact LeO.none _
   | refine LeO.ite ?_ ?_
   | refine LeO.bind ?_ (fun _ => ?_)
set_option maxHeartbeats 8000000 in
set_option maxRecDepth 100000 in
theorem raw_Sign.calls (k : Nat) (a0_0 : Bool) (A0_1 : Option Addr) (c0_1 : Nat) (l0_1 : List Int) (a0_2 : Int) (r : Int) (w : World) (hr0_1 : Kd.C (Kd.int .u64) w A0_1 l0_1.length l0_1) (hc0_1 : l0_1.length ≤ c0_1) (h : raw_Sign.f k a0_0 l0_1 a0_2 = some r) :
  Calls Tryd.prog 127 #[.agg #[.bool a0_0, .slice A0_1 l0_1.length c0_1, .int .i64 a0_2]] w fun e w' => e = .returned (.int .i64 r) ∧ Below w.heap.size w w' := by
 have hu25 := Tryd.underlying25
 have HR0_1 := zA hr0_1
 have HC0_1 := zA hc0_1
 clear hr0_1 hc0_1
 have HB := zA (Below.refl w.heap.size w)
 have H : ((raw_Zero.f k a0_0 l0_1 a0_2).bind fun t350 => (if t350 = true then (some 0) else (if a0_0 = true then (some (-1)) else (some 1)))) = some r := h
 clear h
 obtain ⟨t350, A2, H⟩ := zh H
 by_cases c3 : t350 = true
 ·subst c3
  rw [if_pos rfl] at H
  obtain rfl := Option.some.inj H
  go_enter Tryd.func127, Tryd.ntmps127
  go_wp2_with (first | ((with_reducible refine zD 1 rfl ?_); refine zn (N := 1) (cs := #[.bool a0_0, .slice A0_1 l0_1.length c0_1, .int .i64 a0_2]) (t := 25) rfl rfl ?_; intro gb349 hg w4 hbox hb; have BK349 := zA (hbox); have GW349 := zw hg; replace HB := ze hb; clear hb hbox hg; obtain ⟨_, _, _, _, _, _⟩ := zc BK349) | ((with_reducible refine zG 73 rfl ?_); refine zL (some 5) rfl rfl Tryd.func73 #[.agg #[.bool a0_0, .slice A0_1 l0_1.length c0_1, .int .i64 a0_2]] rfl ?_; (with_reducible refine (raw_Zero.calls k a0_0 _ _ l0_1 a0_2 true _ ?side1 ?side2 A2.out).mono ?_); (case side1 => exact zk (C_below HR0_1.out HB.out)); (case side2 => exact HC0_1.out); rintro e w6 ⟨rfl, hb⟩; refine ⟨_, rfl, ?_⟩; replace BK349 := zb BK349 hb; replace HB := zf hb))
  go_ret
  exact ⟨er, zs⟩
 replace c3 := Bool.eq_false_iff.mpr c3
 subst c3
 rw [if_neg (show ¬ (false = true) by decide)] at H
 by_cases c7 : a0_0 = true
 ·subst c7
  rw [if_pos rfl] at H
  obtain rfl := Option.some.inj H
  go_enter Tryd.func127, Tryd.ntmps127
  go_wp2_with (first | ((with_reducible refine zD 1 rfl ?_); refine zn (N := 1) (cs := #[.bool true, .slice A0_1 l0_1.length c0_1, .int .i64 a0_2]) (t := 25) rfl rfl ?_; intro gb349 hg w8 hbox hb; have BK349 := zA (hbox); have GW349 := zw hg; replace HB := ze hb; clear hb hbox hg; obtain ⟨_, _, _, _, _, _⟩ := zc BK349) | ((with_reducible refine zG 73 rfl ?_); refine zL (some 5) rfl rfl Tryd.func73 #[.agg #[.bool true, .slice A0_1 l0_1.length c0_1, .int .i64 a0_2]] rfl ?_; (with_reducible refine (raw_Zero.calls k true _ _ l0_1 a0_2 false _ ?side1 ?side2 A2.out).mono ?_); (case side1 => exact zk (C_below HR0_1.out HB.out)); (case side2 => exact HC0_1.out); rintro e w10 ⟨rfl, hb⟩; refine ⟨_, rfl, ?_⟩; replace BK349 := zb BK349 hb; replace HB := zf hb; obtain ⟨hcz11_0, hcz11_1, hcz11_2, hfz11_0, hfz11_1, hfz11_2⟩ := zc BK349))
  go_ret
  exact ⟨er, zs⟩
 replace c7 := Bool.eq_false_iff.mpr c7
 subst c7
 rw [if_neg (show ¬ (false = true) by decide)] at H
 obtain rfl := Option.some.inj H
 go_enter Tryd.func127, Tryd.ntmps127
 go_wp2_with (first | ((with_reducible refine zD 1 rfl ?_); refine zn (N := 1) (cs := #[.bool false, .slice A0_1 l0_1.length c0_1, .int .i64 a0_2]) (t := 25) rfl rfl ?_; intro gb349 hg w12 hbox hb; have BK349 := zA (hbox); have GW349 := zw hg; replace HB := ze hb; clear hb hbox hg; obtain ⟨_, _, _, _, _, _⟩ := zc BK349) | ((with_reducible refine zG 73 rfl ?_); refine zL (some 5) rfl rfl Tryd.func73 #[.agg #[.bool false, .slice A0_1 l0_1.length c0_1, .int .i64 a0_2]] rfl ?_; (with_reducible refine (raw_Zero.calls k false _ _ l0_1 a0_2 false _ ?side1 ?side2 A2.out).mono ?_); (case side1 => exact zk (C_below HR0_1.out HB.out)); (case side2 => exact HC0_1.out); rintro e w14 ⟨rfl, hb⟩; refine ⟨_, rfl, ?_⟩; replace BK349 := zb BK349 hb; replace HB := zf hb; obtain ⟨hcz15_0, hcz15_1, hcz15_2, hfz15_0, hfz15_1, hfz15_2⟩ := zc BK349))
 go_ret
 exact ⟨er, zs⟩
end Go.Proofs.YtemfckibdojbbaaDoor.PAll
