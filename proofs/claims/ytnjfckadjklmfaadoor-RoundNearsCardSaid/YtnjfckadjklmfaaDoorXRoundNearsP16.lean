/- Printed functions, merged by a program of this session. -/
import Derived.Test.YtnjfckadjklmfaaDoorXRoundNearsP0
import Derived.Test.YtnjfckadjklmfaaDoorXRoundNearsSh
namespace Go.Proofs.YtnjfckadjklmfaaDoor.PAll
open Go.RowKit Go.Proofs.YtnjfckadjklmfaaDoorW.PrintWords Go.Proofs.YtnjfckadjklmfaaDoorW.PrintLast Go.Proofs.YtnjfckadjklmfaaDoorW.PrintMore Go.Proofs.YtnjfckadjklmfaaDoorW.PrintWords.Kd
attribute [local go_sem] max2_int min2_int max_two min_two max_three min_three max_four min_four   -- for this text's walks alone
set_option linter.unusedVariables false
set_option linter.unusedSimpArgs false
attribute [local go_sem] fld75_0 fld75_1 fld75_2 ext118 ext119
def limbs_Cmp.l0 : Nat → List Int → List Int → Int → Option (Int)
 | 0, _, _, _ => none
 | k + 1, x0, x1, x5 => if x5 ≥ 0 then (if 0 ≤ x5 then (if x5 < (x0.length : Int) then (if x5 < (x1.length : Int) then (if (rd x0 x5) = (rd x1 x5) then (limbs_Cmp.l0 k x0 x1 (wrap64 (x5 - 1))) else (if (rd x0 x5) < (rd x1 x5) then (some (-1)) else (some 1))) else (none)) else (none)) else (none)) else (some 0)
def limbs_Cmp.f (k : Nat) (l0 : List Int) (l1 : List Int) : Option (Int) := (limbs_Trim.f k l0).bind fun t484 => ((limbs_Trim.f k l1).bind fun t487 => (if (t484.length : Int) = (t487.length : Int) then (limbs_Cmp.l0 k t484 t487 (wrap64 ((t484.length : Int) - 1))) else (if (t484.length : Int) < (t487.length : Int) then (some (-1)) else (some 1))))
theorem limbs_Cmp.mono_l : ∀ k, (∀ y0 y1 y2, LeO (limbs_Cmp.l0 k y0 y1 y2) (limbs_Cmp.l0 (k + 1) y0 y1 y2))
 | 0 => fun _ _ _ r h => by simp [limbs_Cmp.l0] at h
 | k + 1 => by
  have ih0 := limbs_Cmp.mono_l k
  intro y0 y1 y2
  unfold limbs_Cmp.l0
  repeat' first
  | (with_reducible exact ih0 _ _ _)
  | (with_reducible exact limbs_Trim.mono _ _)
  | (with_reducible exact LeO.refl _)
  | (with_reducible exact LeO.none _)
  | (with_reducible refine LeO.ite ?_ ?_)
  | (with_reducible refine LeO.bind ?_ (fun _ => ?_))
  | exact ih0 _ _ _
  | exact limbs_Trim.mono _ _
  | exact LeO.none _
  | refine LeO.ite ?_ ?_
  | refine LeO.bind ?_ (fun _ => ?_)
theorem limbs_Cmp.mono : ∀ a0 a1 k, LeO (limbs_Cmp.f k a0 a1) (limbs_Cmp.f (k + 1) a0 a1) := by
 intro a0 a1 k
 have ih0 := limbs_Cmp.mono_l k
 unfold limbs_Cmp.f
 repeat' first
   | (with_reducible exact ih0 _ _ _)
   | (with_reducible exact limbs_Trim.mono _ _)
   | (with_reducible exact LeO.refl _)
   | (with_reducible exact LeO.none _)
   | (with_reducible refine LeO.ite ?_ ?_)
   | (with_reducible refine LeO.bind ?_ (fun _ => ?_))
   | exact ih0 _ _ _
   | exact limbs_Trim.mono _ _
   | exact LeO.none _
   | refine LeO.ite ?_ ?_
   | refine LeO.bind ?_ (fun _ => ?_)
set_option maxHeartbeats 8000000 in
set_option maxRecDepth 100000 in
theorem limbs_Cmp.calls (k : Nat) (A0 : Option Addr) (c0 : Nat) (l0 : List Int) (A1 : Option Addr) (c1 : Nat) (l1 : List Int) (r : Int) (w : World) (hr0 : Kd.C (Kd.int .u64) w A0 l0.length l0) (hc0 : l0.length ≤ c0) (hr1 : Kd.C (Kd.int .u64) w A1 l1.length l1) (hc1 : l1.length ≤ c1) (h : limbs_Cmp.f k l0 l1 = some r) :
  Calls Tryd.prog 91 #[.slice A0 l0.length c0, .slice A1 l1.length c1] w fun e w' => e = .returned (.int .i64 r) ∧ Below w.heap.size w w' := by
 have HR0 := zA hr0
 have HC0 := zA hc0
 clear hr0 hc0
 have HR1 := zA hr1
 have HC1 := zA hc1
 clear hr1 hc1
 have HB := zA (Below.refl w.heap.size w)
 have H : ((limbs_Trim.f k l0).bind fun t484 => ((limbs_Trim.f k l1).bind fun t487 => (if (t484.length : Int) = (t487.length : Int) then (limbs_Cmp.l0 k t484 t487 (wrap64 ((t484.length : Int) - 1))) else (if (t484.length : Int) < (t487.length : Int) then (some (-1)) else (some 1))))) = some r := h
 clear h
 obtain ⟨t484, A3, H⟩ := zh H
 obtain ⟨t487, A4, H⟩ := zh H
 by_cases c5 : (t484.length : Int) = (t487.length : Int)
 ·rw [if_pos c5] at H
  have c5b0 := beq_iff_eq.mpr c5
  have c5b1 := bne_eq_false_iff_eq.mpr c5
  have c5b2 : (t484.length == t487.length) = true := by first | simpa using c5 | (simp at c5 ⊢; omega)
  clear c5
  have H' := zA H
  clear H
  go_enter Tryd.func91, Tryd.ntmps91
  go_wp2_with (first | (go_at_call 84; (with_reducible refine (limbs_Trim.calls k (fun k_ => k_ < w.heap.size) _ _ l0 t484 _ ?side1 A3.out).mono ?_); (case side1 => exact V_mk HC0.out (Kd.F_below (C_F (Kd.heap_int .u64) HR0.out) bq)); rintro e w6 ⟨v485, rfl, ho0, hb⟩; have HO486 := zA (V_lower (V_mono (ok' := fun k_ => True) ho0 (fun k_ hk_ => trivial)) (below_size bq)); replace HB := ze hb; (try clear ho0)) | (go_at_call 84; (with_reducible refine (limbs_Trim.calls k (fun k_ => k_ < w.heap.size) _ _ l1 t487 _ ?side1 A4.out).mono ?_); (case side1 => exact V_mk HC1.out (Kd.F_below (C_F (Kd.heap_int .u64) HR1.out) bq)); rintro e w7 ⟨v488, rfl, ho0, hb⟩; replace HO486 := zA (V_below (vu HO486.out) hb); have HO489 := zA (V_lower (V_mono (ok' := fun k_ => True) ho0 (fun k_ hk_ => trivial)) (below_size bq)); replace HB := ze hb; (try clear ho0); obtain ⟨Ao8, co8, eo8⟩ := V_slice HO486.out; subst eo8; obtain ⟨Ao9, co9, eo9⟩ := V_slice HO489.out; subst eo9))
  repeat (go_quiet (first | (go_at_call 84; (with_reducible refine (limbs_Trim.calls k (fun k_ => k_ < w.heap.size) _ _ l0 t484 _ ?side1 A3.out).mono ?_); (case side1 => exact V_mk HC0.out (Kd.F_below (C_F (Kd.heap_int .u64) HR0.out) bq)); rintro e w6 ⟨v485, rfl, ho0, hb⟩; have HO486 := zA (V_lower (V_mono (ok' := fun k_ => True) ho0 (fun k_ hk_ => trivial)) (below_size bq)); replace HB := ze hb; (try clear ho0)) | (go_at_call 84; (with_reducible refine (limbs_Trim.calls k (fun k_ => k_ < w.heap.size) _ _ l1 t487 _ ?side1 A4.out).mono ?_); (case side1 => exact V_mk HC1.out (Kd.F_below (C_F (Kd.heap_int .u64) HR1.out) bq)); rintro e w7 ⟨v488, rfl, ho0, hb⟩; replace HO486 := zA (V_below (vu HO486.out) hb); have HO489 := zA (V_lower (V_mono (ok' := fun k_ => True) ho0 (fun k_ hk_ => trivial)) (below_size bq)); replace HB := ze hb; (try clear ho0); obtain ⟨Ao8, co8, eo8⟩ := V_slice HO486.out; subst eo8; obtain ⟨Ao9, co9, eo9⟩ := V_slice HO489.out; subst eo9)); try go_wp2_with (first | (go_at_call 84; (with_reducible refine (limbs_Trim.calls k (fun k_ => k_ < w.heap.size) _ _ l0 t484 _ ?side1 A3.out).mono ?_); (case side1 => exact V_mk HC0.out (Kd.F_below (C_F (Kd.heap_int .u64) HR0.out) bq)); rintro e w6 ⟨v485, rfl, ho0, hb⟩; have n0_ := zA (V_lower (V_mono (ok' := fun k_ => True) ho0 (fun k_ hk_ => trivial)) (below_size bq)); have n1_ := ze hb; clear HB; have HO486 := n0_; have HB := n1_; clear n0_ n1_; (try clear hb2); (try clear hk); (try clear hi); (try clear ho0)) | (go_at_call 84; (with_reducible refine (limbs_Trim.calls k (fun k_ => k_ < w.heap.size) _ _ l1 t487 _ ?side1 A4.out).mono ?_); (case side1 => exact V_mk HC1.out (Kd.F_below (C_F (Kd.heap_int .u64) HR1.out) bq)); rintro e w7 ⟨v488, rfl, ho0, hb⟩; have n0_ := zA (V_below (vu HO486.out) hb); have n1_ := zA (V_lower (V_mono (ok' := fun k_ => True) ho0 (fun k_ hk_ => trivial)) (below_size bq)); have n2_ := ze hb; clear HO486; clear HB; have HO486 := n0_; have HO489 := n1_; have HB := n2_; clear n0_ n1_ n2_; (try clear hb2); (try clear hk); (try clear hi); (try clear ho0); obtain ⟨Ao8, co8, eo8⟩ := V_slice HO486.out; subst eo8; obtain ⟨Ao9, co9, eo9⟩ := V_slice HO489.out; subst eo9)))
  go_loopg [5] k (fun kq v5 w' => ∃ (x5_1 : Int), v5 = .int .i64 x5_1 ∧ Aside0 (limbs_Cmp.l0 kq t484 t487 x5_1 = some r) ∧ Aside0 (kq ≤ k) ∧ Aside0 (Kd.V (Kd.int .u64) 26 w' w.heap.size (fun _ => True) (.slice Ao8 t484.length co8) t484) ∧ Aside0 (Kd.V (Kd.int .u64) 26 w' w.heap.size (fun _ => True) (.slice Ao9 t487.length co9) t487) ∧ Aside0 (Below w.heap.size w w'))
  case atStart => exact ⟨(wrap64 ((t484.length : Int) - 1)), zi, H', ⟨Nat.le_refl _⟩, ⟨vu HO486.out⟩, ⟨vu HO489.out⟩, ⟨bq⟩⟩
  case round =>
   clear H'
   try clear c1
   try clear c5
   try clear c5b0
   try clear c5b1
   try clear c5b2
   obtain ⟨x5_1, rfl, HA, HK1, HO_0, HO_1, HB⟩ := hrel
   cases gk with
   | zero => exact absurd HA.out (by simp [limbs_Cmp.l0])
   | succ k1 =>
    have H := HA.out
    clear HA
    simp only [limbs_Cmp.l0] at H
    by_cases c10 : x5_1 ≥ 0
    ·rw [if_pos c10] at H
     have c10b0 := decide_eq_true c10
     clear c10
     replace H := dn H
     obtain ⟨c11, H⟩ := H
     have c11b0 := decide_eq_true c11
     clear c11
     replace H := dn H
     obtain ⟨c12, H⟩ := H
     have c12b0 := decide_eq_true c12
     clear c12
     replace H := dn H
     obtain ⟨c13, H⟩ := H
     have c13b0 := decide_eq_true c13
     clear c13
     by_cases c14 : (rd t484 x5_1) = (rd t487 x5_1)
     ·rw [if_pos c14] at H
      have c14b0 := beq_iff_eq.mpr c14
      have c14b1 := bne_eq_false_iff_eq.mpr c14
      clear c14
      have H' := zA H
      clear H
      have p490 : 0 ≤ (x5_1 : Int) := od
      have q490 : x5_1 < (t484.length : Int) := od
      obtain ⟨ad490, e490, hx490_0⟩ := Kd.at_int (V_reads' HO_0.out).2.2 x5_1 p490 q490
      cases e490
      replace p490 := eq_true p490
      replace q490 := eq_true q490
      have p491 : 0 ≤ (x5_1 : Int) := od
      have q491 : x5_1 < (t487.length : Int) := od
      obtain ⟨ad491, e491, hx491_0⟩ := Kd.at_int (V_reads' HO_1.out).2.2 x5_1 p491 q491
      cases e491
      replace p491 := eq_true p491
      replace q491 := eq_true q491
      go_wp2
      repeat (go_quiet (fail); try go_wp2)
      go_roundg k1
      case measure => have := HK1.out; omega
      case rel => exact ⟨(wrap64 (x5_1 - 1)), zi, H', ⟨by have := HK1.out; omega⟩, ⟨vu HO_0.out⟩, ⟨vu HO_1.out⟩, ⟨bq⟩⟩
     rw [if_neg c14] at H
     have c14b0 := beq_eq_false_iff_ne.mpr c14
     have c14b1 := bne_iff_ne.mpr c14
     by_cases c15 : (rd t484 x5_1) < (rd t487 x5_1)
     ·rw [if_pos c15] at H
      have c15b0 := decide_eq_true c15
      clear c15
      obtain rfl := Option.some.inj H
      have p490 : 0 ≤ (x5_1 : Int) := od
      have q490 : x5_1 < (t484.length : Int) := od
      obtain ⟨ad490, e490, hx490_0⟩ := Kd.at_int (V_reads' HO_0.out).2.2 x5_1 p490 q490
      cases e490
      replace p490 := eq_true p490
      replace q490 := eq_true q490
      have p491 : 0 ≤ (x5_1 : Int) := od
      have q491 : x5_1 < (t487.length : Int) := od
      obtain ⟨ad491, e491, hx491_0⟩ := Kd.at_int (V_reads' HO_1.out).2.2 x5_1 p491 q491
      cases e491
      replace p491 := eq_true p491
      replace q491 := eq_true q491
      have p492 : 0 ≤ (x5_1 : Int) := od
      have q492 : x5_1 < (t484.length : Int) := od
      obtain ⟨ad492, e492, hx492_0⟩ := Kd.at_int (V_reads' HO_0.out).2.2 x5_1 p492 q492
      obtain rfl : ad490 = ad492 := (by injection e492)
      replace p492 := eq_true p492
      replace q492 := eq_true q492
      have p493 : 0 ≤ (x5_1 : Int) := od
      have q493 : x5_1 < (t487.length : Int) := od
      obtain ⟨ad493, e493, hx493_0⟩ := Kd.at_int (V_reads' HO_1.out).2.2 x5_1 p493 q493
      obtain rfl : ad491 = ad493 := (by injection e493)
      replace p493 := eq_true p493
      replace q493 := eq_true q493
      go_wp2
      repeat (go_quiet (fail); try go_wp2)
      go_ret
      exact ⟨er, bq⟩
     rw [if_neg c15] at H
     have c15b0 := decide_eq_false c15
     clear c15
     obtain rfl := Option.some.inj H
     have p490 : 0 ≤ (x5_1 : Int) := od
     have q490 : x5_1 < (t484.length : Int) := od
     obtain ⟨ad490, e490, hx490_0⟩ := Kd.at_int (V_reads' HO_0.out).2.2 x5_1 p490 q490
     cases e490
     replace p490 := eq_true p490
     replace q490 := eq_true q490
     have p491 : 0 ≤ (x5_1 : Int) := od
     have q491 : x5_1 < (t487.length : Int) := od
     obtain ⟨ad491, e491, hx491_0⟩ := Kd.at_int (V_reads' HO_1.out).2.2 x5_1 p491 q491
     cases e491
     replace p491 := eq_true p491
     replace q491 := eq_true q491
     have p492 : 0 ≤ (x5_1 : Int) := od
     have q492 : x5_1 < (t484.length : Int) := od
     obtain ⟨ad492, e492, hx492_0⟩ := Kd.at_int (V_reads' HO_0.out).2.2 x5_1 p492 q492
     obtain rfl : ad490 = ad492 := (by injection e492)
     replace p492 := eq_true p492
     replace q492 := eq_true q492
     have p493 : 0 ≤ (x5_1 : Int) := od
     have q493 : x5_1 < (t487.length : Int) := od
     obtain ⟨ad493, e493, hx493_0⟩ := Kd.at_int (V_reads' HO_1.out).2.2 x5_1 p493 q493
     obtain rfl : ad491 = ad493 := (by injection e493)
     replace p493 := eq_true p493
     replace q493 := eq_true q493
     go_wp2
     repeat (go_quiet (fail); try go_wp2)
     go_ret
     exact ⟨er, bq⟩
    rw [if_neg c10] at H
    have c10b0 := decide_eq_false c10
    clear c10
    obtain rfl := Option.some.inj H
    go_wp2
    repeat (go_quiet (fail); try go_wp2)
    go_ret
    exact ⟨er, bq⟩
 rw [if_neg c5] at H
 have c5b0 := beq_eq_false_iff_ne.mpr c5
 have c5b1 := bne_iff_ne.mpr c5
 have c5b2 : (t484.length == t487.length) = false := by first | simpa using c5 | (simp at c5 ⊢; omega)
 by_cases c16 : (t484.length : Int) < (t487.length : Int)
 ·rw [if_pos c16] at H
  have c16b0 := decide_eq_true c16
  have c16b1 : decide (t484.length < t487.length) = true := decide_eq_true (Int.ofNat_lt.mp c16)
  clear c16
  obtain rfl := Option.some.inj H
  go_enter Tryd.func91, Tryd.ntmps91
  go_wp2_with (first | (go_at_call 84; (with_reducible refine (limbs_Trim.calls k (fun k_ => k_ < w.heap.size) _ _ l0 t484 _ ?side1 A3.out).mono ?_); (case side1 => exact V_mk HC0.out (Kd.F_below (C_F (Kd.heap_int .u64) HR0.out) bq)); rintro e w17 ⟨v485, rfl, ho0, hb⟩; have HO486 := zA (V_lower (V_mono (ok' := fun k_ => True) ho0 (fun k_ hk_ => trivial)) (below_size bq)); replace HB := ze hb; (try clear ho0)) | (go_at_call 84; (with_reducible refine (limbs_Trim.calls k (fun k_ => k_ < w.heap.size) _ _ l1 t487 _ ?side1 A4.out).mono ?_); (case side1 => exact V_mk HC1.out (Kd.F_below (C_F (Kd.heap_int .u64) HR1.out) bq)); rintro e w18 ⟨v488, rfl, ho0, hb⟩; replace HO486 := zA (V_below (vu HO486.out) hb); have HO489 := zA (V_lower (V_mono (ok' := fun k_ => True) ho0 (fun k_ hk_ => trivial)) (below_size bq)); replace HB := ze hb; (try clear ho0); obtain ⟨Ao19, co19, eo19⟩ := V_slice HO486.out; subst eo19; obtain ⟨Ao20, co20, eo20⟩ := V_slice HO489.out; subst eo20))
  repeat (go_quiet (first | (go_at_call 84; (with_reducible refine (limbs_Trim.calls k (fun k_ => k_ < w.heap.size) _ _ l0 t484 _ ?side1 A3.out).mono ?_); (case side1 => exact V_mk HC0.out (Kd.F_below (C_F (Kd.heap_int .u64) HR0.out) bq)); rintro e w17 ⟨v485, rfl, ho0, hb⟩; have HO486 := zA (V_lower (V_mono (ok' := fun k_ => True) ho0 (fun k_ hk_ => trivial)) (below_size bq)); replace HB := ze hb; (try clear ho0)) | (go_at_call 84; (with_reducible refine (limbs_Trim.calls k (fun k_ => k_ < w.heap.size) _ _ l1 t487 _ ?side1 A4.out).mono ?_); (case side1 => exact V_mk HC1.out (Kd.F_below (C_F (Kd.heap_int .u64) HR1.out) bq)); rintro e w18 ⟨v488, rfl, ho0, hb⟩; replace HO486 := zA (V_below (vu HO486.out) hb); have HO489 := zA (V_lower (V_mono (ok' := fun k_ => True) ho0 (fun k_ hk_ => trivial)) (below_size bq)); replace HB := ze hb; (try clear ho0); obtain ⟨Ao19, co19, eo19⟩ := V_slice HO486.out; subst eo19; obtain ⟨Ao20, co20, eo20⟩ := V_slice HO489.out; subst eo20)); try go_wp2_with (first | (go_at_call 84; (with_reducible refine (limbs_Trim.calls k (fun k_ => k_ < w.heap.size) _ _ l0 t484 _ ?side1 A3.out).mono ?_); (case side1 => exact V_mk HC0.out (Kd.F_below (C_F (Kd.heap_int .u64) HR0.out) bq)); rintro e w17 ⟨v485, rfl, ho0, hb⟩; have n0_ := zA (V_lower (V_mono (ok' := fun k_ => True) ho0 (fun k_ hk_ => trivial)) (below_size bq)); have n1_ := ze hb; clear HB; have HO486 := n0_; have HB := n1_; clear n0_ n1_; (try clear hb2); (try clear hk); (try clear hi); (try clear ho0)) | (go_at_call 84; (with_reducible refine (limbs_Trim.calls k (fun k_ => k_ < w.heap.size) _ _ l1 t487 _ ?side1 A4.out).mono ?_); (case side1 => exact V_mk HC1.out (Kd.F_below (C_F (Kd.heap_int .u64) HR1.out) bq)); rintro e w18 ⟨v488, rfl, ho0, hb⟩; have n0_ := zA (V_below (vu HO486.out) hb); have n1_ := zA (V_lower (V_mono (ok' := fun k_ => True) ho0 (fun k_ hk_ => trivial)) (below_size bq)); have n2_ := ze hb; clear HO486; clear HB; have HO486 := n0_; have HO489 := n1_; have HB := n2_; clear n0_ n1_ n2_; (try clear hb2); (try clear hk); (try clear hi); (try clear ho0); obtain ⟨Ao19, co19, eo19⟩ := V_slice HO486.out; subst eo19; obtain ⟨Ao20, co20, eo20⟩ := V_slice HO489.out; subst eo20)))
  go_ret
  exact ⟨er, bq⟩
 rw [if_neg c16] at H
 have c16b0 := decide_eq_false c16
 have c16b1 : decide (t484.length < t487.length) = false := decide_eq_false (fun h => c16 (Int.ofNat_lt.mpr h))
 clear c16
 obtain rfl := Option.some.inj H
 go_enter Tryd.func91, Tryd.ntmps91
 go_wp2_with (first | (go_at_call 84; (with_reducible refine (limbs_Trim.calls k (fun k_ => k_ < w.heap.size) _ _ l0 t484 _ ?side1 A3.out).mono ?_); (case side1 => exact V_mk HC0.out (Kd.F_below (C_F (Kd.heap_int .u64) HR0.out) bq)); rintro e w21 ⟨v485, rfl, ho0, hb⟩; have HO486 := zA (V_lower (V_mono (ok' := fun k_ => True) ho0 (fun k_ hk_ => trivial)) (below_size bq)); replace HB := ze hb; (try clear ho0)) | (go_at_call 84; (with_reducible refine (limbs_Trim.calls k (fun k_ => k_ < w.heap.size) _ _ l1 t487 _ ?side1 A4.out).mono ?_); (case side1 => exact V_mk HC1.out (Kd.F_below (C_F (Kd.heap_int .u64) HR1.out) bq)); rintro e w22 ⟨v488, rfl, ho0, hb⟩; replace HO486 := zA (V_below (vu HO486.out) hb); have HO489 := zA (V_lower (V_mono (ok' := fun k_ => True) ho0 (fun k_ hk_ => trivial)) (below_size bq)); replace HB := ze hb; (try clear ho0); obtain ⟨Ao23, co23, eo23⟩ := V_slice HO486.out; subst eo23; obtain ⟨Ao24, co24, eo24⟩ := V_slice HO489.out; subst eo24))
 repeat (go_quiet (first | (go_at_call 84; (with_reducible refine (limbs_Trim.calls k (fun k_ => k_ < w.heap.size) _ _ l0 t484 _ ?side1 A3.out).mono ?_); (case side1 => exact V_mk HC0.out (Kd.F_below (C_F (Kd.heap_int .u64) HR0.out) bq)); rintro e w21 ⟨v485, rfl, ho0, hb⟩; have HO486 := zA (V_lower (V_mono (ok' := fun k_ => True) ho0 (fun k_ hk_ => trivial)) (below_size bq)); replace HB := ze hb; (try clear ho0)) | (go_at_call 84; (with_reducible refine (limbs_Trim.calls k (fun k_ => k_ < w.heap.size) _ _ l1 t487 _ ?side1 A4.out).mono ?_); (case side1 => exact V_mk HC1.out (Kd.F_below (C_F (Kd.heap_int .u64) HR1.out) bq)); rintro e w22 ⟨v488, rfl, ho0, hb⟩; replace HO486 := zA (V_below (vu HO486.out) hb); have HO489 := zA (V_lower (V_mono (ok' := fun k_ => True) ho0 (fun k_ hk_ => trivial)) (below_size bq)); replace HB := ze hb; (try clear ho0); obtain ⟨Ao23, co23, eo23⟩ := V_slice HO486.out; subst eo23; obtain ⟨Ao24, co24, eo24⟩ := V_slice HO489.out; subst eo24)); try go_wp2_with (first | (go_at_call 84; (with_reducible refine (limbs_Trim.calls k (fun k_ => k_ < w.heap.size) _ _ l0 t484 _ ?side1 A3.out).mono ?_); (case side1 => exact V_mk HC0.out (Kd.F_below (C_F (Kd.heap_int .u64) HR0.out) bq)); rintro e w21 ⟨v485, rfl, ho0, hb⟩; have n0_ := zA (V_lower (V_mono (ok' := fun k_ => True) ho0 (fun k_ hk_ => trivial)) (below_size bq)); have n1_ := ze hb; clear HB; have HO486 := n0_; have HB := n1_; clear n0_ n1_; (try clear hb2); (try clear hk); (try clear hi); (try clear ho0)) | (go_at_call 84; (with_reducible refine (limbs_Trim.calls k (fun k_ => k_ < w.heap.size) _ _ l1 t487 _ ?side1 A4.out).mono ?_); (case side1 => exact V_mk HC1.out (Kd.F_below (C_F (Kd.heap_int .u64) HR1.out) bq)); rintro e w22 ⟨v488, rfl, ho0, hb⟩; have n0_ := zA (V_below (vu HO486.out) hb); have n1_ := zA (V_lower (V_mono (ok' := fun k_ => True) ho0 (fun k_ hk_ => trivial)) (below_size bq)); have n2_ := ze hb; clear HO486; clear HB; have HO486 := n0_; have HO489 := n1_; have HB := n2_; clear n0_ n1_ n2_; (try clear hb2); (try clear hk); (try clear hi); (try clear ho0); obtain ⟨Ao23, co23, eo23⟩ := V_slice HO486.out; subst eo23; obtain ⟨Ao24, co24, eo24⟩ := V_slice HO489.out; subst eo24)))
 go_ret
 exact ⟨er, bq⟩
end Go.Proofs.YtnjfckadjklmfaaDoor.PAll
