/- Printed functions, merged by a program of this session. -/
import Derived.Test.YtnjfckadjklmfaaDoorXRoundPointsP0
import Derived.Test.YtnjfckadjklmfaaDoorXRoundPointsSh
namespace Go.Proofs.YtnjfckadjklmfaaDoor.PAll
open Go.RowKit Go.Proofs.YtnjfckadjklmfaaDoorW.PrintWords Go.Proofs.YtnjfckadjklmfaaDoorW.PrintLast Go.Proofs.YtnjfckadjklmfaaDoorW.PrintMore Go.Proofs.YtnjfckadjklmfaaDoorW.PrintWords.Kd
attribute [local go_sem] max2_int min2_int max_two min_two max_three min_three max_four min_four   -- for this text's walks alone
set_option linter.unusedVariables false
set_option linter.unusedSimpArgs false
attribute [local go_sem] fld75_0 fld75_1 fld75_2 ext118 ext119
def limbs_Cmp.l0 : Nat → List Int → List Int → Int → Option (Int)
 | 0, _, _, _ => none
 | k + 1, x0, x1, x5 => if x5 ≥ 0 then (if 0 ≤ x5 then (if x5 < (x0.length : Int) then (if x5 < (x1.length : Int) then (if (rd x0 x5) = (rd x1 x5) then (limbs_Cmp.l0 k x0 x1 (wrap64 (x5 - 1))) else (if (rd x0 x5) < (rd x1 x5) then (some (-1)) else (some 1))) else (none)) else (none)) else (none)) else (some 0)
def limbs_Cmp.f (k : Nat) (l0 : List Int) (l1 : List Int) : Option (Int) := (limbs_Trim.f k l0).bind fun a1 => ((limbs_Trim.f k l1).bind fun a2 => (if (a1.length : Int) = (a2.length : Int) then (limbs_Cmp.l0 k a1 a2 (wrap64 ((a1.length : Int) - 1))) else (if (a1.length : Int) < (a2.length : Int) then (some (-1)) else (some 1))))
theorem limbs_Cmp.mono_l : ∀ k, (∀ y0 y1 y2, LeO (limbs_Cmp.l0 k y0 y1 y2) (limbs_Cmp.l0 (k + 1) y0 y1 y2))
 | 0 => fun _ _ _ r h => by simp [limbs_Cmp.l0] at h
 | k + 1 => by
  have ih0 := limbs_Cmp.mono_l k;intro y0 y1 y2
  unfold limbs_Cmp.l0
  repeat' first
  | (with_reducible exact ih0 _ _ _)
  | (with_reducible exact limbs_Trim.mono _ _)
  | (with_reducible exact LeO.refl _)
  | (with_reducible exact LeO.none _)
  | (with_reducible refine LeO.ite ?_ ?_)
  | (with_reducible refine LeO.bind ?_ (fun _ => ?_))
  | exact ih0 _ _ _
  | exact limbs_Trim.mono _ _
  | exact LeO.none _
  | refine LeO.ite ?_ ?_
  | refine LeO.bind ?_ (fun _ => ?_)
theorem limbs_Cmp.mono : ∀ a0 a1 k, LeO (limbs_Cmp.f k a0 a1) (limbs_Cmp.f (k + 1) a0 a1) := by
 intro a0 a1 k;have ih0 := limbs_Cmp.mono_l k
 unfold limbs_Cmp.f
 repeat' first
   | (with_reducible exact ih0 _ _ _)
   | (with_reducible exact limbs_Trim.mono _ _)
   | (with_reducible exact LeO.refl _)
   | (with_reducible exact LeO.none _)
   | (with_reducible refine LeO.ite ?_ ?_)
   | (with_reducible refine LeO.bind ?_ (fun _ => ?_))
   | exact ih0 _ _ _
   | exact limbs_Trim.mono _ _
   | exact LeO.none _
   | refine LeO.ite ?_ ?_
   | refine LeO.bind ?_ (fun _ => ?_)
set_option maxHeartbeats 8000000 in
set_option maxRecDepth 100000 in
theorem limbs_Cmp.calls (k : Nat) (A0 : Option Addr) (c0 : Nat) (l0 : List Int) (A1 : Option Addr) (c1 : Nat) (l1 : List Int) (r : Int) (w : World) (hr0 : Kd.C (Kd.int .u64) w A0 l0.length l0) (hc0 : l0.length ≤ c0) (hr1 : Kd.C (Kd.int .u64) w A1 l1.length l1) (hc1 : l1.length ≤ c1) (h : limbs_Cmp.f k l0 l1 = some r) :
  Calls Tryd.prog 91 #[.slice A0 l0.length c0, .slice A1 l1.length c1] w fun e w' => e = .returned (.int .i64 r) ∧ Below w.heap.size w w' := by
 have a8 := zA hr0;have a9 := zA hc0;clear hr0 hc0;have aa := zA hr1;have ab := zA hc1;clear hr1 hc1;have HB := zA (Below.refl w.heap.size w);have H : ((limbs_Trim.f k l0).bind fun a5 => ((limbs_Trim.f k l1).bind fun a6 => (if (a5.length : Int) = (a6.length : Int) then (limbs_Cmp.l0 k a5 a6 (wrap64 ((a5.length : Int) - 1))) else (if (a5.length : Int) < (a6.length : Int) then (some (-1)) else (some 1))))) = some r := h;clear h;obtain ⟨a5, A3, H⟩ := zh H;obtain ⟨a6, A4, H⟩ := zh H
 by_cases c5 : (a5.length : Int) = (a6.length : Int)
 ·rw [if_pos c5] at H;have ao := beq_iff_eq.mpr c5;have ap := bne_eq_false_iff_eq.mpr c5
  have aq : (a5.length == a6.length) = true := by first | simpa using c5 | (simp at c5 ⊢; omega)
  clear c5;have H' := zA H;clear H;go_enter Tryd.func91, Tryd.ntmps91
  go_wp2_with (first | (go_at_call 84; (with_reducible refine (limbs_Trim.calls k (fun k_ => k_ < w.heap.size) _ _ l0 a5 _ ?a2 A3.out).mono ?_); (case a2 => exact V_mk a9.out (Kd.F_below (C_F (Kd.heap_int .u64) a8.out) bq)); rintro e w6 ⟨v485, rfl, a3, hb⟩; have a1 := zA (V_lower (V_mono (ok' := fun k_ => True) a3 (fun k_ hk_ => trivial)) (below_size bq)); replace HB := ze hb; (try clear a3)) | (go_at_call 84; (with_reducible refine (limbs_Trim.calls k (fun k_ => k_ < w.heap.size) _ _ l1 a6 _ ?a2 A4.out).mono ?_); (case a2 => exact V_mk ab.out (Kd.F_below (C_F (Kd.heap_int .u64) aa.out) bq)); rintro e w7 ⟨v488, rfl, a3, hb⟩; replace a1 := zA (V_below (vu a1.out) hb); have a7 := zA (V_lower (V_mono (ok' := fun k_ => True) a3 (fun k_ hk_ => trivial)) (below_size bq)); replace HB := ze hb; (try clear a3); obtain ⟨ar, au, ak⟩ := V_slice a1.out; subst ak; obtain ⟨av, aw, al⟩ := V_slice a7.out; subst al))
  repeat (go_quiet (first | (go_at_call 84; (with_reducible refine (limbs_Trim.calls k (fun k_ => k_ < w.heap.size) _ _ l0 a5 _ ?a2 A3.out).mono ?_); (case a2 => exact V_mk a9.out (Kd.F_below (C_F (Kd.heap_int .u64) a8.out) bq)); rintro e w6 ⟨v485, rfl, a3, hb⟩; have a1 := zA (V_lower (V_mono (ok' := fun k_ => True) a3 (fun k_ hk_ => trivial)) (below_size bq)); replace HB := ze hb; (try clear a3)) | (go_at_call 84; (with_reducible refine (limbs_Trim.calls k (fun k_ => k_ < w.heap.size) _ _ l1 a6 _ ?a2 A4.out).mono ?_); (case a2 => exact V_mk ab.out (Kd.F_below (C_F (Kd.heap_int .u64) aa.out) bq)); rintro e w7 ⟨v488, rfl, a3, hb⟩; replace a1 := zA (V_below (vu a1.out) hb); have a7 := zA (V_lower (V_mono (ok' := fun k_ => True) a3 (fun k_ hk_ => trivial)) (below_size bq)); replace HB := ze hb; (try clear a3); obtain ⟨ar, au, ak⟩ := V_slice a1.out; subst ak; obtain ⟨av, aw, al⟩ := V_slice a7.out; subst al)); try go_wp2_with (first | (go_at_call 84; (with_reducible refine (limbs_Trim.calls k (fun k_ => k_ < w.heap.size) _ _ l0 a5 _ ?a2 A3.out).mono ?_); (case a2 => exact V_mk a9.out (Kd.F_below (C_F (Kd.heap_int .u64) a8.out) bq)); rintro e w6 ⟨v485, rfl, a3, hb⟩; have n0_ := zA (V_lower (V_mono (ok' := fun k_ => True) a3 (fun k_ hk_ => trivial)) (below_size bq)); have n1_ := ze hb; clear HB; have a1 := n0_; have HB := n1_; clear n0_ n1_; (try clear hb2); (try clear hk); (try clear hi); (try clear a3)) | (go_at_call 84; (with_reducible refine (limbs_Trim.calls k (fun k_ => k_ < w.heap.size) _ _ l1 a6 _ ?a2 A4.out).mono ?_); (case a2 => exact V_mk ab.out (Kd.F_below (C_F (Kd.heap_int .u64) aa.out) bq)); rintro e w7 ⟨v488, rfl, a3, hb⟩; have n0_ := zA (V_below (vu a1.out) hb); have n1_ := zA (V_lower (V_mono (ok' := fun k_ => True) a3 (fun k_ hk_ => trivial)) (below_size bq)); have n2_ := ze hb; clear a1; clear HB; have a1 := n0_; have a7 := n1_; have HB := n2_; clear n0_ n1_ n2_; (try clear hb2); (try clear hk); (try clear hi); (try clear a3); obtain ⟨ar, au, ak⟩ := V_slice a1.out; subst ak; obtain ⟨av, aw, al⟩ := V_slice a7.out; subst al)))
  go_loopg [5] k (fun kq v5 w' => ∃ (a4 : Int), v5 = .int .i64 a4 ∧ Aside0 (limbs_Cmp.l0 kq a5 a6 a4 = some r) ∧ Aside0 (kq ≤ k) ∧ Aside0 (Kd.V (Kd.int .u64) 26 w' w.heap.size (fun _ => True) (.slice ar a5.length au) a5) ∧ Aside0 (Kd.V (Kd.int .u64) 26 w' w.heap.size (fun _ => True) (.slice av a6.length aw) a6) ∧ Aside0 (Below w.heap.size w w'))
  case atStart => exact ⟨(wrap64 ((a5.length : Int) - 1)), zi, H', ⟨Nat.le_refl _⟩, ⟨vu a1.out⟩, ⟨vu a7.out⟩, ⟨bq⟩⟩
  case round =>
   clear H'
   try clear c1
   try clear c5
   try clear ao
   try clear ap
   try clear aq
   obtain ⟨a4, rfl, HA, HK1, ac, ad, HB⟩ := hrel
   cases gk with
   | zero => exact absurd HA.out (by simp [limbs_Cmp.l0])
   | succ k1 =>
    have H := HA.out;clear HA;simp only [limbs_Cmp.l0] at H
    by_cases c10 : a4 ≥ 0
    ·rw [if_pos c10] at H;have aG := decide_eq_true c10;clear c10;replace H := dn H;obtain ⟨c11, H⟩ := H;have aM := decide_eq_true c11;clear c11;replace H := dn H;obtain ⟨c12, H⟩ := H;have aN := decide_eq_true c12;clear c12;replace H := dn H;obtain ⟨c13, H⟩ := H;have aO := decide_eq_true c13;clear c13
     by_cases c14 : (rd a5 a4) = (rd a6 a4)
     ·rw [if_pos c14] at H;have aH := beq_iff_eq.mpr c14;have aI := bne_eq_false_iff_eq.mpr c14;clear c14;have H' := zA H;clear H;have p490 : 0 ≤ (a4 : Int) := od;have q490 : a4 < (a5.length : Int) := od;obtain ⟨ad490, e490, ai⟩ := Kd.at_int (V_reads' ac.out).2.2 a4 p490 q490;cases e490;replace p490 := eq_true p490;replace q490 := eq_true q490;have p491 : 0 ≤ (a4 : Int) := od;have q491 : a4 < (a6.length : Int) := od;obtain ⟨ad491, e491, aj⟩ := Kd.at_int (V_reads' ad.out).2.2 a4 p491 q491;cases e491;replace p491 := eq_true p491;replace q491 := eq_true q491
      go_wp2
      repeat (go_quiet (fail); try go_wp2)
      go_roundg k1
      case measure => have := HK1.out; omega
      case rel => exact ⟨(wrap64 (a4 - 1)), zi, H', ⟨by have := HK1.out; omega⟩, ⟨vu ac.out⟩, ⟨vu ad.out⟩, ⟨bq⟩⟩
     rw [if_neg c14] at H;have aH := beq_eq_false_iff_ne.mpr c14;have aI := bne_iff_ne.mpr c14
     by_cases c15 : (rd a5 a4) < (rd a6 a4)
     ·rw [if_pos c15] at H;have aJ := decide_eq_true c15;clear c15;obtain rfl := Option.some.inj H;have p490 : 0 ≤ (a4 : Int) := od;have q490 : a4 < (a5.length : Int) := od;obtain ⟨ad490, e490, ai⟩ := Kd.at_int (V_reads' ac.out).2.2 a4 p490 q490;cases e490;replace p490 := eq_true p490;replace q490 := eq_true q490;have p491 : 0 ≤ (a4 : Int) := od;have q491 : a4 < (a6.length : Int) := od;obtain ⟨ad491, e491, aj⟩ := Kd.at_int (V_reads' ad.out).2.2 a4 p491 q491;cases e491;replace p491 := eq_true p491;replace q491 := eq_true q491;have p492 : 0 ≤ (a4 : Int) := od;have q492 : a4 < (a5.length : Int) := od;obtain ⟨ad492, e492, am⟩ := Kd.at_int (V_reads' ac.out).2.2 a4 p492 q492;obtain rfl : ad490 = ad492 := (by injection e492);replace p492 := eq_true p492;replace q492 := eq_true q492;have p493 : 0 ≤ (a4 : Int) := od;have q493 : a4 < (a6.length : Int) := od;obtain ⟨ad493, e493, an⟩ := Kd.at_int (V_reads' ad.out).2.2 a4 p493 q493;obtain rfl : ad491 = ad493 := (by injection e493);replace p493 := eq_true p493;replace q493 := eq_true q493
      go_wp2
      repeat (go_quiet (fail); try go_wp2)
      go_ret;exact ⟨er, bq⟩
     rw [if_neg c15] at H;have aJ := decide_eq_false c15;clear c15;obtain rfl := Option.some.inj H;have p490 : 0 ≤ (a4 : Int) := od;have q490 : a4 < (a5.length : Int) := od;obtain ⟨ad490, e490, ai⟩ := Kd.at_int (V_reads' ac.out).2.2 a4 p490 q490;cases e490;replace p490 := eq_true p490;replace q490 := eq_true q490;have p491 : 0 ≤ (a4 : Int) := od;have q491 : a4 < (a6.length : Int) := od;obtain ⟨ad491, e491, aj⟩ := Kd.at_int (V_reads' ad.out).2.2 a4 p491 q491;cases e491;replace p491 := eq_true p491;replace q491 := eq_true q491;have p492 : 0 ≤ (a4 : Int) := od;have q492 : a4 < (a5.length : Int) := od;obtain ⟨ad492, e492, am⟩ := Kd.at_int (V_reads' ac.out).2.2 a4 p492 q492;obtain rfl : ad490 = ad492 := (by injection e492);replace p492 := eq_true p492;replace q492 := eq_true q492;have p493 : 0 ≤ (a4 : Int) := od;have q493 : a4 < (a6.length : Int) := od;obtain ⟨ad493, e493, an⟩ := Kd.at_int (V_reads' ad.out).2.2 a4 p493 q493;obtain rfl : ad491 = ad493 := (by injection e493);replace p493 := eq_true p493;replace q493 := eq_true q493
     go_wp2
     repeat (go_quiet (fail); try go_wp2)
     go_ret;exact ⟨er, bq⟩
    rw [if_neg c10] at H;have aG := decide_eq_false c10;clear c10;obtain rfl := Option.some.inj H
    go_wp2
    repeat (go_quiet (fail); try go_wp2)
    go_ret;exact ⟨er, bq⟩
 rw [if_neg c5] at H;have ao := beq_eq_false_iff_ne.mpr c5;have ap := bne_iff_ne.mpr c5
 have aq : (a5.length == a6.length) = false := by first | simpa using c5 | (simp at c5 ⊢; omega)
 by_cases c16 : (a5.length : Int) < (a6.length : Int)
 ·rw [if_pos c16] at H;have aK := decide_eq_true c16;have aL : decide (a5.length < a6.length) = true := decide_eq_true (Int.ofNat_lt.mp c16);clear c16;obtain rfl := Option.some.inj H;go_enter Tryd.func91, Tryd.ntmps91
  go_wp2_with (first | (go_at_call 84; (with_reducible refine (limbs_Trim.calls k (fun k_ => k_ < w.heap.size) _ _ l0 a5 _ ?a2 A3.out).mono ?_); (case a2 => exact V_mk a9.out (Kd.F_below (C_F (Kd.heap_int .u64) a8.out) bq)); rintro e w17 ⟨v485, rfl, a3, hb⟩; have a1 := zA (V_lower (V_mono (ok' := fun k_ => True) a3 (fun k_ hk_ => trivial)) (below_size bq)); replace HB := ze hb; (try clear a3)) | (go_at_call 84; (with_reducible refine (limbs_Trim.calls k (fun k_ => k_ < w.heap.size) _ _ l1 a6 _ ?a2 A4.out).mono ?_); (case a2 => exact V_mk ab.out (Kd.F_below (C_F (Kd.heap_int .u64) aa.out) bq)); rintro e w18 ⟨v488, rfl, a3, hb⟩; replace a1 := zA (V_below (vu a1.out) hb); have a7 := zA (V_lower (V_mono (ok' := fun k_ => True) a3 (fun k_ hk_ => trivial)) (below_size bq)); replace HB := ze hb; (try clear a3); obtain ⟨ax, ay, ae⟩ := V_slice a1.out; subst ae; obtain ⟨aA, aB, af⟩ := V_slice a7.out; subst af))
  repeat (go_quiet (first | (go_at_call 84; (with_reducible refine (limbs_Trim.calls k (fun k_ => k_ < w.heap.size) _ _ l0 a5 _ ?a2 A3.out).mono ?_); (case a2 => exact V_mk a9.out (Kd.F_below (C_F (Kd.heap_int .u64) a8.out) bq)); rintro e w17 ⟨v485, rfl, a3, hb⟩; have a1 := zA (V_lower (V_mono (ok' := fun k_ => True) a3 (fun k_ hk_ => trivial)) (below_size bq)); replace HB := ze hb; (try clear a3)) | (go_at_call 84; (with_reducible refine (limbs_Trim.calls k (fun k_ => k_ < w.heap.size) _ _ l1 a6 _ ?a2 A4.out).mono ?_); (case a2 => exact V_mk ab.out (Kd.F_below (C_F (Kd.heap_int .u64) aa.out) bq)); rintro e w18 ⟨v488, rfl, a3, hb⟩; replace a1 := zA (V_below (vu a1.out) hb); have a7 := zA (V_lower (V_mono (ok' := fun k_ => True) a3 (fun k_ hk_ => trivial)) (below_size bq)); replace HB := ze hb; (try clear a3); obtain ⟨ax, ay, ae⟩ := V_slice a1.out; subst ae; obtain ⟨aA, aB, af⟩ := V_slice a7.out; subst af)); try go_wp2_with (first | (go_at_call 84; (with_reducible refine (limbs_Trim.calls k (fun k_ => k_ < w.heap.size) _ _ l0 a5 _ ?a2 A3.out).mono ?_); (case a2 => exact V_mk a9.out (Kd.F_below (C_F (Kd.heap_int .u64) a8.out) bq)); rintro e w17 ⟨v485, rfl, a3, hb⟩; have n0_ := zA (V_lower (V_mono (ok' := fun k_ => True) a3 (fun k_ hk_ => trivial)) (below_size bq)); have n1_ := ze hb; clear HB; have a1 := n0_; have HB := n1_; clear n0_ n1_; (try clear hb2); (try clear hk); (try clear hi); (try clear a3)) | (go_at_call 84; (with_reducible refine (limbs_Trim.calls k (fun k_ => k_ < w.heap.size) _ _ l1 a6 _ ?a2 A4.out).mono ?_); (case a2 => exact V_mk ab.out (Kd.F_below (C_F (Kd.heap_int .u64) aa.out) bq)); rintro e w18 ⟨v488, rfl, a3, hb⟩; have n0_ := zA (V_below (vu a1.out) hb); have n1_ := zA (V_lower (V_mono (ok' := fun k_ => True) a3 (fun k_ hk_ => trivial)) (below_size bq)); have n2_ := ze hb; clear a1; clear HB; have a1 := n0_; have a7 := n1_; have HB := n2_; clear n0_ n1_ n2_; (try clear hb2); (try clear hk); (try clear hi); (try clear a3); obtain ⟨ax, ay, ae⟩ := V_slice a1.out; subst ae; obtain ⟨aA, aB, af⟩ := V_slice a7.out; subst af)))
  go_ret;exact ⟨er, bq⟩
 rw [if_neg c16] at H;have aK := decide_eq_false c16;have aL : decide (a5.length < a6.length) = false := decide_eq_false (fun h => c16 (Int.ofNat_lt.mpr h));clear c16;obtain rfl := Option.some.inj H;go_enter Tryd.func91, Tryd.ntmps91
 go_wp2_with (first | (go_at_call 84; (with_reducible refine (limbs_Trim.calls k (fun k_ => k_ < w.heap.size) _ _ l0 a5 _ ?a2 A3.out).mono ?_); (case a2 => exact V_mk a9.out (Kd.F_below (C_F (Kd.heap_int .u64) a8.out) bq)); rintro e w21 ⟨v485, rfl, a3, hb⟩; have a1 := zA (V_lower (V_mono (ok' := fun k_ => True) a3 (fun k_ hk_ => trivial)) (below_size bq)); replace HB := ze hb; (try clear a3)) | (go_at_call 84; (with_reducible refine (limbs_Trim.calls k (fun k_ => k_ < w.heap.size) _ _ l1 a6 _ ?a2 A4.out).mono ?_); (case a2 => exact V_mk ab.out (Kd.F_below (C_F (Kd.heap_int .u64) aa.out) bq)); rintro e w22 ⟨v488, rfl, a3, hb⟩; replace a1 := zA (V_below (vu a1.out) hb); have a7 := zA (V_lower (V_mono (ok' := fun k_ => True) a3 (fun k_ hk_ => trivial)) (below_size bq)); replace HB := ze hb; (try clear a3); obtain ⟨aC, aD, ag⟩ := V_slice a1.out; subst ag; obtain ⟨aE, aF, ah⟩ := V_slice a7.out; subst ah))
 repeat (go_quiet (first | (go_at_call 84; (with_reducible refine (limbs_Trim.calls k (fun k_ => k_ < w.heap.size) _ _ l0 a5 _ ?a2 A3.out).mono ?_); (case a2 => exact V_mk a9.out (Kd.F_below (C_F (Kd.heap_int .u64) a8.out) bq)); rintro e w21 ⟨v485, rfl, a3, hb⟩; have a1 := zA (V_lower (V_mono (ok' := fun k_ => True) a3 (fun k_ hk_ => trivial)) (below_size bq)); replace HB := ze hb; (try clear a3)) | (go_at_call 84; (with_reducible refine (limbs_Trim.calls k (fun k_ => k_ < w.heap.size) _ _ l1 a6 _ ?a2 A4.out).mono ?_); (case a2 => exact V_mk ab.out (Kd.F_below (C_F (Kd.heap_int .u64) aa.out) bq)); rintro e w22 ⟨v488, rfl, a3, hb⟩; replace a1 := zA (V_below (vu a1.out) hb); have a7 := zA (V_lower (V_mono (ok' := fun k_ => True) a3 (fun k_ hk_ => trivial)) (below_size bq)); replace HB := ze hb; (try clear a3); obtain ⟨aC, aD, ag⟩ := V_slice a1.out; subst ag; obtain ⟨aE, aF, ah⟩ := V_slice a7.out; subst ah)); try go_wp2_with (first | (go_at_call 84; (with_reducible refine (limbs_Trim.calls k (fun k_ => k_ < w.heap.size) _ _ l0 a5 _ ?a2 A3.out).mono ?_); (case a2 => exact V_mk a9.out (Kd.F_below (C_F (Kd.heap_int .u64) a8.out) bq)); rintro e w21 ⟨v485, rfl, a3, hb⟩; have n0_ := zA (V_lower (V_mono (ok' := fun k_ => True) a3 (fun k_ hk_ => trivial)) (below_size bq)); have n1_ := ze hb; clear HB; have a1 := n0_; have HB := n1_; clear n0_ n1_; (try clear hb2); (try clear hk); (try clear hi); (try clear a3)) | (go_at_call 84; (with_reducible refine (limbs_Trim.calls k (fun k_ => k_ < w.heap.size) _ _ l1 a6 _ ?a2 A4.out).mono ?_); (case a2 => exact V_mk ab.out (Kd.F_below (C_F (Kd.heap_int .u64) aa.out) bq)); rintro e w22 ⟨v488, rfl, a3, hb⟩; have n0_ := zA (V_below (vu a1.out) hb); have n1_ := zA (V_lower (V_mono (ok' := fun k_ => True) a3 (fun k_ hk_ => trivial)) (below_size bq)); have n2_ := ze hb; clear a1; clear HB; have a1 := n0_; have a7 := n1_; have HB := n2_; clear n0_ n1_ n2_; (try clear hb2); (try clear hk); (try clear hi); (try clear a3); obtain ⟨aC, aD, ag⟩ := V_slice a1.out; subst ag; obtain ⟨aE, aF, ah⟩ := V_slice a7.out; subst ah)))
 go_ret;exact ⟨er, bq⟩
end Go.Proofs.YtnjfckadjklmfaaDoor.PAll
