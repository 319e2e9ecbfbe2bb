/- Printed functions, merged by a program of this session. -/
import Derived.Test.YtemfckibdojbbaaDoorXDyadFloatsP0
import Derived.Test.YtemfckibdojbbaaDoorXDyadFloatsP1
import Derived.Laws.StructEq
import Derived.Test.YtemfckibdojbbaaDoorXDyadFloatsSh
namespace Go.Proofs.YtemfckibdojbbaaDoor.PAll
open Go.RowKit Go.Proofs.YtemfckibdojbbaaDoorW.PrintWords Go.Proofs.YtemfckibdojbbaaDoorW.PrintLast Go.Proofs.YtemfckibdojbbaaDoorW.PrintMore Go.Proofs.YtemfckibdojbbaaDoorW.PrintWords.Kd
attribute [local go_sem] max2_int min2_int max_two min_two max_three min_three max_four min_four   -- for this text's walks alone
set_option linter.unusedVariables false
set_option linter.unusedSimpArgs false
attribute [local go_sem] ext135 ext136
def dyad_From.f (k : Nat) (a0 : Int) : Option (Bool × List Int × Int × Int) := if (wrap64 (Go.bits .and .u64 (a0 / 4503599627370496) 2047)) = 2047 then (some (false, ([] : List Int), 0, 5)) else (if (wrap64 (Go.bits .and .u64 (a0 / 4503599627370496) 2047)) = 0 then ((raw_Form.f k ((a0 / 9223372036854775808) == 1) (([Go.bits .and .u64 a0 4503599627370495] : List Int)) (1 - 1075)).bind fun bt384 => (some (bt384.1, bt384.2.1, bt384.2.2, 0))) else ((raw_Form.f k ((a0 / 9223372036854775808) == 1) (([Go.bits .or .u64 (Go.bits .and .u64 a0 4503599627370495) 4503599627370496] : List Int)) (wrap64 ((wrap64 (Go.bits .and .u64 (a0 / 4503599627370496) 2047)) - 1075))).bind fun bt392 => (some (bt392.1, bt392.2.1, bt392.2.2, 0))))
theorem dyad_From.mono : ∀ a0 k, LeO (dyad_From.f k a0) (dyad_From.f (k + 1) a0) := by
 intro a0 k
 unfold dyad_From.f
 repeat' first
   | (with_reducible exact raw_Form.mono _ _ _ _)
   | (with_reducible exact LeO.refl _)
   | (with_reducible exact LeO.none _)
   | (with_reducible refine LeO.ite ?_ ?_)
   | (with_reducible refine LeO.bind ?_ (fun _ => ?_))
   | exact raw_Form.mono _ _ _ _
   | exact LeO.none _
   | refine LeO.ite ?_ ?_
   | refine LeO.bind ?_ (fun _ => ?_)
set_option maxHeartbeats 8000000 in
set_option maxRecDepth 100000 in
theorem dyad_From.calls (k : Nat) (a0 : Int) (r1 : Bool) (r2 : List Int) (r3 : Int) (r4 : Int) (w : World) (hT : Laid w) (h : dyad_From.f k a0 = some (r1, r2, r3, r4)) :
  Calls Tryd.prog 41 #[.int .u64 a0] w fun e w' => ∃ v1_ : Value, e = .returned (.tuple #[.agg #[.bool r1, v1_, .int .i64 r3], .int .i64 r4]) ∧ Kd.V (Kd.int .u64) 43 w' w.heap.size (fun k_ => (w.heap.size ≤ k_)) v1_ r2 ∧ Below w.heap.size w w' := by
 have hu25 := Tryd.underlying25
 have HB := zA (Below.refl w.heap.size w)
 have H : (if (wrap64 (Go.bits .and .u64 (a0 / 4503599627370496) 2047)) = 2047 then (some (false, ([] : List Int), 0, 5)) else (if (wrap64 (Go.bits .and .u64 (a0 / 4503599627370496) 2047)) = 0 then ((raw_Form.f k ((a0 / 9223372036854775808) == 1) (([Go.bits .and .u64 a0 4503599627370495] : List Int)) (1 - 1075)).bind fun bt384 => (some (bt384.1, bt384.2.1, bt384.2.2, 0))) else ((raw_Form.f k ((a0 / 9223372036854775808) == 1) (([Go.bits .or .u64 (Go.bits .and .u64 a0 4503599627370495) 4503599627370496] : List Int)) (wrap64 ((wrap64 (Go.bits .and .u64 (a0 / 4503599627370496) 2047)) - 1075))).bind fun bt392 => (some (bt392.1, bt392.2.1, bt392.2.2, 0))))) = some (r1, r2, r3, r4) := h
 clear h
 by_cases c2 : (wrap64 (Go.bits .and .u64 (a0 / 4503599627370496) 2047)) = 2047
 ·rw [if_pos c2] at H
  have c2b0 := beq_iff_eq.mpr c2
  have c2b1 := bne_eq_false_iff_eq.mpr c2
  clear c2
  simp only [Option.some.injEq, Prod.mk.injEq] at H
  obtain ⟨rfl, rfl, rfl, rfl⟩ := H
  go_enter Tryd.func41, Tryd.ntmps41
  go_wp2_with (first | ((with_reducible refine zD 2 rfl ?_); refine zn (N := 2) (cs := #[.bool false, .slice none 0 0, .int .i64 0]) (t := 25) rfl rfl ?_; intro gb380 hg w3 hbox hb; have BK380 := zA (hbox); have GW380 := zw hg; replace HB := ze hb; clear hb hbox hg; obtain ⟨_, _, _, _, _, _⟩ := zc BK380))
  refine bodyPost_ret (results_ct rfl _ _ gb380 25 #[.bool false, .slice none 0 0, .int .i64 0] (0, 0) _ rfl (zy BK380) Tryd.underlying25 rfl (by kernel_rfl)) rfl ?_
  exact ⟨_, er, V_nil _ _ _ _ _, zs⟩
 rw [if_neg c2] at H
 have c2b0 := beq_eq_false_iff_ne.mpr c2
 have c2b1 := bne_iff_ne.mpr c2
 by_cases c5 : (wrap64 (Go.bits .and .u64 (a0 / 4503599627370496) 2047)) = 0
 ·rw [if_pos c5] at H
  have c5b0 := beq_iff_eq.mpr c5
  have c5b1 := bne_eq_false_iff_eq.mpr c5
  clear c5
  obtain ⟨y381, hy381⟩ : ∃ y_ : List Int, y_ = (([Go.bits .and .u64 a0 4503599627370495] : List Int)) := ⟨_, rfl⟩
  replace H : ((raw_Form.f k ((a0 / 9223372036854775808) == 1) y381 (1 - 1075)).bind fun bt384 => (some (bt384.1, bt384.2.1, bt384.2.2, 0))) = some (r1, r2, r3, r4) := zR hy381 H
  have Ny381 := zA hy381
  clear hy381
  obtain ⟨⟨t384, t385, t388⟩, A6, H⟩ := zh H
  (try dsimp only at H)
  simp only [Option.some.injEq, Prod.mk.injEq] at H
  obtain ⟨rfl, rfl, rfl, rfl⟩ := H
  go_enter Tryd.func41, Tryd.ntmps41
  go_wp2_with (first | ((with_reducible refine zD 2 rfl ?_); refine zn (N := 2) (cs := #[.bool false, .slice none 0 0, .int .i64 0]) (t := 25) rfl rfl ?_; intro gb380 hg w7 hbox hb; have BK380 := zA (hbox); have GW380 := zw hg; replace HB := ze hb; clear hb hbox hg) | ((with_reducible refine zD 24 rfl ?_); refine R_lit (Kd.int .u64) _ 43 ?hg (N := 24) ?hd (xs := ([Go.bits .and .u64 a0 4503599627370495] : List Int)) (inner := [.int .u64 (Go.bits .and .u64 a0 4503599627370495)]) (ok := fun _ => True) (okp := fun _ => True) ?hr ?hp (fun _ hk => hk) trivial (Below.refl _ _) (Nat.le_refl _) (by simp) ?_; (case hd => rfl); (case hg => rfl); (case hr => first | (go_simp; done) | (go_simp; rfl)); (case hp => exact (Reps.one (show Kd.M (Kd.int .u64) _ _ _ (Go.bits .and .u64 a0 4503599627370495) [.int .u64 (Go.bits .and .u64 a0 4503599627370495)] from rfl) (Reps.none _ _))); intro v382 w8 ho9 hb hg_ hnew_; clear hg_ hnew_; (first | rw [← Ny381.out] at ho9 | (simp only [Int.reduceToNat] at ho9; rw [← Ny381.out] at ho9)); have HO383 := zA (R_lower (R_newM (M := fun k_ => (w.heap.size ≤ k_)) ho9 (below_size zs) (fun k_ h_ => h_)) (below_size zs)); replace BK380 := zb BK380 hb; replace HB := zf hb; clear hb ho9; obtain ⟨Ao10, co10, eo10⟩ := R_slice HO383.out; subst eo10) | ((with_reducible refine zG 91 rfl ?_); refine zL (some 27) rfl rfl Tryd.func91 #[.bool ((a0 / 9223372036854775808) == 1), .slice Ao10 y381.length co10, .int .i64 (1 - 1075)] rfl ?_; (with_reducible refine (raw_Form.calls k ((a0 / 9223372036854775808) == 1) (fun k_ => some k_ = (.slice Ao10 y381.length co10 : Value).ownBlock) _ _ y381 (1 - 1075) t384 t385 t388 _ ?side1 (laid_below hT zs) A6.out).mono ?_); (case side1 => exact R_V (R_tight rfl (R_types (HO383.out) BK380.out (by decide)))); rintro e w11 ⟨v386, rfl, ho0, hb⟩; refine ⟨_, rfl, ?_⟩; have HO387 := zA (V_lower (V_mono (ok' := fun k_ => (w.heap.size ≤ k_) ∧ k_ ≠ gb380) ho0 (fun k_ hk_ => ⟨Or.elim hk_ (fun hs_ => ((R_types (HO383.out) BK380.out (by decide)).1 k_ hs_.symm).1.1) (fun hn_ => (Nat.le_trans (below_size zs) hn_)), Or.elim hk_ (fun hs_ => ((R_types (HO383.out) BK380.out (by decide)).1 k_ hs_.symm).2) (fun hn_ => (zj BK380 k_ hn_))⟩)) (below_size zs)); replace HO383 := zA (R_below (ru HO383.out) hb); replace BK380 := zb BK380 hb; replace HB := zf hb; (try clear ho0); obtain ⟨hcz12_0, hcz12_1, hcz12_2, hfz12_0, hfz12_1, hfz12_2⟩ := zc BK380; obtain ⟨Ao13, co13, eo13⟩ := V_slice HO387.out; subst eo13))
  refine bodyPost_ret (results_ct rfl _ _ gb380 25 #[.bool t384, .slice Ao13 t385.length co13, .int .i64 t388] (0, 0) _ rfl (zy BK380) Tryd.underlying25 rfl (by kernel_rfl)) rfl ?_
  exact ⟨_, er, vu (V_mono (zv gb380 (V_mono HO387.out (fun k_ hk => (⟨hk, hk.2⟩ : _ ∧ k_ ≠ gb380))) (fun _ hk => hk.2) _ _ _) (fun _ hk => hk.1.1)), zs⟩
 rw [if_neg c5] at H
 have c5b0 := beq_eq_false_iff_ne.mpr c5
 have c5b1 := bne_iff_ne.mpr c5
 obtain ⟨y389, hy389⟩ : ∃ y_ : List Int, y_ = (([Go.bits .or .u64 (Go.bits .and .u64 a0 4503599627370495) 4503599627370496] : List Int)) := ⟨_, rfl⟩
 replace H : ((raw_Form.f k ((a0 / 9223372036854775808) == 1) y389 (wrap64 ((wrap64 (Go.bits .and .u64 (a0 / 4503599627370496) 2047)) - 1075))).bind fun bt392 => (some (bt392.1, bt392.2.1, bt392.2.2, 0))) = some (r1, r2, r3, r4) := zR hy389 H
 have Ny389 := zA hy389
 clear hy389
 obtain ⟨⟨t392, t393, t396⟩, A14, H⟩ := zh H
 (try dsimp only at H)
 simp only [Option.some.injEq, Prod.mk.injEq] at H
 obtain ⟨rfl, rfl, rfl, rfl⟩ := H
 go_enter Tryd.func41, Tryd.ntmps41
 go_wp2_with (first | ((with_reducible refine zD 2 rfl ?_); refine zn (N := 2) (cs := #[.bool false, .slice none 0 0, .int .i64 0]) (t := 25) rfl rfl ?_; intro gb380 hg w15 hbox hb; have BK380 := zA (hbox); have GW380 := zw hg; replace HB := ze hb; clear hb hbox hg) | ((with_reducible refine zD 24 rfl ?_); refine R_lit (Kd.int .u64) _ 43 ?hg (N := 24) ?hd (xs := ([Go.bits .or .u64 (Go.bits .and .u64 a0 4503599627370495) 4503599627370496] : List Int)) (inner := [.int .u64 (Go.bits .or .u64 (Go.bits .and .u64 a0 4503599627370495) 4503599627370496)]) (ok := fun _ => True) (okp := fun _ => True) ?hr ?hp (fun _ hk => hk) trivial (Below.refl _ _) (Nat.le_refl _) (by simp) ?_; (case hd => rfl); (case hg => rfl); (case hr => first | (go_simp; done) | (go_simp; rfl)); (case hp => exact (Reps.one (show Kd.M (Kd.int .u64) _ _ _ (Go.bits .or .u64 (Go.bits .and .u64 a0 4503599627370495) 4503599627370496) [.int .u64 (Go.bits .or .u64 (Go.bits .and .u64 a0 4503599627370495) 4503599627370496)] from rfl) (Reps.none _ _))); intro v390 w16 ho17 hb hg_ hnew_; clear hg_ hnew_; (first | rw [← Ny389.out] at ho17 | (simp only [Int.reduceToNat] at ho17; rw [← Ny389.out] at ho17)); have HO391 := zA (R_lower (R_newM (M := fun k_ => (w.heap.size ≤ k_)) ho17 (below_size zs) (fun k_ h_ => h_)) (below_size zs)); replace BK380 := zb BK380 hb; replace HB := zf hb; clear hb ho17; obtain ⟨Ao18, co18, eo18⟩ := R_slice HO391.out; subst eo18) | ((with_reducible refine zG 91 rfl ?_); refine zL (some 27) rfl rfl Tryd.func91 #[.bool ((a0 / 9223372036854775808) == 1), .slice Ao18 y389.length co18, .int .i64 (wrap64 ((wrap64 (Go.bits .and .u64 (a0 / 4503599627370496) 2047)) - 1075))] rfl ?_; (with_reducible refine (raw_Form.calls k ((a0 / 9223372036854775808) == 1) (fun k_ => some k_ = (.slice Ao18 y389.length co18 : Value).ownBlock) _ _ y389 (wrap64 ((wrap64 (Go.bits .and .u64 (a0 / 4503599627370496) 2047)) - 1075)) t392 t393 t396 _ ?side1 (laid_below hT zs) A14.out).mono ?_); (case side1 => exact R_V (R_tight rfl (R_types (HO391.out) BK380.out (by decide)))); rintro e w19 ⟨v394, rfl, ho0, hb⟩; refine ⟨_, rfl, ?_⟩; have HO395 := zA (V_lower (V_mono (ok' := fun k_ => (w.heap.size ≤ k_) ∧ k_ ≠ gb380) ho0 (fun k_ hk_ => ⟨Or.elim hk_ (fun hs_ => ((R_types (HO391.out) BK380.out (by decide)).1 k_ hs_.symm).1.1) (fun hn_ => (Nat.le_trans (below_size zs) hn_)), Or.elim hk_ (fun hs_ => ((R_types (HO391.out) BK380.out (by decide)).1 k_ hs_.symm).2) (fun hn_ => (zj BK380 k_ hn_))⟩)) (below_size zs)); replace HO391 := zA (R_below (ru HO391.out) hb); replace BK380 := zb BK380 hb; replace HB := zf hb; (try clear ho0); obtain ⟨hcz20_0, hcz20_1, hcz20_2, hfz20_0, hfz20_1, hfz20_2⟩ := zc BK380; obtain ⟨Ao21, co21, eo21⟩ := V_slice HO395.out; subst eo21))
 refine bodyPost_ret (results_ct rfl _ _ gb380 25 #[.bool t392, .slice Ao21 t393.length co21, .int .i64 t396] (0, 0) _ rfl (zy BK380) Tryd.underlying25 rfl (by kernel_rfl)) rfl ?_
 exact ⟨_, er, vu (V_mono (zv gb380 (V_mono HO395.out (fun k_ hk => (⟨hk, hk.2⟩ : _ ∧ k_ ≠ gb380))) (fun _ hk => hk.2) _ _ _) (fun _ hk => hk.1.1)), zs⟩
def limbs_Of.f (a0 : Int) : Option (List Int) := if a0 = 0 then (some ([] : List Int)) else (some (([a0] : List Int)))
set_option maxHeartbeats 8000000 in
set_option maxRecDepth 100000 in
theorem limbs_Of.calls (a0 : Int) (r : List Int) (w : World) (h : limbs_Of.f a0 = some r) :
  Calls Tryd.prog 117 #[.int .u64 a0] w fun e w' => ∃ v0_ : Value, e = .returned (v0_) ∧ Kd.R (Kd.int .u64) 43 w' w.heap.size (fun _ => True) v0_ r ∧ Below w.heap.size w w' := by
 have HB := zA (Below.refl w.heap.size w)
 have H : (if a0 = 0 then (some ([] : List Int)) else (some (([a0] : List Int)))) = some r := h
 clear h
 by_cases c2 : a0 = 0
 ·rw [if_pos c2] at H
  have c2b0 := beq_iff_eq.mpr c2
  have c2b1 := bne_eq_false_iff_eq.mpr c2
  clear c2
  obtain rfl := Option.some.inj H
  go_enter Tryd.func117, Tryd.ntmps117
  go_wp2
  go_ret
  exact ⟨_, er, by first | exact R_nil _ _ _ _ _ | exact Kd.N_nil _ _ _ _ _ | exact V_nil _ _ _ _ _ | exact Kd.Q_nil _ _ _ _ _ | exact Kd.S_nil _ _ _ _ _, bq⟩
 rw [if_neg c2] at H
 have c2b0 := beq_eq_false_iff_ne.mpr c2
 have c2b1 := bne_iff_ne.mpr c2
 obtain ⟨y297, hy297⟩ : ∃ y_ : List Int, y_ = (([a0] : List Int)) := ⟨_, rfl⟩
 replace H : (some y297) = some r := zR hy297 H
 have Ny297 := zA hy297
 clear hy297
 obtain rfl := Option.some.inj H
 go_enter Tryd.func117, Tryd.ntmps117
 go_wp2_with (first | ((with_reducible refine zD 6 rfl ?_); refine R_lit (Kd.int .u64) _ 43 ?hg (N := 6) ?hd (xs := ([a0] : List Int)) (inner := [.int .u64 a0]) (ok := fun _ => True) (okp := fun _ => True) ?hr ?hp (fun _ hk => hk) trivial (Below.refl _ _) (Nat.le_refl _) (by simp) ?_; (case hd => rfl); (case hg => rfl); (case hr => first | (go_simp; done) | (go_simp; rfl)); (case hp => exact (Reps.one (show Kd.M (Kd.int .u64) _ _ _ a0 [.int .u64 a0] from rfl) (Reps.none _ _))); intro v298 w3 ho4 hb hg_ hnew_; clear hg_ hnew_; (first | rw [← Ny297.out] at ho4 | (simp only [Int.reduceToNat] at ho4; rw [← Ny297.out] at ho4)); have HO299 := zA (R_lower ho4 (below_size bq)); replace HB := ze hb; clear hb ho4))
 go_ret
 exact ⟨_, er, ru HO299.out, bq⟩
def raw_Int.f (k : Nat) (a0 : Int) : Option (Bool × List Int × Int) := if a0 < 0 then ((limbs_Of.f (IntKind.u64.wrap (-(IntKind.u64.wrap (a0))))).bind fun t398 => ((raw_Form.f k (decide (a0 < 0)) t398 0).bind fun bt401 => (some (bt401.1, bt401.2.1, bt401.2.2)))) else ((limbs_Of.f (IntKind.u64.wrap (a0))).bind fun t406 => ((raw_Form.f k (decide (a0 < 0)) t406 0).bind fun bt409 => (some (bt409.1, bt409.2.1, bt409.2.2))))
theorem raw_Int.mono : ∀ a0 k, LeO (raw_Int.f k a0) (raw_Int.f (k + 1) a0) := by
 intro a0 k
 unfold raw_Int.f
 repeat' first
   | (with_reducible exact raw_Form.mono _ _ _ _)
   | (with_reducible exact LeO.refl _)
   | (with_reducible exact LeO.none _)
   | (with_reducible refine LeO.ite ?_ ?_)
   | (with_reducible refine LeO.bind ?_ (fun _ => ?_))
   | exact raw_Form.mono _ _ _ _
   | exact LeO.none _
   | refine LeO.ite ?_ ?_
   | refine LeO.bind ?_ (fun _ => ?_)
set_option maxHeartbeats 8000000 in
set_option maxRecDepth 100000 in
theorem raw_Int.calls (k : Nat) (a0 : Int) (r1 : Bool) (r2 : List Int) (r3 : Int) (w : World) (hT : Laid w) (h : raw_Int.f k a0 = some (r1, r2, r3)) :
  Calls Tryd.prog 98 #[.int .i64 a0] w fun e w' => ∃ v1_ : Value, e = .returned (.agg #[.bool r1, v1_, .int .i64 r3]) ∧ Kd.V (Kd.int .u64) 43 w' w.heap.size (fun k_ => (w.heap.size ≤ k_)) v1_ r2 ∧ Below w.heap.size w w' := by
 have hu25 := Tryd.underlying25
 have HB := zA (Below.refl w.heap.size w)
 have H : (if a0 < 0 then ((limbs_Of.f (IntKind.u64.wrap (-(IntKind.u64.wrap (a0))))).bind fun t398 => ((raw_Form.f k (decide (a0 < 0)) t398 0).bind fun bt401 => (some (bt401.1, bt401.2.1, bt401.2.2)))) else ((limbs_Of.f (IntKind.u64.wrap (a0))).bind fun t406 => ((raw_Form.f k (decide (a0 < 0)) t406 0).bind fun bt409 => (some (bt409.1, bt409.2.1, bt409.2.2))))) = some (r1, r2, r3) := h
 clear h
 by_cases c2 : a0 < 0
 ·rw [if_pos c2] at H
  have c2b0 := decide_eq_true c2
  clear c2
  obtain ⟨t398, A3, H⟩ := zh H
  obtain ⟨⟨t401, t402, t405⟩, A4, H⟩ := zh H
  (try dsimp only at H)
  simp only [Option.some.injEq, Prod.mk.injEq] at H
  obtain ⟨rfl, rfl, rfl⟩ := H
  rw [c2b0] at A4
  go_enter Tryd.func98, Tryd.ntmps98
  go_wp2_with (first | ((with_reducible refine zD 2 rfl ?_); refine zn (N := 2) (cs := #[.bool false, .slice none 0 0, .int .i64 0]) (t := 25) rfl rfl ?_; intro gb397 hg w5 hbox hb; have BK397 := zA (hbox); have GW397 := zw hg; replace HB := ze hb; clear hb hbox hg) | ((with_reducible refine zG 117 rfl ?_); refine zL (some 13) rfl rfl Tryd.func117 #[.int .u64 (IntKind.u64.wrap (-(IntKind.u64.wrap (a0))))] rfl ?_; (with_reducible refine (limbs_Of.calls (IntKind.u64.wrap (-(IntKind.u64.wrap (a0)))) t398 _ A3.out).mono ?_); rintro e w6 ⟨v399, rfl, ho0, hb⟩; refine ⟨_, rfl, ?_⟩; have HO400 := zA (R_lower (R_newM (M := fun k_ => (w.heap.size ≤ k_)) ho0 (below_size zs) (fun k_ h_ => h_)) (below_size zs)); replace BK397 := zb BK397 hb; replace HB := zf hb; (try clear ho0); obtain ⟨Ao7, co7, eo7⟩ := R_slice HO400.out; subst eo7) | ((with_reducible refine zG 91 rfl ?_); refine zL (some 14) rfl rfl Tryd.func91 #[.bool true, .slice Ao7 t398.length co7, .int .i64 0] rfl ?_; (with_reducible refine (raw_Form.calls k true (fun k_ => some k_ = (.slice Ao7 t398.length co7 : Value).ownBlock) _ _ t398 0 t401 t402 t405 _ ?side1 (laid_below hT zs) A4.out).mono ?_); (case side1 => exact R_V (R_tight rfl (R_types (HO400.out) BK397.out (by decide)))); rintro e w8 ⟨v403, rfl, ho0, hb⟩; refine ⟨_, rfl, ?_⟩; have HO404 := zA (V_lower (V_mono (ok' := fun k_ => (w.heap.size ≤ k_) ∧ k_ ≠ gb397) ho0 (fun k_ hk_ => ⟨Or.elim hk_ (fun hs_ => ((R_types (HO400.out) BK397.out (by decide)).1 k_ hs_.symm).1.1) (fun hn_ => (Nat.le_trans (below_size zs) hn_)), Or.elim hk_ (fun hs_ => ((R_types (HO400.out) BK397.out (by decide)).1 k_ hs_.symm).2) (fun hn_ => (zj BK397 k_ hn_))⟩)) (below_size zs)); replace HO400 := zA (R_below (ru HO400.out) hb); replace BK397 := zb BK397 hb; replace HB := zf hb; (try clear ho0); obtain ⟨hcz9_0, hcz9_1, hcz9_2, hfz9_0, hfz9_1, hfz9_2⟩ := zc BK397; obtain ⟨Ao10, co10, eo10⟩ := V_slice HO404.out; subst eo10))
  refine bodyPost_ret (results_cell_row rfl _ _ gb397 25 #[.bool t401, .slice Ao10 t402.length co10, .int .i64 t405] (0, 0) _ rfl (zy BK397) Tryd.underlying25 rfl (by kernel_rfl)) rfl ?_
  exact ⟨_, er, vu (V_mono (zv gb397 (V_mono HO404.out (fun k_ hk => (⟨hk, hk.2⟩ : _ ∧ k_ ≠ gb397))) (fun _ hk => hk.2) _ _ _) (fun _ hk => hk.1.1)), zs⟩
 rw [if_neg c2] at H
 have c2b0 := decide_eq_false c2
 clear c2
 obtain ⟨t406, A11, H⟩ := zh H
 obtain ⟨⟨t409, t410, t413⟩, A12, H⟩ := zh H
 (try dsimp only at H)
 simp only [Option.some.injEq, Prod.mk.injEq] at H
 obtain ⟨rfl, rfl, rfl⟩ := H
 rw [c2b0] at A12
 go_enter Tryd.func98, Tryd.ntmps98
 go_wp2_with (first | ((with_reducible refine zD 2 rfl ?_); refine zn (N := 2) (cs := #[.bool false, .slice none 0 0, .int .i64 0]) (t := 25) rfl rfl ?_; intro gb397 hg w13 hbox hb; have BK397 := zA (hbox); have GW397 := zw hg; replace HB := ze hb; clear hb hbox hg) | ((with_reducible refine zG 117 rfl ?_); refine zL (some 13) rfl rfl Tryd.func117 #[.int .u64 (IntKind.u64.wrap (a0))] rfl ?_; (with_reducible refine (limbs_Of.calls (IntKind.u64.wrap (a0)) t406 _ A11.out).mono ?_); rintro e w14 ⟨v407, rfl, ho0, hb⟩; refine ⟨_, rfl, ?_⟩; have HO408 := zA (R_lower (R_newM (M := fun k_ => (w.heap.size ≤ k_)) ho0 (below_size zs) (fun k_ h_ => h_)) (below_size zs)); replace BK397 := zb BK397 hb; replace HB := zf hb; (try clear ho0); obtain ⟨Ao15, co15, eo15⟩ := R_slice HO408.out; subst eo15) | ((with_reducible refine zG 91 rfl ?_); refine zL (some 14) rfl rfl Tryd.func91 #[.bool false, .slice Ao15 t406.length co15, .int .i64 0] rfl ?_; (with_reducible refine (raw_Form.calls k false (fun k_ => some k_ = (.slice Ao15 t406.length co15 : Value).ownBlock) _ _ t406 0 t409 t410 t413 _ ?side1 (laid_below hT zs) A12.out).mono ?_); (case side1 => exact R_V (R_tight rfl (R_types (HO408.out) BK397.out (by decide)))); rintro e w16 ⟨v411, rfl, ho0, hb⟩; refine ⟨_, rfl, ?_⟩; have HO412 := zA (V_lower (V_mono (ok' := fun k_ => (w.heap.size ≤ k_) ∧ k_ ≠ gb397) ho0 (fun k_ hk_ => ⟨Or.elim hk_ (fun hs_ => ((R_types (HO408.out) BK397.out (by decide)).1 k_ hs_.symm).1.1) (fun hn_ => (Nat.le_trans (below_size zs) hn_)), Or.elim hk_ (fun hs_ => ((R_types (HO408.out) BK397.out (by decide)).1 k_ hs_.symm).2) (fun hn_ => (zj BK397 k_ hn_))⟩)) (below_size zs)); replace HO408 := zA (R_below (ru HO408.out) hb); replace BK397 := zb BK397 hb; replace HB := zf hb; (try clear ho0); obtain ⟨hcz17_0, hcz17_1, hcz17_2, hfz17_0, hfz17_1, hfz17_2⟩ := zc BK397; obtain ⟨Ao18, co18, eo18⟩ := V_slice HO412.out; subst eo18))
 refine bodyPost_ret (results_cell_row rfl _ _ gb397 25 #[.bool t409, .slice Ao18 t410.length co18, .int .i64 t413] (0, 0) _ rfl (zy BK397) Tryd.underlying25 rfl (by kernel_rfl)) rfl ?_
 exact ⟨_, er, vu (V_mono (zv gb397 (V_mono HO412.out (fun k_ hk => (⟨hk, hk.2⟩ : _ ∧ k_ ≠ gb397))) (fun _ hk => hk.2) _ _ _) (fun _ hk => hk.1.1)), zs⟩
def dyad_Int.f (k : Nat) (a0 : Int) : Option (Bool × List Int × Int) := (raw_Int.f k a0).bind fun bt415 => (some (bt415.1, bt415.2.1, bt415.2.2))
theorem dyad_Int.mono : ∀ a0 k, LeO (dyad_Int.f k a0) (dyad_Int.f (k + 1) a0) := by
 intro a0 k
 unfold dyad_Int.f
 repeat' first
   | (with_reducible exact raw_Int.mono _ _)
   | (with_reducible exact LeO.refl _)
   | (with_reducible exact LeO.none _)
   | (with_reducible refine LeO.ite ?_ ?_)
   | (with_reducible refine LeO.bind ?_ (fun _ => ?_))
   | exact raw_Int.mono _ _
   | exact LeO.none _
   | refine LeO.ite ?_ ?_
   | refine LeO.bind ?_ (fun _ => ?_)
set_option maxHeartbeats 8000000 in
set_option maxRecDepth 100000 in
theorem dyad_Int.calls (k : Nat) (a0 : Int) (r1 : Bool) (r2 : List Int) (r3 : Int) (w : World) (hT : Laid w) (h : dyad_Int.f k a0 = some (r1, r2, r3)) :
  Calls Tryd.prog 45 #[.int .i64 a0] w fun e w' => ∃ v1_ : Value, e = .returned (.agg #[.bool r1, v1_, .int .i64 r3]) ∧ Kd.V (Kd.int .u64) 43 w' w.heap.size (fun k_ => (w.heap.size ≤ k_)) v1_ r2 ∧ Below w.heap.size w w' := by
 have hu25 := Tryd.underlying25
 have HB := zA (Below.refl w.heap.size w)
 have H : ((raw_Int.f k a0).bind fun bt415 => (some (bt415.1, bt415.2.1, bt415.2.2))) = some (r1, r2, r3) := h
 clear h
 obtain ⟨⟨t415, t416, t419⟩, A2, H⟩ := zh H
 (try dsimp only at H)
 simp only [Option.some.injEq, Prod.mk.injEq] at H
 obtain ⟨rfl, rfl, rfl⟩ := H
 go_enter Tryd.func45, Tryd.ntmps45
 go_wp2_with (first | ((with_reducible refine zD 2 rfl ?_); refine zn (N := 2) (cs := #[.bool false, .slice none 0 0, .int .i64 0]) (t := 25) rfl rfl ?_; intro gb414 hg w3 hbox hb; have BK414 := zA (hbox); have GW414 := zw hg; replace HB := ze hb; clear hb hbox hg) | ((with_reducible refine zG 98 rfl ?_); refine zL (some 4) rfl rfl Tryd.func98 #[.int .i64 a0] rfl ?_; (with_reducible refine (raw_Int.calls k a0 t415 t416 t419 _ (laid_below hT zs) A2.out).mono ?_); rintro e w4 ⟨v417, rfl, ho0, hb⟩; refine ⟨_, rfl, ?_⟩; have HO418 := zA (V_lower (V_mono (ok' := fun k_ => (w.heap.size ≤ k_) ∧ k_ ≠ gb414) ho0 (fun k_ hk_ => ⟨(Nat.le_trans (below_size zs) hk_), (zj BK414 k_ hk_)⟩)) (below_size zs)); replace BK414 := zb BK414 hb; replace HB := zf hb; (try clear ho0); obtain ⟨hcz5_0, hcz5_1, hcz5_2, hfz5_0, hfz5_1, hfz5_2⟩ := zc BK414; obtain ⟨Ao6, co6, eo6⟩ := V_slice HO418.out; subst eo6))
 refine bodyPost_ret (results_cell_row rfl _ _ gb414 25 #[.bool t415, .slice Ao6 t416.length co6, .int .i64 t419] (0, 0) _ rfl (zy BK414) Tryd.underlying25 rfl (by kernel_rfl)) rfl ?_
 exact ⟨_, er, vu (V_mono (zv gb414 (V_mono HO418.out (fun k_ hk => (⟨hk, hk.2⟩ : _ ∧ k_ ≠ gb414))) (fun _ hk => hk.2) _ _ _) (fun _ hk => hk.1.1)), zs⟩
def raw_Fits.f (k : Nat) (a0_0 : Bool) (l0_1 : List Int) (a0_2 : Int) : Option (Bool) := (limbs_Trim.f k l0_1).bind fun t268 => (if (t268.length : Int) ≤ 1024 then (if a0_2 ≥ (-32768) then (some (decide (a0_2 ≤ 32768))) else (some false)) else (some false))
theorem raw_Fits.mono : ∀ a0 a1 a2 k, LeO (raw_Fits.f k a0 a1 a2) (raw_Fits.f (k + 1) a0 a1 a2) := by
 intro a0 a1 a2 k
 unfold raw_Fits.f
 repeat' first
   | (with_reducible exact limbs_Trim.mono _ _)
   | (with_reducible exact LeO.refl _)
   | (with_reducible exact LeO.none _)
   | (with_reducible refine LeO.ite ?_ ?_)
   | (with_reducible refine LeO.bind ?_ (fun _ => ?_))
   | exact limbs_Trim.mono _ _
   | exact LeO.none _
   | refine LeO.ite ?_ ?_
   | refine LeO.bind ?_ (fun _ => ?_)
set_option maxHeartbeats 8000000 in
set_option maxRecDepth 100000 in
theorem raw_Fits.calls (k : Nat) (a0_0 : Bool) (A0_1 : Option Addr) (c0_1 : Nat) (l0_1 : List Int) (a0_2 : Int) (r : Bool) (w : World) (hr0_1 : Kd.C (Kd.int .u64) w A0_1 l0_1.length l0_1) (hc0_1 : l0_1.length ≤ c0_1) (h : raw_Fits.f k a0_0 l0_1 a0_2 = some r) :
  Calls Tryd.prog 101 #[.agg #[.bool a0_0, .slice A0_1 l0_1.length c0_1, .int .i64 a0_2]] w fun e w' => e = .returned (.bool r) ∧ Below w.heap.size w w' := by
 have hu25 := Tryd.underlying25
 have HR0_1 := zA hr0_1
 have HC0_1 := zA hc0_1
 clear hr0_1 hc0_1
 have HB := zA (Below.refl w.heap.size w)
 have H : ((limbs_Trim.f k l0_1).bind fun t268 => (if (t268.length : Int) ≤ 1024 then (if a0_2 ≥ (-32768) then (some (decide (a0_2 ≤ 32768))) else (some false)) else (some false))) = some r := h
 clear h
 obtain ⟨t268, A2, H⟩ := zh H
 by_cases c3 : (t268.length : Int) ≤ 1024
 ·rw [if_pos c3] at H
  have c3b0 := decide_eq_true c3
  have c3b1 : decide (t268.length ≤ 1024) = true := decide_eq_true (by omega)
  clear c3
  by_cases c4 : a0_2 ≥ (-32768)
  ·rw [if_pos c4] at H
   have c4b0 := decide_eq_true c4
   clear c4
   obtain rfl := Option.some.inj H
   go_enter Tryd.func101, Tryd.ntmps101
   go_wp2_with (first | ((with_reducible refine zD 1 rfl ?_); refine zn (N := 1) (cs := #[.bool a0_0, .slice A0_1 l0_1.length c0_1, .int .i64 a0_2]) (t := 25) rfl rfl ?_; intro gb267 hg w5 hbox hb; have BK267 := zA (hbox); have GW267 := zw hg; replace HB := ze hb; clear hb hbox hg; obtain ⟨_, _, _, _, _, _⟩ := zc BK267) | ((with_reducible refine zG 122 rfl ?_); refine zL (some 5) rfl rfl Tryd.func122 #[.slice A0_1 l0_1.length c0_1] rfl ?_; (with_reducible refine (limbs_Trim.calls k (fun k_ => k_ < w.heap.size) _ _ l0_1 t268 _ ?side1 A2.out).mono ?_); (case side1 => exact V_mk HC0_1.out (Kd.F_below (C_F (Kd.heap_int .u64) HR0_1.out) zs)); rintro e w7 ⟨v269, rfl, ho0, hb⟩; refine ⟨_, rfl, ?_⟩; have HO270 := zA (V_lower (V_mono (ok' := fun k_ => k_ ≠ gb267) ho0 (fun k_ hk_ => Or.elim hk_ (fun hs_ => fun e_ => Nat.not_le.2 hs_ (by rw [e_]; exact GW267.out)) (fun hn_ => (zj BK267 k_ hn_)))) (below_size zs)); replace BK267 := zb BK267 hb; replace HB := zf hb; (try clear ho0); obtain ⟨Ao8, co8, eo8⟩ := V_slice HO270.out; subst eo8; obtain ⟨hcz9_0, hcz9_1, hcz9_2, hfz9_0, hfz9_1, hfz9_2⟩ := zc BK267))
   go_ret
   exact ⟨er, zs⟩
  rw [if_neg c4] at H
  have c4b0 := decide_eq_false c4
  clear c4
  obtain rfl := Option.some.inj H
  go_enter Tryd.func101, Tryd.ntmps101
  go_wp2_with (first | ((with_reducible refine zD 1 rfl ?_); refine zn (N := 1) (cs := #[.bool a0_0, .slice A0_1 l0_1.length c0_1, .int .i64 a0_2]) (t := 25) rfl rfl ?_; intro gb267 hg w10 hbox hb; have BK267 := zA (hbox); have GW267 := zw hg; replace HB := ze hb; clear hb hbox hg; obtain ⟨_, _, _, _, _, _⟩ := zc BK267) | ((with_reducible refine zG 122 rfl ?_); refine zL (some 5) rfl rfl Tryd.func122 #[.slice A0_1 l0_1.length c0_1] rfl ?_; (with_reducible refine (limbs_Trim.calls k (fun k_ => k_ < w.heap.size) _ _ l0_1 t268 _ ?side1 A2.out).mono ?_); (case side1 => exact V_mk HC0_1.out (Kd.F_below (C_F (Kd.heap_int .u64) HR0_1.out) zs)); rintro e w12 ⟨v269, rfl, ho0, hb⟩; refine ⟨_, rfl, ?_⟩; have HO270 := zA (V_lower (V_mono (ok' := fun k_ => k_ ≠ gb267) ho0 (fun k_ hk_ => Or.elim hk_ (fun hs_ => fun e_ => Nat.not_le.2 hs_ (by rw [e_]; exact GW267.out)) (fun hn_ => (zj BK267 k_ hn_)))) (below_size zs)); replace BK267 := zb BK267 hb; replace HB := zf hb; (try clear ho0); obtain ⟨Ao13, co13, eo13⟩ := V_slice HO270.out; subst eo13; obtain ⟨hcz14_0, hcz14_1, hcz14_2, hfz14_0, hfz14_1, hfz14_2⟩ := zc BK267))
  go_ret
  exact ⟨er, zs⟩
 rw [if_neg c3] at H
 have c3b0 := decide_eq_false c3
 have c3b1 : decide (t268.length ≤ 1024) = false := decide_eq_false (by omega)
 clear c3
 obtain rfl := Option.some.inj H
 go_enter Tryd.func101, Tryd.ntmps101
 go_wp2_with (first | ((with_reducible refine zD 1 rfl ?_); refine zn (N := 1) (cs := #[.bool a0_0, .slice A0_1 l0_1.length c0_1, .int .i64 a0_2]) (t := 25) rfl rfl ?_; intro gb267 hg w15 hbox hb; have BK267 := zA (hbox); have GW267 := zw hg; replace HB := ze hb; clear hb hbox hg; obtain ⟨_, _, _, _, _, _⟩ := zc BK267) | ((with_reducible refine zG 122 rfl ?_); refine zL (some 5) rfl rfl Tryd.func122 #[.slice A0_1 l0_1.length c0_1] rfl ?_; (with_reducible refine (limbs_Trim.calls k (fun k_ => k_ < w.heap.size) _ _ l0_1 t268 _ ?side1 A2.out).mono ?_); (case side1 => exact V_mk HC0_1.out (Kd.F_below (C_F (Kd.heap_int .u64) HR0_1.out) zs)); rintro e w17 ⟨v269, rfl, ho0, hb⟩; refine ⟨_, rfl, ?_⟩; have HO270 := zA (V_lower (V_mono (ok' := fun k_ => k_ ≠ gb267) ho0 (fun k_ hk_ => Or.elim hk_ (fun hs_ => fun e_ => Nat.not_le.2 hs_ (by rw [e_]; exact GW267.out)) (fun hn_ => (zj BK267 k_ hn_)))) (below_size zs)); replace BK267 := zb BK267 hb; replace HB := zf hb; (try clear ho0); obtain ⟨Ao18, co18, eo18⟩ := V_slice HO270.out; subst eo18))
 go_ret
 exact ⟨er, zs⟩
def dyad_number_right.f (k : Nat) (a0_0 : Bool) (l0_1 : List Int) (a0_2 : Int) : Option (Bool) := (raw_Fits.f k a0_0 l0_1 a0_2).bind fun t272 => (some t272)
theorem dyad_number_right.mono : ∀ a0 a1 a2 k, LeO (dyad_number_right.f k a0 a1 a2) (dyad_number_right.f (k + 1) a0 a1 a2) := by
 intro a0 a1 a2 k
 unfold dyad_number_right.f
 repeat' first
   | (with_reducible exact raw_Fits.mono _ _ _ _)
   | (with_reducible exact LeO.refl _)
   | (with_reducible exact LeO.none _)
   | (with_reducible refine LeO.ite ?_ ?_)
   | (with_reducible refine LeO.bind ?_ (fun _ => ?_))
   | exact raw_Fits.mono _ _ _ _
   | exact LeO.none _
   | refine LeO.ite ?_ ?_
   | refine LeO.bind ?_ (fun _ => ?_)
set_option maxHeartbeats 8000000 in
set_option maxRecDepth 100000 in
theorem dyad_number_right.calls (k : Nat) (a0_0 : Bool) (A0_1 : Option Addr) (c0_1 : Nat) (l0_1 : List Int) (a0_2 : Int) (r : Bool) (w : World) (hr0_1 : Kd.C (Kd.int .u64) w A0_1 l0_1.length l0_1) (hc0_1 : l0_1.length ≤ c0_1) (h : dyad_number_right.f k a0_0 l0_1 a0_2 = some r) :
  Calls Tryd.prog 72 #[.agg #[.bool a0_0, .slice A0_1 l0_1.length c0_1, .int .i64 a0_2]] w fun e w' => e = .returned (.bool r) ∧ Below w.heap.size w w' := by
 have hu64 := Tryd.underlying64
 have HR0_1 := zA hr0_1
 have HC0_1 := zA hc0_1
 clear hr0_1 hc0_1
 have HB := zA (Below.refl w.heap.size w)
 have H : ((raw_Fits.f k a0_0 l0_1 a0_2).bind fun t272 => (some t272)) = some r := h
 clear h
 obtain ⟨t272, A2, H⟩ := zh H
 obtain rfl := Option.some.inj H
 go_enter Tryd.func72, Tryd.ntmps72
 go_wp2_with (first | ((with_reducible refine zD 1 rfl ?_); refine zn (N := 1) (cs := #[.bool a0_0, .slice A0_1 l0_1.length c0_1, .int .i64 a0_2]) (t := 64) rfl rfl ?_; intro gb271 hg w3 hbox hb; have BK271 := zA (hbox); have GW271 := zw hg; replace HB := ze hb; clear hb hbox hg; obtain ⟨_, _, _, _, _, _⟩ := zc BK271) | ((with_reducible refine zG 101 rfl ?_); refine zL (some 4) rfl rfl Tryd.func101 #[.agg #[.bool a0_0, .slice A0_1 l0_1.length c0_1, .int .i64 a0_2]] rfl ?_; (with_reducible refine (raw_Fits.calls k a0_0 _ _ l0_1 a0_2 t272 _ ?side1 ?side2 A2.out).mono ?_); (case side1 => exact zk (C_below HR0_1.out HB.out)); (case side2 => exact HC0_1.out); rintro e w5 ⟨rfl, hb⟩; refine ⟨_, rfl, ?_⟩; replace BK271 := zb BK271 hb; replace HB := zf hb))
 go_ret
 exact ⟨er, zs⟩
end Go.Proofs.YtemfckibdojbbaaDoor.PAll
