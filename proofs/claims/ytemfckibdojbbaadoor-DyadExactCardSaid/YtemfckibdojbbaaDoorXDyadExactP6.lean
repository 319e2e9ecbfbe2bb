/- Printed functions, merged by a program of this session. -/
import Derived.Test.YtemfckibdojbbaaDoorXDyadExactP0
import Derived.Test.YtemfckibdojbbaaDoorXDyadExactP5
import Derived.Test.YtemfckibdojbbaaDoorXDyadExactP1
import Derived.Laws.StructEq
import Derived.Test.YtemfckibdojbbaaDoorXDyadExactSh
namespace Go.Proofs.YtemfckibdojbbaaDoor.PAll
open Go.RowKit Go.Proofs.YtemfckibdojbbaaDoorW.PrintWords Go.Proofs.YtemfckibdojbbaaDoorW.PrintLast Go.Proofs.YtemfckibdojbbaaDoorW.PrintMore Go.Proofs.YtemfckibdojbbaaDoorW.PrintWords.Kd
attribute [local go_sem] max2_int min2_int max_two min_two max_three min_three max_four min_four   -- for this text's walks alone
set_option linter.unusedVariables false
set_option linter.unusedSimpArgs false
attribute [local go_sem] ext135 ext136
def dyad_Cmp.f (k : Nat) (a0_0 : Bool) (l0_1 : List Int) (a0_2 : Int) (a1_0 : Bool) (l1_1 : List Int) (a1_2 : Int) : Option (Int × Int) := (dyad_number_right.f k a0_0 l0_1 a0_2).bind fun t377 => (if t377 = true then ((dyad_number_right.f k a1_0 l1_1 a1_2).bind fun t378 => (if t378 = true then ((raw_Cmp.f k a0_0 l0_1 a0_2 a1_0 l1_1 a1_2).bind fun t379 => (some (t379, 0))) else (some (0, 2)))) else (some (0, 2)))
theorem dyad_Cmp.mono : ∀ a0 a1 a2 a3 a4 a5 k, LeO (dyad_Cmp.f k a0 a1 a2 a3 a4 a5) (dyad_Cmp.f (k + 1) a0 a1 a2 a3 a4 a5) := by
 intro a0 a1 a2 a3 a4 a5 k
 unfold dyad_Cmp.f
 repeat' first
   | (with_reducible exact dyad_number_right.mono _ _ _ _)
   | (with_reducible exact raw_Cmp.mono _ _ _ _ _ _ _)
   | (with_reducible exact LeO.refl _)
   | (with_reducible exact LeO.none _)
   | (with_reducible refine LeO.ite ?_ ?_)
   | (with_reducible refine LeO.bind ?_ (fun _ => ?_))
   | exact dyad_number_right.mono _ _ _ _
   | exact raw_Cmp.mono _ _ _ _ _ _ _
   | exact LeO.none _
   | refine LeO.ite ?_ ?_
   | refine LeO.bind ?_ (fun _ => ?_)
set_option maxHeartbeats 8000000 in
set_option maxRecDepth 100000 in
theorem dyad_Cmp.calls (k : Nat) (a0_0 : Bool) (A0_1 : Option Addr) (c0_1 : Nat) (l0_1 : List Int) (a0_2 : Int) (a1_0 : Bool) (A1_1 : Option Addr) (c1_1 : Nat) (l1_1 : List Int) (a1_2 : Int) (r1 : Int) (r2 : Int) (w : World) (hr0_1 : Kd.C (Kd.int .u64) w A0_1 l0_1.length l0_1) (hc0_1 : l0_1.length ≤ c0_1) (hr1_1 : Kd.C (Kd.int .u64) w A1_1 l1_1.length l1_1) (hc1_1 : l1_1.length ≤ c1_1) (hT : Laid w) (h : dyad_Cmp.f k a0_0 l0_1 a0_2 a1_0 l1_1 a1_2 = some (r1, r2)) :
  Calls Tryd.prog 33 #[.agg #[.bool a0_0, .slice A0_1 l0_1.length c0_1, .int .i64 a0_2], .agg #[.bool a1_0, .slice A1_1 l1_1.length c1_1, .int .i64 a1_2]] w fun e w' => e = .returned (.tuple #[.int .i64 r1, .int .i64 r2]) ∧ Below w.heap.size w w' := by
 have hu25 := Tryd.underlying25
 have HR0_1 := zA hr0_1
 have HC0_1 := zA hc0_1
 clear hr0_1 hc0_1
 have HR1_1 := zA hr1_1
 have HC1_1 := zA hc1_1
 clear hr1_1 hc1_1
 have HB := zA (Below.refl w.heap.size w)
 have H : ((dyad_number_right.f k a0_0 l0_1 a0_2).bind fun t377 => (if t377 = true then ((dyad_number_right.f k a1_0 l1_1 a1_2).bind fun t378 => (if t378 = true then ((raw_Cmp.f k a0_0 l0_1 a0_2 a1_0 l1_1 a1_2).bind fun t379 => (some (t379, 0))) else (some (0, 2)))) else (some (0, 2)))) = some (r1, r2) := h
 clear h
 obtain ⟨t377, A3, H⟩ := zh H
 by_cases c4 : t377 = true
 ·subst c4
  rw [if_pos rfl] at H
  obtain ⟨t378, A5, H⟩ := zh H
  by_cases c6 : t378 = true
  ·subst c6
   rw [if_pos rfl] at H
   obtain ⟨t379, A7, H⟩ := zh H
   simp only [Option.some.injEq, Prod.mk.injEq] at H
   obtain ⟨rfl, rfl⟩ := H
   go_enter Tryd.func33, Tryd.ntmps33
   go_wp2_with (first | ((with_reducible refine zD 2 rfl ?_); refine zn (N := 2) (cs := #[.bool a0_0, .slice A0_1 l0_1.length c0_1, .int .i64 a0_2]) (t := 25) rfl rfl ?_; intro gb375 hg w8 hbox hb; have BK375 := zA (hbox); have GW375 := zw hg; replace HB := ze hb; clear hb hbox hg) | ((with_reducible refine zD 3 rfl ?_); refine zn (N := 3) (cs := #[.bool a1_0, .slice A1_1 l1_1.length c1_1, .int .i64 a1_2]) (t := 25) rfl rfl ?_; intro gb376 hg w9 hbox hb; have BK376 := zA (hbox); have GW376 := zx hg; replace HB := zf hb; have NB375_376 := zl BK375 hg; have NB376_375 := zg BK375 hg; replace BK375 := zb BK375 hb; clear hb hbox hg; have hnb10 := NB375_376.out; have hnc10 := NB376_375.out; obtain ⟨_, _, _, _, _, _⟩ := zc BK375) | ((with_reducible refine zG 72 rfl ?_); refine zL (some 7) rfl rfl Tryd.func72 #[.agg #[.bool a0_0, .slice A0_1 l0_1.length c0_1, .int .i64 a0_2]] rfl ?_; (with_reducible refine (dyad_number_right.calls k a0_0 _ _ l0_1 a0_2 true _ ?side1 ?side2 A3.out).mono ?_); (case side1 => exact zk (C_below HR0_1.out HB.out)); (case side2 => exact HC0_1.out); rintro e w12 ⟨rfl, hb⟩; refine ⟨_, rfl, ?_⟩; replace BK375 := zb BK375 hb; replace BK376 := zb BK376 hb; replace HB := zf hb; obtain ⟨hcz13_0, hcz13_1, hcz13_2, hfz13_0, hfz13_1, hfz13_2⟩ := zc BK376) | (go_at_call 72; (with_reducible refine (dyad_number_right.calls k a1_0 _ _ l1_1 a1_2 true _ ?side1 ?side2 A5.out).mono ?_); (case side1 => exact zk (C_below HR1_1.out HB.out)); (case side2 => exact HC1_1.out); rintro e w14 ⟨rfl, hb⟩; replace BK375 := zb BK375 hb; replace BK376 := zb BK376 hb; replace HB := zf hb; obtain ⟨hcz15_0, hcz15_1, hcz15_2, hfz15_0, hfz15_1, hfz15_2⟩ := zc BK375; obtain ⟨hcz16_0, hcz16_1, hcz16_2, hfz16_0, hfz16_1, hfz16_2⟩ := zc BK376) | ((with_reducible refine zG 81 rfl ?_); refine zL (some 16) rfl rfl Tryd.func81 #[.agg #[.bool a0_0, .slice A0_1 l0_1.length c0_1, .int .i64 a0_2], .agg #[.bool a1_0, .slice A1_1 l1_1.length c1_1, .int .i64 a1_2]] rfl ?_; (with_reducible refine (raw_Cmp.calls k a0_0 _ _ l0_1 a0_2 a1_0 _ _ l1_1 a1_2 t379 _ ?side1 ?side2 ?side3 ?side4 (laid_below hT zs) A7.out).mono ?_); (case side1 => exact zk (C_below HR0_1.out HB.out)); (case side2 => exact HC0_1.out); (case side3 => exact zk (C_below HR1_1.out HB.out)); (case side4 => exact HC1_1.out); rintro e w17 ⟨rfl, hb⟩; refine ⟨_, rfl, ?_⟩; replace BK375 := zb BK375 hb; replace BK376 := zb BK376 hb; replace HB := zf hb))
   go_ret2
   exact ⟨er, zs⟩
  replace c6 := Bool.eq_false_iff.mpr c6
  subst c6
  rw [if_neg (show ¬ (false = true) by decide)] at H
  simp only [Option.some.injEq, Prod.mk.injEq] at H
  obtain ⟨rfl, rfl⟩ := H
  go_enter Tryd.func33, Tryd.ntmps33
  go_wp2_with (first | ((with_reducible refine zD 2 rfl ?_); refine zn (N := 2) (cs := #[.bool a0_0, .slice A0_1 l0_1.length c0_1, .int .i64 a0_2]) (t := 25) rfl rfl ?_; intro gb375 hg w18 hbox hb; have BK375 := zA (hbox); have GW375 := zw hg; replace HB := ze hb; clear hb hbox hg) | ((with_reducible refine zD 3 rfl ?_); refine zn (N := 3) (cs := #[.bool a1_0, .slice A1_1 l1_1.length c1_1, .int .i64 a1_2]) (t := 25) rfl rfl ?_; intro gb376 hg w19 hbox hb; have BK376 := zA (hbox); have GW376 := zx hg; replace HB := zf hb; have NB375_376 := zl BK375 hg; have NB376_375 := zg BK375 hg; replace BK375 := zb BK375 hb; clear hb hbox hg; have hnb20 := NB375_376.out; have hnc20 := NB376_375.out; obtain ⟨_, _, _, _, _, _⟩ := zc BK375) | ((with_reducible refine zG 72 rfl ?_); refine zL (some 7) rfl rfl Tryd.func72 #[.agg #[.bool a0_0, .slice A0_1 l0_1.length c0_1, .int .i64 a0_2]] rfl ?_; (with_reducible refine (dyad_number_right.calls k a0_0 _ _ l0_1 a0_2 true _ ?side1 ?side2 A3.out).mono ?_); (case side1 => exact zk (C_below HR0_1.out HB.out)); (case side2 => exact HC0_1.out); rintro e w22 ⟨rfl, hb⟩; refine ⟨_, rfl, ?_⟩; replace BK375 := zb BK375 hb; replace BK376 := zb BK376 hb; replace HB := zf hb; obtain ⟨hcz23_0, hcz23_1, hcz23_2, hfz23_0, hfz23_1, hfz23_2⟩ := zc BK376) | (go_at_call 72; (with_reducible refine (dyad_number_right.calls k a1_0 _ _ l1_1 a1_2 false _ ?side1 ?side2 A5.out).mono ?_); (case side1 => exact zk (C_below HR1_1.out HB.out)); (case side2 => exact HC1_1.out); rintro e w24 ⟨rfl, hb⟩; replace BK375 := zb BK375 hb; replace BK376 := zb BK376 hb; replace HB := zf hb))
  go_ret2
  exact ⟨er, zs⟩
 replace c4 := Bool.eq_false_iff.mpr c4
 subst c4
 rw [if_neg (show ¬ (false = true) by decide)] at H
 simp only [Option.some.injEq, Prod.mk.injEq] at H
 obtain ⟨rfl, rfl⟩ := H
 go_enter Tryd.func33, Tryd.ntmps33
 go_wp2_with (first | ((with_reducible refine zD 2 rfl ?_); refine zn (N := 2) (cs := #[.bool a0_0, .slice A0_1 l0_1.length c0_1, .int .i64 a0_2]) (t := 25) rfl rfl ?_; intro gb375 hg w25 hbox hb; have BK375 := zA (hbox); have GW375 := zw hg; replace HB := ze hb; clear hb hbox hg) | ((with_reducible refine zD 3 rfl ?_); refine zn (N := 3) (cs := #[.bool a1_0, .slice A1_1 l1_1.length c1_1, .int .i64 a1_2]) (t := 25) rfl rfl ?_; intro gb376 hg w26 hbox hb; have BK376 := zA (hbox); have GW376 := zx hg; replace HB := zf hb; have NB375_376 := zl BK375 hg; have NB376_375 := zg BK375 hg; replace BK375 := zb BK375 hb; clear hb hbox hg; have hnb27 := NB375_376.out; have hnc27 := NB376_375.out; obtain ⟨_, _, _, _, _, _⟩ := zc BK375) | ((with_reducible refine zG 72 rfl ?_); refine zL (some 7) rfl rfl Tryd.func72 #[.agg #[.bool a0_0, .slice A0_1 l0_1.length c0_1, .int .i64 a0_2]] rfl ?_; (with_reducible refine (dyad_number_right.calls k a0_0 _ _ l0_1 a0_2 false _ ?side1 ?side2 A3.out).mono ?_); (case side1 => exact zk (C_below HR0_1.out HB.out)); (case side2 => exact HC0_1.out); rintro e w29 ⟨rfl, hb⟩; refine ⟨_, rfl, ?_⟩; replace BK375 := zb BK375 hb; replace BK376 := zb BK376 hb; replace HB := zf hb))
 go_ret2
 exact ⟨er, zs⟩
def dyad_From.f (k : Nat) (a0 : Int) : Option (Bool × List Int × Int × Int) := if (wrap64 (Go.bits .and .u64 (a0 / 4503599627370496) 2047)) = 2047 then (some (false, ([] : List Int), 0, 5)) else (if (wrap64 (Go.bits .and .u64 (a0 / 4503599627370496) 2047)) = 0 then ((raw_Form.f k ((a0 / 9223372036854775808) == 1) (([Go.bits .and .u64 a0 4503599627370495] : List Int)) (1 - 1075)).bind fun bt384 => (some (bt384.1, bt384.2.1, bt384.2.2, 0))) else ((raw_Form.f k ((a0 / 9223372036854775808) == 1) (([Go.bits .or .u64 (Go.bits .and .u64 a0 4503599627370495) 4503599627370496] : List Int)) (wrap64 ((wrap64 (Go.bits .and .u64 (a0 / 4503599627370496) 2047)) - 1075))).bind fun bt392 => (some (bt392.1, bt392.2.1, bt392.2.2, 0))))
theorem dyad_From.mono : ∀ a0 k, LeO (dyad_From.f k a0) (dyad_From.f (k + 1) a0) := by
 intro a0 k
 unfold dyad_From.f
 repeat' first
   | (with_reducible exact raw_Form.mono _ _ _ _)
   | (with_reducible exact LeO.refl _)
   | (with_reducible exact LeO.none _)
   | (with_reducible refine LeO.ite ?_ ?_)
   | (with_reducible refine LeO.bind ?_ (fun _ => ?_))
   | exact raw_Form.mono _ _ _ _
   | exact LeO.none _
   | refine LeO.ite ?_ ?_
   | refine LeO.bind ?_ (fun _ => ?_)
set_option maxHeartbeats 8000000 in
set_option maxRecDepth 100000 in
theorem dyad_From.calls (k : Nat) (a0 : Int) (r1 : Bool) (r2 : List Int) (r3 : Int) (r4 : Int) (w : World) (hT : Laid w) (h : dyad_From.f k a0 = some (r1, r2, r3, r4)) :
  Calls Tryd.prog 41 #[.int .u64 a0] w fun e w' => ∃ v1_ : Value, e = .returned (.tuple #[.agg #[.bool r1, v1_, .int .i64 r3], .int .i64 r4]) ∧ Kd.V (Kd.int .u64) 43 w' w.heap.size (fun k_ => (w.heap.size ≤ k_)) v1_ r2 ∧ Below w.heap.size w w' := by
 have hu25 := Tryd.underlying25
 have HB := zA (Below.refl w.heap.size w)
 have H : (if (wrap64 (Go.bits .and .u64 (a0 / 4503599627370496) 2047)) = 2047 then (some (false, ([] : List Int), 0, 5)) else (if (wrap64 (Go.bits .and .u64 (a0 / 4503599627370496) 2047)) = 0 then ((raw_Form.f k ((a0 / 9223372036854775808) == 1) (([Go.bits .and .u64 a0 4503599627370495] : List Int)) (1 - 1075)).bind fun bt384 => (some (bt384.1, bt384.2.1, bt384.2.2, 0))) else ((raw_Form.f k ((a0 / 9223372036854775808) == 1) (([Go.bits .or .u64 (Go.bits .and .u64 a0 4503599627370495) 4503599627370496] : List Int)) (wrap64 ((wrap64 (Go.bits .and .u64 (a0 / 4503599627370496) 2047)) - 1075))).bind fun bt392 => (some (bt392.1, bt392.2.1, bt392.2.2, 0))))) = some (r1, r2, r3, r4) := h
 clear h
 by_cases c2 : (wrap64 (Go.bits .and .u64 (a0 / 4503599627370496) 2047)) = 2047
 ·rw [if_pos c2] at H
  have c2b0 := beq_iff_eq.mpr c2
  have c2b1 := bne_eq_false_iff_eq.mpr c2
  clear c2
  simp only [Option.some.injEq, Prod.mk.injEq] at H
  obtain ⟨rfl, rfl, rfl, rfl⟩ := H
  go_enter Tryd.func41, Tryd.ntmps41
  go_wp2_with (first | ((with_reducible refine zD 2 rfl ?_); refine zn (N := 2) (cs := #[.bool false, .slice none 0 0, .int .i64 0]) (t := 25) rfl rfl ?_; intro gb380 hg w3 hbox hb; have BK380 := zA (hbox); have GW380 := zw hg; replace HB := ze hb; clear hb hbox hg; obtain ⟨_, _, _, _, _, _⟩ := zc BK380))
  refine bodyPost_ret (results_ct rfl _ _ gb380 25 #[.bool false, .slice none 0 0, .int .i64 0] (0, 0) _ rfl (zy BK380) Tryd.underlying25 rfl (by kernel_rfl)) rfl ?_
  exact ⟨_, er, V_nil _ _ _ _ _, zs⟩
 rw [if_neg c2] at H
 have c2b0 := beq_eq_false_iff_ne.mpr c2
 have c2b1 := bne_iff_ne.mpr c2
 by_cases c5 : (wrap64 (Go.bits .and .u64 (a0 / 4503599627370496) 2047)) = 0
 ·rw [if_pos c5] at H
  have c5b0 := beq_iff_eq.mpr c5
  have c5b1 := bne_eq_false_iff_eq.mpr c5
  clear c5
  obtain ⟨y381, hy381⟩ : ∃ y_ : List Int, y_ = (([Go.bits .and .u64 a0 4503599627370495] : List Int)) := ⟨_, rfl⟩
  replace H : ((raw_Form.f k ((a0 / 9223372036854775808) == 1) y381 (1 - 1075)).bind fun bt384 => (some (bt384.1, bt384.2.1, bt384.2.2, 0))) = some (r1, r2, r3, r4) := zR hy381 H
  have Ny381 := zA hy381
  clear hy381
  obtain ⟨⟨t384, t385, t388⟩, A6, H⟩ := zh H
  (try dsimp only at H)
  simp only [Option.some.injEq, Prod.mk.injEq] at H
  obtain ⟨rfl, rfl, rfl, rfl⟩ := H
  go_enter Tryd.func41, Tryd.ntmps41
  go_wp2_with (first | ((with_reducible refine zD 2 rfl ?_); refine zn (N := 2) (cs := #[.bool false, .slice none 0 0, .int .i64 0]) (t := 25) rfl rfl ?_; intro gb380 hg w7 hbox hb; have BK380 := zA (hbox); have GW380 := zw hg; replace HB := ze hb; clear hb hbox hg) | ((with_reducible refine zD 24 rfl ?_); refine R_lit (Kd.int .u64) _ 43 ?hg (N := 24) ?hd (xs := ([Go.bits .and .u64 a0 4503599627370495] : List Int)) (inner := [.int .u64 (Go.bits .and .u64 a0 4503599627370495)]) (ok := fun _ => True) (okp := fun _ => True) ?hr ?hp (fun _ hk => hk) trivial (Below.refl _ _) (Nat.le_refl _) (by simp) ?_; (case hd => rfl); (case hg => rfl); (case hr => first | (go_simp; done) | (go_simp; rfl)); (case hp => exact (Reps.one (show Kd.M (Kd.int .u64) _ _ _ (Go.bits .and .u64 a0 4503599627370495) [.int .u64 (Go.bits .and .u64 a0 4503599627370495)] from rfl) (Reps.none _ _))); intro v382 w8 ho9 hb hg_ hnew_; clear hg_ hnew_; (first | rw [← Ny381.out] at ho9 | (simp only [Int.reduceToNat] at ho9; rw [← Ny381.out] at ho9)); have HO383 := zA (R_lower (R_newM (M := fun k_ => (w.heap.size ≤ k_)) ho9 (below_size zs) (fun k_ h_ => h_)) (below_size zs)); replace BK380 := zb BK380 hb; replace HB := zf hb; clear hb ho9; obtain ⟨Ao10, co10, eo10⟩ := R_slice HO383.out; subst eo10) | ((with_reducible refine zG 91 rfl ?_); refine zL (some 27) rfl rfl Tryd.func91 #[.bool ((a0 / 9223372036854775808) == 1), .slice Ao10 y381.length co10, .int .i64 (1 - 1075)] rfl ?_; (with_reducible refine (raw_Form.calls k ((a0 / 9223372036854775808) == 1) (fun k_ => some k_ = (.slice Ao10 y381.length co10 : Value).ownBlock) _ _ y381 (1 - 1075) t384 t385 t388 _ ?side1 (laid_below hT zs) A6.out).mono ?_); (case side1 => exact R_V (R_tight rfl (R_types (HO383.out) BK380.out (by decide)))); rintro e w11 ⟨v386, rfl, ho0, hb⟩; refine ⟨_, rfl, ?_⟩; have HO387 := zA (V_lower (V_mono (ok' := fun k_ => (w.heap.size ≤ k_) ∧ k_ ≠ gb380) ho0 (fun k_ hk_ => ⟨Or.elim hk_ (fun hs_ => ((R_types (HO383.out) BK380.out (by decide)).1 k_ hs_.symm).1.1) (fun hn_ => (Nat.le_trans (below_size zs) hn_)), Or.elim hk_ (fun hs_ => ((R_types (HO383.out) BK380.out (by decide)).1 k_ hs_.symm).2) (fun hn_ => (zj BK380 k_ hn_))⟩)) (below_size zs)); replace HO383 := zA (R_below (ru HO383.out) hb); replace BK380 := zb BK380 hb; replace HB := zf hb; (try clear ho0); obtain ⟨hcz12_0, hcz12_1, hcz12_2, hfz12_0, hfz12_1, hfz12_2⟩ := zc BK380; obtain ⟨Ao13, co13, eo13⟩ := V_slice HO387.out; subst eo13))
  refine bodyPost_ret (results_ct rfl _ _ gb380 25 #[.bool t384, .slice Ao13 t385.length co13, .int .i64 t388] (0, 0) _ rfl (zy BK380) Tryd.underlying25 rfl (by kernel_rfl)) rfl ?_
  exact ⟨_, er, vu (V_mono (zv gb380 (V_mono HO387.out (fun k_ hk => (⟨hk, hk.2⟩ : _ ∧ k_ ≠ gb380))) (fun _ hk => hk.2) _ _ _) (fun _ hk => hk.1.1)), zs⟩
 rw [if_neg c5] at H
 have c5b0 := beq_eq_false_iff_ne.mpr c5
 have c5b1 := bne_iff_ne.mpr c5
 obtain ⟨y389, hy389⟩ : ∃ y_ : List Int, y_ = (([Go.bits .or .u64 (Go.bits .and .u64 a0 4503599627370495) 4503599627370496] : List Int)) := ⟨_, rfl⟩
 replace H : ((raw_Form.f k ((a0 / 9223372036854775808) == 1) y389 (wrap64 ((wrap64 (Go.bits .and .u64 (a0 / 4503599627370496) 2047)) - 1075))).bind fun bt392 => (some (bt392.1, bt392.2.1, bt392.2.2, 0))) = some (r1, r2, r3, r4) := zR hy389 H
 have Ny389 := zA hy389
 clear hy389
 obtain ⟨⟨t392, t393, t396⟩, A14, H⟩ := zh H
 (try dsimp only at H)
 simp only [Option.some.injEq, Prod.mk.injEq] at H
 obtain ⟨rfl, rfl, rfl, rfl⟩ := H
 go_enter Tryd.func41, Tryd.ntmps41
 go_wp2_with (first | ((with_reducible refine zD 2 rfl ?_); refine zn (N := 2) (cs := #[.bool false, .slice none 0 0, .int .i64 0]) (t := 25) rfl rfl ?_; intro gb380 hg w15 hbox hb; have BK380 := zA (hbox); have GW380 := zw hg; replace HB := ze hb; clear hb hbox hg) | ((with_reducible refine zD 24 rfl ?_); refine R_lit (Kd.int .u64) _ 43 ?hg (N := 24) ?hd (xs := ([Go.bits .or .u64 (Go.bits .and .u64 a0 4503599627370495) 4503599627370496] : List Int)) (inner := [.int .u64 (Go.bits .or .u64 (Go.bits .and .u64 a0 4503599627370495) 4503599627370496)]) (ok := fun _ => True) (okp := fun _ => True) ?hr ?hp (fun _ hk => hk) trivial (Below.refl _ _) (Nat.le_refl _) (by simp) ?_; (case hd => rfl); (case hg => rfl); (case hr => first | (go_simp; done) | (go_simp; rfl)); (case hp => exact (Reps.one (show Kd.M (Kd.int .u64) _ _ _ (Go.bits .or .u64 (Go.bits .and .u64 a0 4503599627370495) 4503599627370496) [.int .u64 (Go.bits .or .u64 (Go.bits .and .u64 a0 4503599627370495) 4503599627370496)] from rfl) (Reps.none _ _))); intro v390 w16 ho17 hb hg_ hnew_; clear hg_ hnew_; (first | rw [← Ny389.out] at ho17 | (simp only [Int.reduceToNat] at ho17; rw [← Ny389.out] at ho17)); have HO391 := zA (R_lower (R_newM (M := fun k_ => (w.heap.size ≤ k_)) ho17 (below_size zs) (fun k_ h_ => h_)) (below_size zs)); replace BK380 := zb BK380 hb; replace HB := zf hb; clear hb ho17; obtain ⟨Ao18, co18, eo18⟩ := R_slice HO391.out; subst eo18) | ((with_reducible refine zG 91 rfl ?_); refine zL (some 27) rfl rfl Tryd.func91 #[.bool ((a0 / 9223372036854775808) == 1), .slice Ao18 y389.length co18, .int .i64 (wrap64 ((wrap64 (Go.bits .and .u64 (a0 / 4503599627370496) 2047)) - 1075))] rfl ?_; (with_reducible refine (raw_Form.calls k ((a0 / 9223372036854775808) == 1) (fun k_ => some k_ = (.slice Ao18 y389.length co18 : Value).ownBlock) _ _ y389 (wrap64 ((wrap64 (Go.bits .and .u64 (a0 / 4503599627370496) 2047)) - 1075)) t392 t393 t396 _ ?side1 (laid_below hT zs) A14.out).mono ?_); (case side1 => exact R_V (R_tight rfl (R_types (HO391.out) BK380.out (by decide)))); rintro e w19 ⟨v394, rfl, ho0, hb⟩; refine ⟨_, rfl, ?_⟩; have HO395 := zA (V_lower (V_mono (ok' := fun k_ => (w.heap.size ≤ k_) ∧ k_ ≠ gb380) ho0 (fun k_ hk_ => ⟨Or.elim hk_ (fun hs_ => ((R_types (HO391.out) BK380.out (by decide)).1 k_ hs_.symm).1.1) (fun hn_ => (Nat.le_trans (below_size zs) hn_)), Or.elim hk_ (fun hs_ => ((R_types (HO391.out) BK380.out (by decide)).1 k_ hs_.symm).2) (fun hn_ => (zj BK380 k_ hn_))⟩)) (below_size zs)); replace HO391 := zA (R_below (ru HO391.out) hb); replace BK380 := zb BK380 hb; replace HB := zf hb; (try clear ho0); obtain ⟨hcz20_0, hcz20_1, hcz20_2, hfz20_0, hfz20_1, hfz20_2⟩ := zc BK380; obtain ⟨Ao21, co21, eo21⟩ := V_slice HO395.out; subst eo21))
 refine bodyPost_ret (results_ct rfl _ _ gb380 25 #[.bool t392, .slice Ao21 t393.length co21, .int .i64 t396] (0, 0) _ rfl (zy BK380) Tryd.underlying25 rfl (by kernel_rfl)) rfl ?_
 exact ⟨_, er, vu (V_mono (zv gb380 (V_mono HO395.out (fun k_ hk => (⟨hk, hk.2⟩ : _ ∧ k_ ≠ gb380))) (fun _ hk => hk.2) _ _ _) (fun _ hk => hk.1.1)), zs⟩
def dyad_room.f (k : Nat) (a0_0 : Bool) (l0_1 : List Int) (a0_2 : Int) : Option (Bool × List Int × Int × Int) := (raw_Fits.f k a0_0 l0_1 a0_2).bind fun t275 => (if t275 = true then (some (a0_0, l0_1, a0_2, 0)) else (some (false, ([] : List Int), 0, 3)))
theorem dyad_room.mono : ∀ a0 a1 a2 k, LeO (dyad_room.f k a0 a1 a2) (dyad_room.f (k + 1) a0 a1 a2) := by
 intro a0 a1 a2 k
 unfold dyad_room.f
 repeat' first
   | (with_reducible exact raw_Fits.mono _ _ _ _)
   | (with_reducible exact LeO.refl _)
   | (with_reducible exact LeO.none _)
   | (with_reducible refine LeO.ite ?_ ?_)
   | (with_reducible refine LeO.bind ?_ (fun _ => ?_))
   | exact raw_Fits.mono _ _ _ _
   | exact LeO.none _
   | refine LeO.ite ?_ ?_
   | refine LeO.bind ?_ (fun _ => ?_)
set_option maxHeartbeats 8000000 in
set_option maxRecDepth 100000 in
theorem dyad_room.calls (k : Nat) (a0_0 : Bool) (P0_1_ : Nat → Prop) (A0_1 : Option Addr) (c0_1 : Nat) (l0_1 : List Int) (a0_2 : Int) (r1 : Bool) (r2 : List Int) (r3 : Int) (r4 : Int) (w : World) (hs0_1 : Kd.V (Kd.int .u64) 43 w w.heap.size (fun k_ => P0_1_ k_) (.slice A0_1 l0_1.length c0_1) l0_1) (h : dyad_room.f k a0_0 l0_1 a0_2 = some (r1, r2, r3, r4)) :
  Calls Tryd.prog 111 #[.agg #[.bool a0_0, .slice A0_1 l0_1.length c0_1, .int .i64 a0_2]] w fun e w' => ∃ v1_ : Value, e = .returned (.tuple #[.agg #[.bool r1, v1_, .int .i64 r3], .int .i64 r4]) ∧ Kd.V (Kd.int .u64) 43 w' w.heap.size (fun k_ => (P0_1_ k_ ∨ w.heap.size ≤ k_)) v1_ r2 ∧ Below w.heap.size w w' := by
 have hu25 := Tryd.underlying25
 have HO0_1 := zA (show Kd.V (Kd.int .u64) 43 w w.heap.size (fun k_ => (P0_1_ k_ ∨ w.heap.size ≤ k_)) (.slice A0_1 l0_1.length c0_1) l0_1 from V_mono hs0_1 (fun k_ hk => .inl hk))
 have HB := zA (Below.refl w.heap.size w)
 have H : ((raw_Fits.f k a0_0 l0_1 a0_2).bind fun t275 => (if t275 = true then (some (a0_0, l0_1, a0_2, 0)) else (some (false, ([] : List Int), 0, 3)))) = some (r1, r2, r3, r4) := h
 clear h
 obtain ⟨t275, A2, H⟩ := zh H
 by_cases c3 : t275 = true
 ·subst c3
  rw [if_pos rfl] at H
  simp only [Option.some.injEq, Prod.mk.injEq] at H
  obtain ⟨rfl, rfl, rfl, rfl⟩ := H
  go_enter Tryd.func111, Tryd.ntmps111
  go_wp2_with (first | ((with_reducible refine zD 1 rfl ?_); refine zn (N := 1) (cs := #[.bool a0_0, .slice A0_1 l0_1.length c0_1, .int .i64 a0_2]) (t := 25) rfl rfl ?_; intro gb273 hg w4 hbox hb; replace HO0_1 := zA (V_below (V_elderB (vu HO0_1.out) gb273 (Nat.le_of_eq hg.symm)) hb); have BK273 := zA (hbox); have GW273 := zw hg; replace HB := ze hb; clear hb hbox hg) | ((with_reducible refine zD 2 rfl ?_); refine zn (N := 2) (cs := #[.bool false, .slice none 0 0, .int .i64 0]) (t := 25) rfl rfl ?_; intro gb274 hg w5 hbox hb; replace HO0_1 := zA (V_below (V_elderB (vu HO0_1.out) gb274 (Nat.le_of_eq hg.symm)) hb); have BK274 := zA (hbox); have GW274 := zx hg; replace HB := zf hb; have NB273_274 := zl BK273 hg; have NB274_273 := zg BK273 hg; replace BK273 := zb BK273 hb; clear hb hbox hg; have hnb6 := NB273_274.out; have hnc6 := NB274_273.out; obtain ⟨_, _, _, _, _, _⟩ := zc BK273) | ((with_reducible refine zG 101 rfl ?_); refine zL (some 5) rfl rfl Tryd.func101 #[.agg #[.bool a0_0, .slice A0_1 l0_1.length c0_1, .int .i64 a0_2]] rfl ?_; (with_reducible refine (raw_Fits.calls k a0_0 _ _ l0_1 a0_2 true _ ?side1 ?side2 A2.out).mono ?_); (case side1 => exact zk (V_reads' HO0_1.out).2.2); (case side2 => exact (V_reads' HO0_1.out).2.1); rintro e w8 ⟨rfl, hb⟩; refine ⟨_, rfl, ?_⟩; replace HO0_1 := zA (V_below (vu HO0_1.out) hb); replace BK273 := zb BK273 hb; replace BK274 := zb BK274 hb; replace HB := zf hb; obtain ⟨hcz9_0, hcz9_1, hcz9_2, hfz9_0, hfz9_1, hfz9_2⟩ := zc BK273; obtain ⟨hcz10_0, hcz10_1, hcz10_2, hfz10_0, hfz10_1, hfz10_2⟩ := zc BK274))
  refine bodyPost_ret (results_ct rfl _ _ gb274 25 #[.bool a0_0, .slice A0_1 l0_1.length c0_1, .int .i64 a0_2] (0, 0) _ rfl (zy BK274) Tryd.underlying25 rfl (by kernel_rfl)) rfl ?_
  exact ⟨_, er, vu (V_mono (zv gb274 (V_mono HO0_1.out (fun k_ hk => (⟨hk, hk.2⟩ : _ ∧ k_ ≠ gb274))) (fun _ hk => hk.2) _ _ _) (fun _ hk => hk.1.1.1)), zs⟩
 replace c3 := Bool.eq_false_iff.mpr c3
 subst c3
 rw [if_neg (show ¬ (false = true) by decide)] at H
 simp only [Option.some.injEq, Prod.mk.injEq] at H
 obtain ⟨rfl, rfl, rfl, rfl⟩ := H
 go_enter Tryd.func111, Tryd.ntmps111
 go_wp2_with (first | ((with_reducible refine zD 1 rfl ?_); refine zn (N := 1) (cs := #[.bool a0_0, .slice A0_1 l0_1.length c0_1, .int .i64 a0_2]) (t := 25) rfl rfl ?_; intro gb273 hg w11 hbox hb; replace HO0_1 := zA (V_below (V_elderB (vu HO0_1.out) gb273 (Nat.le_of_eq hg.symm)) hb); have BK273 := zA (hbox); have GW273 := zw hg; replace HB := ze hb; clear hb hbox hg) | ((with_reducible refine zD 2 rfl ?_); refine zn (N := 2) (cs := #[.bool false, .slice none 0 0, .int .i64 0]) (t := 25) rfl rfl ?_; intro gb274 hg w12 hbox hb; replace HO0_1 := zA (V_below (V_elderB (vu HO0_1.out) gb274 (Nat.le_of_eq hg.symm)) hb); have BK274 := zA (hbox); have GW274 := zx hg; replace HB := zf hb; have NB273_274 := zl BK273 hg; have NB274_273 := zg BK273 hg; replace BK273 := zb BK273 hb; clear hb hbox hg; have hnb13 := NB273_274.out; have hnc13 := NB274_273.out; obtain ⟨_, _, _, _, _, _⟩ := zc BK273) | ((with_reducible refine zG 101 rfl ?_); refine zL (some 5) rfl rfl Tryd.func101 #[.agg #[.bool a0_0, .slice A0_1 l0_1.length c0_1, .int .i64 a0_2]] rfl ?_; (with_reducible refine (raw_Fits.calls k a0_0 _ _ l0_1 a0_2 false _ ?side1 ?side2 A2.out).mono ?_); (case side1 => exact zk (V_reads' HO0_1.out).2.2); (case side2 => exact (V_reads' HO0_1.out).2.1); rintro e w15 ⟨rfl, hb⟩; refine ⟨_, rfl, ?_⟩; replace HO0_1 := zA (V_below (vu HO0_1.out) hb); replace BK273 := zb BK273 hb; replace BK274 := zb BK274 hb; replace HB := zf hb; obtain ⟨hcz16_0, hcz16_1, hcz16_2, hfz16_0, hfz16_1, hfz16_2⟩ := zc BK274))
 refine bodyPost_ret (results_ct rfl _ _ gb274 25 #[.bool false, .slice none 0 0, .int .i64 0] (0, 0) _ rfl (zy BK274) Tryd.underlying25 rfl (by kernel_rfl)) rfl ?_
 exact ⟨_, er, V_nil _ _ _ _ _, zs⟩
end Go.Proofs.YtemfckibdojbbaaDoor.PAll
