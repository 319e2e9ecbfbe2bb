/- Printed functions, merged by a program of this session. -/
import Derived.Test.YtnjfckadjklmfaaDoorXRoundNearsP0
import Derived.Test.YtnjfckadjklmfaaDoorXRoundNearsP17
import Derived.Test.YtnjfckadjklmfaaDoorXRoundNearsSh
namespace Go.Proofs.YtnjfckadjklmfaaDoor.PAll
open Go.RowKit Go.Proofs.YtnjfckadjklmfaaDoorW.PrintWords Go.Proofs.YtnjfckadjklmfaaDoorW.PrintLast Go.Proofs.YtnjfckadjklmfaaDoorW.PrintMore Go.Proofs.YtnjfckadjklmfaaDoorW.PrintWords.Kd
attribute [local go_sem] max2_int min2_int max_two min_two max_three min_three max_four min_four   -- for this text's walks alone
set_option linter.unusedVariables false
set_option linter.unusedSimpArgs false
attribute [local go_sem] fld75_0 fld75_1 fld75_2 ext118 ext119
def dyad_Cmp.f (k : Nat) (a0_0 : Bool) (l0_1 : List Int) (a0_2 : Int) (a1_0 : Bool) (l1_1 : List Int) (a1_2 : Int) : Option (Int × Int) := (dyad_number_right.f k a0_0 l0_1 a0_2).bind fun t520 => (if t520 = true then ((dyad_number_right.f k a1_0 l1_1 a1_2).bind fun t521 => (if t521 = true then ((raw_Cmp.f k a0_0 l0_1 a0_2 a1_0 l1_1 a1_2).bind fun t522 => (some (t522, 0))) else (some (0, 2)))) else (some (0, 2)))
theorem dyad_Cmp.mono : ∀ a0 a1 a2 a3 a4 a5 k, LeO (dyad_Cmp.f k a0 a1 a2 a3 a4 a5) (dyad_Cmp.f (k + 1) a0 a1 a2 a3 a4 a5) := by
 intro a0 a1 a2 a3 a4 a5 k
 unfold dyad_Cmp.f
 repeat' first
   | (with_reducible exact dyad_number_right.mono _ _ _ _)
   | (with_reducible exact raw_Cmp.mono _ _ _ _ _ _ _)
   | (with_reducible exact LeO.refl _)
   | (with_reducible exact LeO.none _)
   | (with_reducible refine LeO.ite ?_ ?_)
   | (with_reducible refine LeO.bind ?_ (fun _ => ?_))
   | exact dyad_number_right.mono _ _ _ _
   | exact raw_Cmp.mono _ _ _ _ _ _ _
   | exact LeO.none _
   | refine LeO.ite ?_ ?_
   | refine LeO.bind ?_ (fun _ => ?_)
set_option maxHeartbeats 8000000 in
set_option maxRecDepth 100000 in
theorem dyad_Cmp.calls (k : Nat) (a0_0 : Bool) (A0_1 : Option Addr) (c0_1 : Nat) (l0_1 : List Int) (a0_2 : Int) (a1_0 : Bool) (A1_1 : Option Addr) (c1_1 : Nat) (l1_1 : List Int) (a1_2 : Int) (r1 : Int) (r2 : Int) (w : World) (hr0_1 : Kd.C (Kd.int .u64) w A0_1 l0_1.length l0_1) (hc0_1 : l0_1.length ≤ c0_1) (hr1_1 : Kd.C (Kd.int .u64) w A1_1 l1_1.length l1_1) (hc1_1 : l1_1.length ≤ c1_1) (hT : Laid w) (h : dyad_Cmp.f k a0_0 l0_1 a0_2 a1_0 l1_1 a1_2 = some (r1, r2)) :
  Calls Tryd.prog 87 #[.agg #[.bool a0_0, .slice A0_1 l0_1.length c0_1, .int .i64 a0_2], .agg #[.bool a1_0, .slice A1_1 l1_1.length c1_1, .int .i64 a1_2]] w fun e w' => e = .returned (.tuple #[.int .i64 r1, .int .i64 r2]) ∧ Below w.heap.size w w' := by
 have hu25 := Tryd.underlying25
 have HR0_1 := zA hr0_1
 have HC0_1 := zA hc0_1
 clear hr0_1 hc0_1
 have HR1_1 := zA hr1_1
 have HC1_1 := zA hc1_1
 clear hr1_1 hc1_1
 have HB := zA (Below.refl w.heap.size w)
 have H : ((dyad_number_right.f k a0_0 l0_1 a0_2).bind fun t520 => (if t520 = true then ((dyad_number_right.f k a1_0 l1_1 a1_2).bind fun t521 => (if t521 = true then ((raw_Cmp.f k a0_0 l0_1 a0_2 a1_0 l1_1 a1_2).bind fun t522 => (some (t522, 0))) else (some (0, 2)))) else (some (0, 2)))) = some (r1, r2) := h
 clear h
 obtain ⟨t520, A3, H⟩ := zh H
 by_cases c4 : t520 = true
 ·subst c4
  rw [if_pos rfl] at H
  obtain ⟨t521, A5, H⟩ := zh H
  by_cases c6 : t521 = true
  ·subst c6
   rw [if_pos rfl] at H
   obtain ⟨t522, A7, H⟩ := zh H
   simp only [Option.some.injEq, Prod.mk.injEq] at H
   obtain ⟨rfl, rfl⟩ := H
   go_enter Tryd.func87, Tryd.ntmps87
   go_wp2_with (first | ((with_reducible refine zD 2 rfl ?_); refine zn (N := 2) (cs := #[.bool a0_0, .slice A0_1 l0_1.length c0_1, .int .i64 a0_2]) (t := 25) rfl rfl ?_; intro gb518 hg w8 hbox hb; have BK518 := zA (hbox); have GW518 := zw hg; replace HB := ze hb; clear hb hbox hg) | ((with_reducible refine zD 3 rfl ?_); refine zn (N := 3) (cs := #[.bool a1_0, .slice A1_1 l1_1.length c1_1, .int .i64 a1_2]) (t := 25) rfl rfl ?_; intro gb519 hg w9 hbox hb; have BK519 := zA (hbox); have GW519 := zx hg; replace HB := zf hb; have NB518_519 := zl BK518 hg; have NB519_518 := zg BK518 hg; replace BK518 := zb BK518 hb; clear hb hbox hg; have hnb10 := NB518_519.out; have hnc10 := NB519_518.out; obtain ⟨_, _, _, _, _, _⟩ := zc BK518) | ((with_reducible refine zG 53 rfl ?_); refine zL (some 7) rfl rfl Tryd.func53 #[.agg #[.bool a0_0, .slice A0_1 l0_1.length c0_1, .int .i64 a0_2]] rfl ?_; (with_reducible refine (dyad_number_right.calls k a0_0 _ _ l0_1 a0_2 true _ ?side1 ?side2 A3.out).mono ?_); (case side1 => exact zk (C_below HR0_1.out HB.out)); (case side2 => exact HC0_1.out); rintro e w12 ⟨rfl, hb⟩; refine ⟨_, rfl, ?_⟩; replace BK518 := zb BK518 hb; replace BK519 := zb BK519 hb; replace HB := zf hb; obtain ⟨hcz13_0, hcz13_1, hcz13_2, hfz13_0, hfz13_1, hfz13_2⟩ := zc BK519) | (go_at_call 53; (with_reducible refine (dyad_number_right.calls k a1_0 _ _ l1_1 a1_2 true _ ?side1 ?side2 A5.out).mono ?_); (case side1 => exact zk (C_below HR1_1.out HB.out)); (case side2 => exact HC1_1.out); rintro e w14 ⟨rfl, hb⟩; replace BK518 := zb BK518 hb; replace BK519 := zb BK519 hb; replace HB := zf hb; obtain ⟨hcz15_0, hcz15_1, hcz15_2, hfz15_0, hfz15_1, hfz15_2⟩ := zc BK518; obtain ⟨hcz16_0, hcz16_1, hcz16_2, hfz16_0, hfz16_1, hfz16_2⟩ := zc BK519) | ((with_reducible refine zG 59 rfl ?_); refine zL (some 16) rfl rfl Tryd.func59 #[.agg #[.bool a0_0, .slice A0_1 l0_1.length c0_1, .int .i64 a0_2], .agg #[.bool a1_0, .slice A1_1 l1_1.length c1_1, .int .i64 a1_2]] rfl ?_; (with_reducible refine (raw_Cmp.calls k a0_0 _ _ l0_1 a0_2 a1_0 _ _ l1_1 a1_2 t522 _ ?side1 ?side2 ?side3 ?side4 (laid_below hT zs) A7.out).mono ?_); (case side1 => exact zk (C_below HR0_1.out HB.out)); (case side2 => exact HC0_1.out); (case side3 => exact zk (C_below HR1_1.out HB.out)); (case side4 => exact HC1_1.out); rintro e w17 ⟨rfl, hb⟩; refine ⟨_, rfl, ?_⟩; replace BK518 := zb BK518 hb; replace BK519 := zb BK519 hb; replace HB := zf hb))
   go_ret2
   exact ⟨er, zs⟩
  replace c6 := Bool.eq_false_iff.mpr c6
  subst c6
  rw [if_neg (show ¬ (false = true) by decide)] at H
  simp only [Option.some.injEq, Prod.mk.injEq] at H
  obtain ⟨rfl, rfl⟩ := H
  go_enter Tryd.func87, Tryd.ntmps87
  go_wp2_with (first | ((with_reducible refine zD 2 rfl ?_); refine zn (N := 2) (cs := #[.bool a0_0, .slice A0_1 l0_1.length c0_1, .int .i64 a0_2]) (t := 25) rfl rfl ?_; intro gb518 hg w18 hbox hb; have BK518 := zA (hbox); have GW518 := zw hg; replace HB := ze hb; clear hb hbox hg) | ((with_reducible refine zD 3 rfl ?_); refine zn (N := 3) (cs := #[.bool a1_0, .slice A1_1 l1_1.length c1_1, .int .i64 a1_2]) (t := 25) rfl rfl ?_; intro gb519 hg w19 hbox hb; have BK519 := zA (hbox); have GW519 := zx hg; replace HB := zf hb; have NB518_519 := zl BK518 hg; have NB519_518 := zg BK518 hg; replace BK518 := zb BK518 hb; clear hb hbox hg; have hnb20 := NB518_519.out; have hnc20 := NB519_518.out; obtain ⟨_, _, _, _, _, _⟩ := zc BK518) | ((with_reducible refine zG 53 rfl ?_); refine zL (some 7) rfl rfl Tryd.func53 #[.agg #[.bool a0_0, .slice A0_1 l0_1.length c0_1, .int .i64 a0_2]] rfl ?_; (with_reducible refine (dyad_number_right.calls k a0_0 _ _ l0_1 a0_2 true _ ?side1 ?side2 A3.out).mono ?_); (case side1 => exact zk (C_below HR0_1.out HB.out)); (case side2 => exact HC0_1.out); rintro e w22 ⟨rfl, hb⟩; refine ⟨_, rfl, ?_⟩; replace BK518 := zb BK518 hb; replace BK519 := zb BK519 hb; replace HB := zf hb; obtain ⟨hcz23_0, hcz23_1, hcz23_2, hfz23_0, hfz23_1, hfz23_2⟩ := zc BK519) | (go_at_call 53; (with_reducible refine (dyad_number_right.calls k a1_0 _ _ l1_1 a1_2 false _ ?side1 ?side2 A5.out).mono ?_); (case side1 => exact zk (C_below HR1_1.out HB.out)); (case side2 => exact HC1_1.out); rintro e w24 ⟨rfl, hb⟩; replace BK518 := zb BK518 hb; replace BK519 := zb BK519 hb; replace HB := zf hb))
  go_ret2
  exact ⟨er, zs⟩
 replace c4 := Bool.eq_false_iff.mpr c4
 subst c4
 rw [if_neg (show ¬ (false = true) by decide)] at H
 simp only [Option.some.injEq, Prod.mk.injEq] at H
 obtain ⟨rfl, rfl⟩ := H
 go_enter Tryd.func87, Tryd.ntmps87
 go_wp2_with (first | ((with_reducible refine zD 2 rfl ?_); refine zn (N := 2) (cs := #[.bool a0_0, .slice A0_1 l0_1.length c0_1, .int .i64 a0_2]) (t := 25) rfl rfl ?_; intro gb518 hg w25 hbox hb; have BK518 := zA (hbox); have GW518 := zw hg; replace HB := ze hb; clear hb hbox hg) | ((with_reducible refine zD 3 rfl ?_); refine zn (N := 3) (cs := #[.bool a1_0, .slice A1_1 l1_1.length c1_1, .int .i64 a1_2]) (t := 25) rfl rfl ?_; intro gb519 hg w26 hbox hb; have BK519 := zA (hbox); have GW519 := zx hg; replace HB := zf hb; have NB518_519 := zl BK518 hg; have NB519_518 := zg BK518 hg; replace BK518 := zb BK518 hb; clear hb hbox hg; have hnb27 := NB518_519.out; have hnc27 := NB519_518.out; obtain ⟨_, _, _, _, _, _⟩ := zc BK518) | ((with_reducible refine zG 53 rfl ?_); refine zL (some 7) rfl rfl Tryd.func53 #[.agg #[.bool a0_0, .slice A0_1 l0_1.length c0_1, .int .i64 a0_2]] rfl ?_; (with_reducible refine (dyad_number_right.calls k a0_0 _ _ l0_1 a0_2 false _ ?side1 ?side2 A3.out).mono ?_); (case side1 => exact zk (C_below HR0_1.out HB.out)); (case side2 => exact HC0_1.out); rintro e w29 ⟨rfl, hb⟩; refine ⟨_, rfl, ?_⟩; replace BK518 := zb BK518 hb; replace BK519 := zb BK519 hb; replace HB := zf hb))
 go_ret2
 exact ⟨er, zs⟩
def round_fault.f (k : Nat) (a0_0 : Bool) (l0_1 : List Int) (a0_2 : Int) (a0_3 : Bool) (l0_4 : List Int) (a0_5 : Int) : Option (Int) := (dyad_Cmp.f k a0_0 l0_1 a0_2 a0_3 l0_4 a0_5).bind fun bt524 => (if bt524.2 = 0 then (if bt524.1 > 0 then (some 2) else (some 0)) else (some bt524.2))
theorem round_fault.mono : ∀ a0 a1 a2 a3 a4 a5 k, LeO (round_fault.f k a0 a1 a2 a3 a4 a5) (round_fault.f (k + 1) a0 a1 a2 a3 a4 a5) := by
 intro a0 a1 a2 a3 a4 a5 k
 unfold round_fault.f
 repeat' first
   | (with_reducible exact dyad_Cmp.mono _ _ _ _ _ _ _)
   | (with_reducible exact LeO.refl _)
   | (with_reducible exact LeO.none _)
   | (with_reducible refine LeO.ite ?_ ?_)
   | (with_reducible refine LeO.bind ?_ (fun _ => ?_))
   | exact dyad_Cmp.mono _ _ _ _ _ _ _
   | exact LeO.none _
   | refine LeO.ite ?_ ?_
   | refine LeO.bind ?_ (fun _ => ?_)
set_option maxHeartbeats 8000000 in
set_option maxRecDepth 100000 in
theorem round_fault.calls (k : Nat) (a0_0 : Bool) (A0_1 : Option Addr) (c0_1 : Nat) (l0_1 : List Int) (a0_2 : Int) (a0_3 : Bool) (A0_4 : Option Addr) (c0_4 : Nat) (l0_4 : List Int) (a0_5 : Int) (r : Int) (w : World) (hr0_1 : Kd.C (Kd.int .u64) w A0_1 l0_1.length l0_1) (hc0_1 : l0_1.length ≤ c0_1) (hr0_4 : Kd.C (Kd.int .u64) w A0_4 l0_4.length l0_4) (hc0_4 : l0_4.length ≤ c0_4) (hT : Laid w) (h : round_fault.f k a0_0 l0_1 a0_2 a0_3 l0_4 a0_5 = some r) :
  Calls Tryd.prog 49 #[.agg #[.bool a0_0, .slice A0_1 l0_1.length c0_1, .int .i64 a0_2, .bool a0_3, .slice A0_4 l0_4.length c0_4, .int .i64 a0_5]] w fun e w' => e = .returned (.int .i64 r) ∧ Below w.heap.size w w' := by
 have hu49 := Tryd.underlying49
 have hu25 := Tryd.underlying25
 have HR0_1 := zA hr0_1
 have HC0_1 := zA hc0_1
 clear hr0_1 hc0_1
 have HR0_4 := zA hr0_4
 have HC0_4 := zA hc0_4
 clear hr0_4 hc0_4
 have HB := zA (Below.refl w.heap.size w)
 have H : ((dyad_Cmp.f k a0_0 l0_1 a0_2 a0_3 l0_4 a0_5).bind fun bt524 => (if bt524.2 = 0 then (if bt524.1 > 0 then (some 2) else (some 0)) else (some bt524.2))) = some r := h
 clear h
 obtain ⟨⟨t524, t525⟩, A2, H⟩ := zh H
 (try dsimp only at H)
 by_cases c3 : t525 = 0
 ·rw [if_pos c3] at H
  have c3b0 := beq_iff_eq.mpr c3
  have c3b1 := bne_eq_false_iff_eq.mpr c3
  clear c3
  by_cases c4 : t524 > 0
  ·rw [if_pos c4] at H
   have c4b0 := decide_eq_true c4
   clear c4
   obtain rfl := Option.some.inj H
   go_enter Tryd.func49, Tryd.ntmps49
   go_wp2_with (first | ((with_reducible refine zD 1 rfl ?_); refine zn (N := 1) (cs := #[.bool a0_0, .slice A0_1 l0_1.length c0_1, .int .i64 a0_2, .bool a0_3, .slice A0_4 l0_4.length c0_4, .int .i64 a0_5]) (t := 49) rfl rfl ?_; intro gb523 hg w5 hbox hb; have BK523 := zA (hbox); have GW523 := zw hg; replace HB := ze hb; clear hb hbox hg; have hcz6_0 : w5.cell? ⟨gb523, 0, none⟩ = some (.bool a0_0) := (blk_cell BK523.out 0).trans rfl; have hcz6_1 : w5.cell? ⟨gb523, 1, none⟩ = some (.slice A0_1 l0_1.length c0_1) := (blk_cell BK523.out 1).trans rfl; have hcz6_2 : w5.cell? ⟨gb523, 2, none⟩ = some (.int .i64 a0_2) := (blk_cell BK523.out 2).trans rfl; have hcz6_3 : w5.cell? ⟨gb523, 3, none⟩ = some (.bool a0_3) := (blk_cell BK523.out 3).trans rfl; have hcz6_4 : w5.cell? ⟨gb523, 4, none⟩ = some (.slice A0_4 l0_4.length c0_4) := (blk_cell BK523.out 4).trans rfl; have hcz6_5 : w5.cell? ⟨gb523, 5, none⟩ = some (.int .i64 a0_5) := (blk_cell BK523.out 5).trans rfl; have hfz6_0 := blk_frozen BK523.out 0; have hfz6_1 := blk_frozen BK523.out 1; have hfz6_2 := blk_frozen BK523.out 2; have hfz6_3 := blk_frozen BK523.out 3; have hfz6_4 := blk_frozen BK523.out 4; have hfz6_5 := blk_frozen BK523.out 5) | ((with_reducible refine zG 87 rfl ?_); refine zL (some 10) rfl rfl Tryd.func87 #[.agg #[.bool a0_0, .slice A0_1 l0_1.length c0_1, .int .i64 a0_2], .agg #[.bool a0_3, .slice A0_4 l0_4.length c0_4, .int .i64 a0_5]] rfl ?_; (with_reducible refine (dyad_Cmp.calls k a0_0 _ _ l0_1 a0_2 a0_3 _ _ l0_4 a0_5 t524 t525 _ ?side1 ?side2 ?side3 ?side4 (laid_below hT zs) A2.out).mono ?_); (case side1 => exact zk (C_below HR0_1.out HB.out)); (case side2 => exact HC0_1.out); (case side3 => exact zk (C_below HR0_4.out HB.out)); (case side4 => exact HC0_4.out); rintro e w7 ⟨rfl, hb⟩; refine ⟨_, rfl, ?_⟩; replace BK523 := zb BK523 hb; replace HB := zf hb))
   go_ret
   exact ⟨er, zs⟩
  rw [if_neg c4] at H
  have c4b0 := decide_eq_false c4
  clear c4
  obtain rfl := Option.some.inj H
  go_enter Tryd.func49, Tryd.ntmps49
  go_wp2_with (first | ((with_reducible refine zD 1 rfl ?_); refine zn (N := 1) (cs := #[.bool a0_0, .slice A0_1 l0_1.length c0_1, .int .i64 a0_2, .bool a0_3, .slice A0_4 l0_4.length c0_4, .int .i64 a0_5]) (t := 49) rfl rfl ?_; intro gb523 hg w8 hbox hb; have BK523 := zA (hbox); have GW523 := zw hg; replace HB := ze hb; clear hb hbox hg; have hcz9_0 : w8.cell? ⟨gb523, 0, none⟩ = some (.bool a0_0) := (blk_cell BK523.out 0).trans rfl; have hcz9_1 : w8.cell? ⟨gb523, 1, none⟩ = some (.slice A0_1 l0_1.length c0_1) := (blk_cell BK523.out 1).trans rfl; have hcz9_2 : w8.cell? ⟨gb523, 2, none⟩ = some (.int .i64 a0_2) := (blk_cell BK523.out 2).trans rfl; have hcz9_3 : w8.cell? ⟨gb523, 3, none⟩ = some (.bool a0_3) := (blk_cell BK523.out 3).trans rfl; have hcz9_4 : w8.cell? ⟨gb523, 4, none⟩ = some (.slice A0_4 l0_4.length c0_4) := (blk_cell BK523.out 4).trans rfl; have hcz9_5 : w8.cell? ⟨gb523, 5, none⟩ = some (.int .i64 a0_5) := (blk_cell BK523.out 5).trans rfl; have hfz9_0 := blk_frozen BK523.out 0; have hfz9_1 := blk_frozen BK523.out 1; have hfz9_2 := blk_frozen BK523.out 2; have hfz9_3 := blk_frozen BK523.out 3; have hfz9_4 := blk_frozen BK523.out 4; have hfz9_5 := blk_frozen BK523.out 5) | ((with_reducible refine zG 87 rfl ?_); refine zL (some 10) rfl rfl Tryd.func87 #[.agg #[.bool a0_0, .slice A0_1 l0_1.length c0_1, .int .i64 a0_2], .agg #[.bool a0_3, .slice A0_4 l0_4.length c0_4, .int .i64 a0_5]] rfl ?_; (with_reducible refine (dyad_Cmp.calls k a0_0 _ _ l0_1 a0_2 a0_3 _ _ l0_4 a0_5 t524 t525 _ ?side1 ?side2 ?side3 ?side4 (laid_below hT zs) A2.out).mono ?_); (case side1 => exact zk (C_below HR0_1.out HB.out)); (case side2 => exact HC0_1.out); (case side3 => exact zk (C_below HR0_4.out HB.out)); (case side4 => exact HC0_4.out); rintro e w10 ⟨rfl, hb⟩; refine ⟨_, rfl, ?_⟩; replace BK523 := zb BK523 hb; replace HB := zf hb))
  go_ret
  exact ⟨er, zs⟩
 rw [if_neg c3] at H
 have c3b0 := beq_eq_false_iff_ne.mpr c3
 have c3b1 := bne_iff_ne.mpr c3
 obtain rfl := Option.some.inj H
 go_enter Tryd.func49, Tryd.ntmps49
 go_wp2_with (first | ((with_reducible refine zD 1 rfl ?_); refine zn (N := 1) (cs := #[.bool a0_0, .slice A0_1 l0_1.length c0_1, .int .i64 a0_2, .bool a0_3, .slice A0_4 l0_4.length c0_4, .int .i64 a0_5]) (t := 49) rfl rfl ?_; intro gb523 hg w11 hbox hb; have BK523 := zA (hbox); have GW523 := zw hg; replace HB := ze hb; clear hb hbox hg; have hcz12_0 : w11.cell? ⟨gb523, 0, none⟩ = some (.bool a0_0) := (blk_cell BK523.out 0).trans rfl; have hcz12_1 : w11.cell? ⟨gb523, 1, none⟩ = some (.slice A0_1 l0_1.length c0_1) := (blk_cell BK523.out 1).trans rfl; have hcz12_2 : w11.cell? ⟨gb523, 2, none⟩ = some (.int .i64 a0_2) := (blk_cell BK523.out 2).trans rfl; have hcz12_3 : w11.cell? ⟨gb523, 3, none⟩ = some (.bool a0_3) := (blk_cell BK523.out 3).trans rfl; have hcz12_4 : w11.cell? ⟨gb523, 4, none⟩ = some (.slice A0_4 l0_4.length c0_4) := (blk_cell BK523.out 4).trans rfl; have hcz12_5 : w11.cell? ⟨gb523, 5, none⟩ = some (.int .i64 a0_5) := (blk_cell BK523.out 5).trans rfl; have hfz12_0 := blk_frozen BK523.out 0; have hfz12_1 := blk_frozen BK523.out 1; have hfz12_2 := blk_frozen BK523.out 2; have hfz12_3 := blk_frozen BK523.out 3; have hfz12_4 := blk_frozen BK523.out 4; have hfz12_5 := blk_frozen BK523.out 5) | ((with_reducible refine zG 87 rfl ?_); refine zL (some 10) rfl rfl Tryd.func87 #[.agg #[.bool a0_0, .slice A0_1 l0_1.length c0_1, .int .i64 a0_2], .agg #[.bool a0_3, .slice A0_4 l0_4.length c0_4, .int .i64 a0_5]] rfl ?_; (with_reducible refine (dyad_Cmp.calls k a0_0 _ _ l0_1 a0_2 a0_3 _ _ l0_4 a0_5 t524 t525 _ ?side1 ?side2 ?side3 ?side4 (laid_below hT zs) A2.out).mono ?_); (case side1 => exact zk (C_below HR0_1.out HB.out)); (case side2 => exact HC0_1.out); (case side3 => exact zk (C_below HR0_4.out HB.out)); (case side4 => exact HC0_4.out); rintro e w13 ⟨rfl, hb⟩; refine ⟨_, rfl, ?_⟩; replace BK523 := zb BK523 hb; replace HB := zf hb))
 go_ret
 exact ⟨er, zs⟩
def bits_amount.f (a0 : Int) : Option (Int) := some (Go.bits .andNot .u64 a0 9223372036854775808)
set_option maxHeartbeats 8000000 in
set_option maxRecDepth 100000 in
theorem bits_amount.calls (a0 : Int) (r : Int) (w : World) (h : bits_amount.f a0 = some r) :
  Calls Tryd.prog 48 #[.int .u64 a0] w fun e w' => e = .returned (.int .u64 r) ∧ Drawn0 w w' := by
 have H : (some (Go.bits .andNot .u64 a0 9223372036854775808)) = some r := h
 clear h
 obtain rfl := Option.some.inj H
 go_enter Tryd.func48, Tryd.ntmps48
 go_wp2
 go_ret
 exact ⟨by first | rfl | (simp; done) | (simp [*]; done), by repeat (first | exact Drawn0.refl _ | apply Drawn0.step)⟩
def bits_Abs.f (a0 : Int) : Option (Int) := (bits_amount.f a0).bind fun t526 => (some t526)
set_option maxHeartbeats 8000000 in
set_option maxRecDepth 100000 in
theorem bits_Abs.calls (a0 : Int) (r : Int) (w : World) (h : bits_Abs.f a0 = some r) :
  Calls Tryd.prog 51 #[.int .u64 a0] w fun e w' => e = .returned (.int .u64 r) ∧ Drawn0 w w' := by
 have H : ((bits_amount.f a0).bind fun t526 => (some t526)) = some r := h
 clear h
 obtain ⟨t526, A2, H⟩ := zh H
 obtain rfl := Option.some.inj H
 go_enter Tryd.func51, Tryd.ntmps51
 go_wp2_with (first | ((with_reducible refine zG 48 rfl ?_); refine zL (some 4) rfl rfl Tryd.func48 #[.int .u64 a0] rfl ?_; (with_reducible refine (bits_amount.calls a0 t526 _ A2.out).mono ?_); rintro e w' ⟨rfl, ⟨nd, rfl⟩⟩; refine ⟨_, rfl, ?_⟩))
 go_ret
 exact ⟨by first | rfl | (simp; done) | (simp [*]; done), by repeat (first | exact Drawn0.refl _ | apply Drawn0.step)⟩
end Go.Proofs.YtnjfckadjklmfaaDoor.PAll
