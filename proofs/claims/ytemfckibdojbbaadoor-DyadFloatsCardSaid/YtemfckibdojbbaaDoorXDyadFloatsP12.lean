/- Printed functions, merged by a program of this session. -/
import Derived.Test.YtemfckibdojbbaaDoorXDyadFloatsP0
import Derived.Test.YtemfckibdojbbaaDoorXDyadFloatsP2
import Derived.Test.YtemfckibdojbbaaDoorXDyadFloatsP11
import Derived.Laws.StructEq
import Derived.Test.YtemfckibdojbbaaDoorXDyadFloatsSh
namespace Go.Proofs.YtemfckibdojbbaaDoor.PAll
open Go.RowKit Go.Proofs.YtemfckibdojbbaaDoorW.PrintWords Go.Proofs.YtemfckibdojbbaaDoorW.PrintLast Go.Proofs.YtemfckibdojbbaaDoorW.PrintMore Go.Proofs.YtemfckibdojbbaaDoorW.PrintWords.Kd
attribute [local go_sem] max2_int min2_int max_two min_two max_three min_three max_four min_four   -- for this text's walks alone
set_option linter.unusedVariables false
set_option linter.unusedSimpArgs false
attribute [local go_sem] ext135 ext136
def dyad_Cmp.f (k : Nat) (a0_0 : Bool) (l0_1 : List Int) (a0_2 : Int) (a1_0 : Bool) (l1_1 : List Int) (a1_2 : Int) : Option (Int × Int) := (dyad_number_right.f k a0_0 l0_1 a0_2).bind fun t377 => (if t377 = true then ((dyad_number_right.f k a1_0 l1_1 a1_2).bind fun t378 => (if t378 = true then ((raw_Cmp.f k a0_0 l0_1 a0_2 a1_0 l1_1 a1_2).bind fun t379 => (some (t379, 0))) else (some (0, 2)))) else (some (0, 2)))
theorem dyad_Cmp.mono : ∀ a0 a1 a2 a3 a4 a5 k, LeO (dyad_Cmp.f k a0 a1 a2 a3 a4 a5) (dyad_Cmp.f (k + 1) a0 a1 a2 a3 a4 a5) := by
 intro a0 a1 a2 a3 a4 a5 k
 unfold dyad_Cmp.f
 repeat' first
   | (with_reducible exact dyad_number_right.mono _ _ _ _)
   | (with_reducible exact raw_Cmp.mono _ _ _ _ _ _ _)
   | (with_reducible exact LeO.refl _)
   | (with_reducible exact LeO.none _)
   | (with_reducible refine LeO.ite ?_ ?_)
   | (with_reducible refine LeO.bind ?_ (fun _ => ?_))
   | exact dyad_number_right.mono _ _ _ _
   | exact raw_Cmp.mono _ _ _ _ _ _ _
   | exact LeO.none _
   | refine LeO.ite ?_ ?_
   | refine LeO.bind ?_ (fun _ => ?_)
set_option maxHeartbeats 8000000 in
set_option maxRecDepth 100000 in
theorem dyad_Cmp.calls (k : Nat) (a0_0 : Bool) (A0_1 : Option Addr) (c0_1 : Nat) (l0_1 : List Int) (a0_2 : Int) (a1_0 : Bool) (A1_1 : Option Addr) (c1_1 : Nat) (l1_1 : List Int) (a1_2 : Int) (r1 : Int) (r2 : Int) (w : World) (hr0_1 : Kd.C (Kd.int .u64) w A0_1 l0_1.length l0_1) (hc0_1 : l0_1.length ≤ c0_1) (hr1_1 : Kd.C (Kd.int .u64) w A1_1 l1_1.length l1_1) (hc1_1 : l1_1.length ≤ c1_1) (hT : Laid w) (h : dyad_Cmp.f k a0_0 l0_1 a0_2 a1_0 l1_1 a1_2 = some (r1, r2)) :
  Calls Tryd.prog 33 #[.agg #[.bool a0_0, .slice A0_1 l0_1.length c0_1, .int .i64 a0_2], .agg #[.bool a1_0, .slice A1_1 l1_1.length c1_1, .int .i64 a1_2]] w fun e w' => e = .returned (.tuple #[.int .i64 r1, .int .i64 r2]) ∧ Below w.heap.size w w' := by
 have hu25 := Tryd.underlying25
 have HR0_1 := zA hr0_1
 have HC0_1 := zA hc0_1
 clear hr0_1 hc0_1
 have HR1_1 := zA hr1_1
 have HC1_1 := zA hc1_1
 clear hr1_1 hc1_1
 have HB := zA (Below.refl w.heap.size w)
 have H : ((dyad_number_right.f k a0_0 l0_1 a0_2).bind fun t377 => (if t377 = true then ((dyad_number_right.f k a1_0 l1_1 a1_2).bind fun t378 => (if t378 = true then ((raw_Cmp.f k a0_0 l0_1 a0_2 a1_0 l1_1 a1_2).bind fun t379 => (some (t379, 0))) else (some (0, 2)))) else (some (0, 2)))) = some (r1, r2) := h
 clear h
 obtain ⟨t377, A3, H⟩ := zh H
 by_cases c4 : t377 = true
 ·subst c4
  rw [if_pos rfl] at H
  obtain ⟨t378, A5, H⟩ := zh H
  by_cases c6 : t378 = true
  ·subst c6
   rw [if_pos rfl] at H
   obtain ⟨t379, A7, H⟩ := zh H
   simp only [Option.some.injEq, Prod.mk.injEq] at H
   obtain ⟨rfl, rfl⟩ := H
   go_enter Tryd.func33, Tryd.ntmps33
   go_wp2_with (first | ((with_reducible refine zD 2 rfl ?_); refine zn (N := 2) (cs := #[.bool a0_0, .slice A0_1 l0_1.length c0_1, .int .i64 a0_2]) (t := 25) rfl rfl ?_; intro gb375 hg w8 hbox hb; have BK375 := zA (hbox); have GW375 := zw hg; replace HB := ze hb; clear hb hbox hg) | ((with_reducible refine zD 3 rfl ?_); refine zn (N := 3) (cs := #[.bool a1_0, .slice A1_1 l1_1.length c1_1, .int .i64 a1_2]) (t := 25) rfl rfl ?_; intro gb376 hg w9 hbox hb; have BK376 := zA (hbox); have GW376 := zx hg; replace HB := zf hb; have NB375_376 := zl BK375 hg; have NB376_375 := zg BK375 hg; replace BK375 := zb BK375 hb; clear hb hbox hg; have hnb10 := NB375_376.out; have hnc10 := NB376_375.out; obtain ⟨_, _, _, _, _, _⟩ := zc BK375) | ((with_reducible refine zG 72 rfl ?_); refine zL (some 7) rfl rfl Tryd.func72 #[.agg #[.bool a0_0, .slice A0_1 l0_1.length c0_1, .int .i64 a0_2]] rfl ?_; (with_reducible refine (dyad_number_right.calls k a0_0 _ _ l0_1 a0_2 true _ ?side1 ?side2 A3.out).mono ?_); (case side1 => exact zk (C_below HR0_1.out HB.out)); (case side2 => exact HC0_1.out); rintro e w12 ⟨rfl, hb⟩; refine ⟨_, rfl, ?_⟩; replace BK375 := zb BK375 hb; replace BK376 := zb BK376 hb; replace HB := zf hb; obtain ⟨hcz13_0, hcz13_1, hcz13_2, hfz13_0, hfz13_1, hfz13_2⟩ := zc BK376) | (go_at_call 72; (with_reducible refine (dyad_number_right.calls k a1_0 _ _ l1_1 a1_2 true _ ?side1 ?side2 A5.out).mono ?_); (case side1 => exact zk (C_below HR1_1.out HB.out)); (case side2 => exact HC1_1.out); rintro e w14 ⟨rfl, hb⟩; replace BK375 := zb BK375 hb; replace BK376 := zb BK376 hb; replace HB := zf hb; obtain ⟨hcz15_0, hcz15_1, hcz15_2, hfz15_0, hfz15_1, hfz15_2⟩ := zc BK375; obtain ⟨hcz16_0, hcz16_1, hcz16_2, hfz16_0, hfz16_1, hfz16_2⟩ := zc BK376) | ((with_reducible refine zG 81 rfl ?_); refine zL (some 16) rfl rfl Tryd.func81 #[.agg #[.bool a0_0, .slice A0_1 l0_1.length c0_1, .int .i64 a0_2], .agg #[.bool a1_0, .slice A1_1 l1_1.length c1_1, .int .i64 a1_2]] rfl ?_; (with_reducible refine (raw_Cmp.calls k a0_0 _ _ l0_1 a0_2 a1_0 _ _ l1_1 a1_2 t379 _ ?side1 ?side2 ?side3 ?side4 (laid_below hT zs) A7.out).mono ?_); (case side1 => exact zk (C_below HR0_1.out HB.out)); (case side2 => exact HC0_1.out); (case side3 => exact zk (C_below HR1_1.out HB.out)); (case side4 => exact HC1_1.out); rintro e w17 ⟨rfl, hb⟩; refine ⟨_, rfl, ?_⟩; replace BK375 := zb BK375 hb; replace BK376 := zb BK376 hb; replace HB := zf hb))
   go_ret2
   exact ⟨er, zs⟩
  replace c6 := Bool.eq_false_iff.mpr c6
  subst c6
  rw [if_neg (show ¬ (false = true) by decide)] at H
  simp only [Option.some.injEq, Prod.mk.injEq] at H
  obtain ⟨rfl, rfl⟩ := H
  go_enter Tryd.func33, Tryd.ntmps33
  go_wp2_with (first | ((with_reducible refine zD 2 rfl ?_); refine zn (N := 2) (cs := #[.bool a0_0, .slice A0_1 l0_1.length c0_1, .int .i64 a0_2]) (t := 25) rfl rfl ?_; intro gb375 hg w18 hbox hb; have BK375 := zA (hbox); have GW375 := zw hg; replace HB := ze hb; clear hb hbox hg) | ((with_reducible refine zD 3 rfl ?_); refine zn (N := 3) (cs := #[.bool a1_0, .slice A1_1 l1_1.length c1_1, .int .i64 a1_2]) (t := 25) rfl rfl ?_; intro gb376 hg w19 hbox hb; have BK376 := zA (hbox); have GW376 := zx hg; replace HB := zf hb; have NB375_376 := zl BK375 hg; have NB376_375 := zg BK375 hg; replace BK375 := zb BK375 hb; clear hb hbox hg; have hnb20 := NB375_376.out; have hnc20 := NB376_375.out; obtain ⟨_, _, _, _, _, _⟩ := zc BK375) | ((with_reducible refine zG 72 rfl ?_); refine zL (some 7) rfl rfl Tryd.func72 #[.agg #[.bool a0_0, .slice A0_1 l0_1.length c0_1, .int .i64 a0_2]] rfl ?_; (with_reducible refine (dyad_number_right.calls k a0_0 _ _ l0_1 a0_2 true _ ?side1 ?side2 A3.out).mono ?_); (case side1 => exact zk (C_below HR0_1.out HB.out)); (case side2 => exact HC0_1.out); rintro e w22 ⟨rfl, hb⟩; refine ⟨_, rfl, ?_⟩; replace BK375 := zb BK375 hb; replace BK376 := zb BK376 hb; replace HB := zf hb; obtain ⟨hcz23_0, hcz23_1, hcz23_2, hfz23_0, hfz23_1, hfz23_2⟩ := zc BK376) | (go_at_call 72; (with_reducible refine (dyad_number_right.calls k a1_0 _ _ l1_1 a1_2 false _ ?side1 ?side2 A5.out).mono ?_); (case side1 => exact zk (C_below HR1_1.out HB.out)); (case side2 => exact HC1_1.out); rintro e w24 ⟨rfl, hb⟩; replace BK375 := zb BK375 hb; replace BK376 := zb BK376 hb; replace HB := zf hb))
  go_ret2
  exact ⟨er, zs⟩
 replace c4 := Bool.eq_false_iff.mpr c4
 subst c4
 rw [if_neg (show ¬ (false = true) by decide)] at H
 simp only [Option.some.injEq, Prod.mk.injEq] at H
 obtain ⟨rfl, rfl⟩ := H
 go_enter Tryd.func33, Tryd.ntmps33
 go_wp2_with (first | ((with_reducible refine zD 2 rfl ?_); refine zn (N := 2) (cs := #[.bool a0_0, .slice A0_1 l0_1.length c0_1, .int .i64 a0_2]) (t := 25) rfl rfl ?_; intro gb375 hg w25 hbox hb; have BK375 := zA (hbox); have GW375 := zw hg; replace HB := ze hb; clear hb hbox hg) | ((with_reducible refine zD 3 rfl ?_); refine zn (N := 3) (cs := #[.bool a1_0, .slice A1_1 l1_1.length c1_1, .int .i64 a1_2]) (t := 25) rfl rfl ?_; intro gb376 hg w26 hbox hb; have BK376 := zA (hbox); have GW376 := zx hg; replace HB := zf hb; have NB375_376 := zl BK375 hg; have NB376_375 := zg BK375 hg; replace BK375 := zb BK375 hb; clear hb hbox hg; have hnb27 := NB375_376.out; have hnc27 := NB376_375.out; obtain ⟨_, _, _, _, _, _⟩ := zc BK375) | ((with_reducible refine zG 72 rfl ?_); refine zL (some 7) rfl rfl Tryd.func72 #[.agg #[.bool a0_0, .slice A0_1 l0_1.length c0_1, .int .i64 a0_2]] rfl ?_; (with_reducible refine (dyad_number_right.calls k a0_0 _ _ l0_1 a0_2 false _ ?side1 ?side2 A3.out).mono ?_); (case side1 => exact zk (C_below HR0_1.out HB.out)); (case side2 => exact HC0_1.out); rintro e w29 ⟨rfl, hb⟩; refine ⟨_, rfl, ?_⟩; replace BK375 := zb BK375 hb; replace BK376 := zb BK376 hb; replace HB := zf hb))
 go_ret2
 exact ⟨er, zs⟩
end Go.Proofs.YtemfckibdojbbaaDoor.PAll
