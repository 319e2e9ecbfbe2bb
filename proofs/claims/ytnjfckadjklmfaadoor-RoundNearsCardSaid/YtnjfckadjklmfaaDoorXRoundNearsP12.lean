/- Printed functions, merged by a program of this session. -/
import Derived.Test.YtnjfckadjklmfaaDoorXRoundNearsP0
import Derived.Test.YtnjfckadjklmfaaDoorXRoundNearsP7
import Derived.Test.YtnjfckadjklmfaaDoorXRoundNearsP11
import Derived.Test.YtnjfckadjklmfaaDoorXRoundNearsP1
import Derived.Test.YtnjfckadjklmfaaDoorXRoundNearsP4
import Derived.Test.YtnjfckadjklmfaaDoorXRoundNearsP9
import Derived.Test.YtnjfckadjklmfaaDoorXRoundNearsSh
namespace Go.Proofs.YtnjfckadjklmfaaDoor.PAll
open Go.RowKit Go.Proofs.YtnjfckadjklmfaaDoorW.PrintWords Go.Proofs.YtnjfckadjklmfaaDoorW.PrintLast Go.Proofs.YtnjfckadjklmfaaDoorW.PrintMore Go.Proofs.YtnjfckadjklmfaaDoorW.PrintWords.Kd
attribute [local go_sem] max2_int min2_int max_two min_two max_three min_three max_four min_four   -- for this text's walks alone
set_option linter.unusedVariables false
set_option linter.unusedSimpArgs false
attribute [local go_sem] fld75_0 fld75_1 fld75_2 ext118 ext119
def ulpref05_Near.f (k : Nat) (a0_0 : Bool) (l0_1 : List Int) (a0_2 : Int) : Option (Int × Int × Int) := (ulpref04_Right.f k a0_0 l0_1 a0_2).bind fun t399 => (if t399 = true then ((ulpref05_near.f k a0_0 l0_1 a0_2).bind fun bt400 => (some (bt400.1, bt400.2, 0))) else (some (0, 0, 2)))
set_option maxHeartbeats 8000000 in
set_option maxRecDepth 100000 in
theorem ulpref05_Near.calls (k : Nat) (a0_0 : Bool) (A0_1 : Option Addr) (c0_1 : Nat) (l0_1 : List Int) (a0_2 : Int) (r1 : Int) (r2 : Int) (r3 : Int) (w : World) (hr0_1 : Kd.C (Kd.int .u64) w A0_1 l0_1.length l0_1) (hc0_1 : l0_1.length ≤ c0_1) (h : ulpref05_Near.f k a0_0 l0_1 a0_2 = some (r1, r2, r3)) :
  Calls Tryd.prog 9 #[.agg #[.bool a0_0, .slice A0_1 l0_1.length c0_1, .int .i64 a0_2]] w fun e w' => e = .returned (.tuple #[.agg #[.int .u64 r1, .int .u8 r2], .int .i64 r3]) ∧ Below w.heap.size w w' := by
 have hu25 := Tryd.underlying25
 have hu29 := Tryd.underlying29
 have HR0_1 := zA hr0_1
 have HC0_1 := zA hc0_1
 clear hr0_1 hc0_1
 have HB := zA (Below.refl w.heap.size w)
 have H : ((ulpref04_Right.f k a0_0 l0_1 a0_2).bind fun t399 => (if t399 = true then ((ulpref05_near.f k a0_0 l0_1 a0_2).bind fun bt400 => (some (bt400.1, bt400.2, 0))) else (some (0, 0, 2)))) = some (r1, r2, r3) := h
 clear h
 obtain ⟨t399, A2, H⟩ := zh H
 by_cases c3 : t399 = true
 ·subst c3
  rw [if_pos rfl] at H
  obtain ⟨⟨t400, t401⟩, A4, H⟩ := zh H
  (try dsimp only at H)
  simp only [Option.some.injEq, Prod.mk.injEq] at H
  obtain ⟨rfl, rfl, rfl⟩ := H
  go_enter Tryd.func9, Tryd.ntmps9
  go_wp2_with (first | ((with_reducible refine zD 1 rfl ?_); refine zn (N := 1) (cs := #[.bool a0_0, .slice A0_1 l0_1.length c0_1, .int .i64 a0_2]) (t := 25) rfl rfl ?_; intro gb397 hg w5 hbox hb; have BK397 := zA (hbox); have GW397 := zw hg; replace HB := ze hb; clear hb hbox hg) | ((with_reducible refine zD 2 rfl ?_); refine zn (N := 2) (cs := #[.int .u64 0, .int .u8 0]) (t := 29) rfl rfl ?_; intro gb398 hg w6 hbox hb; have BK398 := zA (hbox); have GW398 := zx hg; replace HB := zf hb; have NB397_398 := zl BK397 hg; have NB398_397 := zg BK397 hg; replace BK397 := zb BK397 hb; clear hb hbox hg; have hnb7 := NB397_398.out; have hnc7 := NB398_397.out; obtain ⟨hcz8_0, hcz8_1, hcz8_2, hfz8_0, hfz8_1, hfz8_2⟩ := zc BK397) | ((with_reducible refine zG 24 rfl ?_); refine zL (some 5) rfl rfl Tryd.func24 #[.agg #[.bool a0_0, .slice A0_1 l0_1.length c0_1, .int .i64 a0_2]] rfl ?_; (with_reducible refine (ulpref04_Right.calls k a0_0 _ _ l0_1 a0_2 true _ ?side1 ?side2 A2.out).mono ?_); (case side1 => exact zk (C_below HR0_1.out HB.out)); (case side2 => exact HC0_1.out); rintro e w9 ⟨rfl, hb⟩; refine ⟨_, rfl, ?_⟩; replace BK397 := zb BK397 hb; replace BK398 := zb BK398 hb; replace HB := zf hb; obtain ⟨hcz10_0, hcz10_1, hcz10_2, hfz10_0, hfz10_1, hfz10_2⟩ := zc BK397) | ((with_reducible refine zG 34 rfl ?_); refine zL (some 9) rfl rfl Tryd.func34 #[.agg #[.bool a0_0, .slice A0_1 l0_1.length c0_1, .int .i64 a0_2]] rfl ?_; (with_reducible refine (ulpref05_near.calls k a0_0 _ _ l0_1 a0_2 t400 t401 _ ?side1 ?side2 A4.out).mono ?_); (case side1 => exact zk (C_below HR0_1.out HB.out)); (case side2 => exact HC0_1.out); rintro e w11 ⟨rfl, hb⟩; refine ⟨_, rfl, ?_⟩; replace BK397 := zb BK397 hb; replace BK398 := zb BK398 hb; replace HB := zf hb; have hcz12_0 : w11.cell? ⟨gb398, 0, none⟩ = some (.int .u64 0) := (blk_cell BK398.out 0).trans rfl; have hcz12_1 : w11.cell? ⟨gb398, 1, none⟩ = some (.int .u8 0) := (blk_cell BK398.out 1).trans rfl; have hfz12_0 := blk_frozen BK398.out 0; have hfz12_1 := blk_frozen BK398.out 1))
  refine bodyPost_ret (results_ct rfl _ _ gb398 29 #[.int .u64 t400, .int .u8 t401] (0, 0) _ rfl (by (with_reducible repeat (first | refine blk_drewN ?_ _ | refine blk_drew ?_ | refine blk_alloc ?_ _)); refine blk_put (cs := #[.int .u64 t400, .int .u8 0]) ?_ 1 _ rfl; refine blk_put (cs := #[.int .u64 0, .int .u8 0]) ?_ 0 _ rfl; exact BK398.out) Tryd.underlying29 rfl (by kernel_rfl)) rfl ?_
  exact ⟨er, zs⟩
 replace c3 := Bool.eq_false_iff.mpr c3
 subst c3
 rw [if_neg (show ¬ (false = true) by decide)] at H
 simp only [Option.some.injEq, Prod.mk.injEq] at H
 obtain ⟨rfl, rfl, rfl⟩ := H
 go_enter Tryd.func9, Tryd.ntmps9
 go_wp2_with (first | ((with_reducible refine zD 1 rfl ?_); refine zn (N := 1) (cs := #[.bool a0_0, .slice A0_1 l0_1.length c0_1, .int .i64 a0_2]) (t := 25) rfl rfl ?_; intro gb397 hg w13 hbox hb; have BK397 := zA (hbox); have GW397 := zw hg; replace HB := ze hb; clear hb hbox hg) | ((with_reducible refine zD 2 rfl ?_); refine zn (N := 2) (cs := #[.int .u64 0, .int .u8 0]) (t := 29) rfl rfl ?_; intro gb398 hg w14 hbox hb; have BK398 := zA (hbox); have GW398 := zx hg; replace HB := zf hb; have NB397_398 := zl BK397 hg; have NB398_397 := zg BK397 hg; replace BK397 := zb BK397 hb; clear hb hbox hg; have hnb15 := NB397_398.out; have hnc15 := NB398_397.out; obtain ⟨_, _, _, _, _, _⟩ := zc BK397) | ((with_reducible refine zG 24 rfl ?_); refine zL (some 5) rfl rfl Tryd.func24 #[.agg #[.bool a0_0, .slice A0_1 l0_1.length c0_1, .int .i64 a0_2]] rfl ?_; (with_reducible refine (ulpref04_Right.calls k a0_0 _ _ l0_1 a0_2 false _ ?side1 ?side2 A2.out).mono ?_); (case side1 => exact zk (C_below HR0_1.out HB.out)); (case side2 => exact HC0_1.out); rintro e w17 ⟨rfl, hb⟩; refine ⟨_, rfl, ?_⟩; replace BK397 := zb BK397 hb; replace BK398 := zb BK398 hb; replace HB := zf hb; have hcz18_0 : w17.cell? ⟨gb398, 0, none⟩ = some (.int .u64 0) := (blk_cell BK398.out 0).trans rfl; have hcz18_1 : w17.cell? ⟨gb398, 1, none⟩ = some (.int .u8 0) := (blk_cell BK398.out 1).trans rfl; have hfz18_0 := blk_frozen BK398.out 0; have hfz18_1 := blk_frozen BK398.out 1))
 refine bodyPost_ret (results_ct rfl _ _ gb398 29 #[.int .u64 0, .int .u8 0] (0, 0) _ rfl (by (with_reducible repeat (first | refine blk_drewN ?_ _ | refine blk_drew ?_ | refine blk_alloc ?_ _)); refine blk_put (cs := #[.int .u64 0, .int .u8 0]) ?_ 1 _ rfl; refine blk_put (cs := #[.int .u64 0, .int .u8 0]) ?_ 0 _ rfl; exact BK398.out) Tryd.underlying29 rfl (by kernel_rfl)) rfl ?_
 exact ⟨er, zs⟩
def round_Tiny.f (k : Nat) (a0_0 : Bool) (l0_1 : List Int) (a0_2 : Int) : Option (Bool × Int) := (dyad_Check.f k a0_0 l0_1 a0_2).bind fun t403 => (if t403 = 0 then ((round_of.f k a0_0 l0_1 a0_2).bind fun bt404 => ((round_amount_tiny.f k bt404.1 bt404.2).bind fun t408 => (some (t408, 0)))) else (some (false, t403)))
set_option maxHeartbeats 8000000 in
set_option maxRecDepth 100000 in
theorem round_Tiny.calls (k : Nat) (a0_0 : Bool) (A0_1 : Option Addr) (c0_1 : Nat) (l0_1 : List Int) (a0_2 : Int) (r1 : Bool) (r2 : Int) (w : World) (hr0_1 : Kd.C (Kd.int .u64) w A0_1 l0_1.length l0_1) (hc0_1 : l0_1.length ≤ c0_1) (hT : Laid w) (h : round_Tiny.f k a0_0 l0_1 a0_2 = some (r1, r2)) :
  Calls Tryd.prog 10 #[.agg #[.bool a0_0, .slice A0_1 l0_1.length c0_1, .int .i64 a0_2]] w fun e w' => e = .returned (.tuple #[.bool r1, .int .i64 r2]) ∧ Below w.heap.size w w' := by
 have hu25 := Tryd.underlying25
 have HR0_1 := zA hr0_1
 have HC0_1 := zA hc0_1
 clear hr0_1 hc0_1
 have HB := zA (Below.refl w.heap.size w)
 have H : ((dyad_Check.f k a0_0 l0_1 a0_2).bind fun t403 => (if t403 = 0 then ((round_of.f k a0_0 l0_1 a0_2).bind fun bt404 => ((round_amount_tiny.f k bt404.1 bt404.2).bind fun t408 => (some (t408, 0)))) else (some (false, t403)))) = some (r1, r2) := h
 clear h
 obtain ⟨t403, A2, H⟩ := zh H
 by_cases c3 : t403 = 0
 ·rw [if_pos c3] at H
  have c3b0 := beq_iff_eq.mpr c3
  have c3b1 := bne_eq_false_iff_eq.mpr c3
  clear c3
  obtain ⟨⟨t404, t407⟩, A4, H⟩ := zh H
  (try dsimp only at H)
  obtain ⟨t408, A5, H⟩ := zh H
  simp only [Option.some.injEq, Prod.mk.injEq] at H
  obtain ⟨rfl, rfl⟩ := H
  go_enter Tryd.func10, Tryd.ntmps10
  go_wp2_with (first | ((with_reducible refine zD 1 rfl ?_); refine zn (N := 1) (cs := #[.bool a0_0, .slice A0_1 l0_1.length c0_1, .int .i64 a0_2]) (t := 25) rfl rfl ?_; intro gb402 hg w6 hbox hb; have BK402 := zA (hbox); have GW402 := zw hg; replace HB := ze hb; clear hb hbox hg; obtain ⟨_, _, _, _, _, _⟩ := zc BK402) | ((with_reducible refine zG 32 rfl ?_); refine zL (some 6) rfl rfl Tryd.func32 #[.agg #[.bool a0_0, .slice A0_1 l0_1.length c0_1, .int .i64 a0_2]] rfl ?_; (with_reducible refine (dyad_Check.calls k a0_0 _ _ l0_1 a0_2 t403 _ ?side1 ?side2 A2.out).mono ?_); (case side1 => exact zk (C_below HR0_1.out HB.out)); (case side2 => exact HC0_1.out); rintro e w8 ⟨rfl, hb⟩; refine ⟨_, rfl, ?_⟩; replace BK402 := zb BK402 hb; replace HB := zf hb; obtain ⟨hcz9_0, hcz9_1, hcz9_2, hfz9_0, hfz9_1, hfz9_2⟩ := zc BK402) | ((with_reducible refine zG 35 rfl ?_); refine zL (some 11) rfl rfl Tryd.func35 #[.agg #[.bool a0_0, .slice A0_1 l0_1.length c0_1, .int .i64 a0_2]] rfl ?_; (with_reducible refine (round_of.calls k a0_0 _ _ l0_1 a0_2 t404 t407 _ ?side1 ?side2 A4.out).mono ?_); (case side1 => exact zk (C_below HR0_1.out HB.out)); (case side2 => exact HC0_1.out); rintro e w10 ⟨v405, rfl, ho0, hb⟩; refine ⟨_, rfl, ?_⟩; have HO406 := zA (R_lower ho0 (below_size zs)); replace BK402 := zb BK402 hb; replace HB := zf hb; (try clear ho0); obtain ⟨Ao11, co11, eo11⟩ := R_slice HO406.out; subst eo11) | ((with_reducible refine zG 36 rfl ?_); refine zL (some 12) rfl rfl Tryd.func36 #[.agg #[.slice Ao11 t404.length co11, .int .i64 t407]] rfl ?_; (with_reducible refine (round_amount_tiny.calls k _ _ t404 t407 t408 _ ?side1 ?side2 (laid_below hT zs) A5.out).mono ?_); (case side1 => exact zk (R_reads' HO406.out).2.2); (case side2 => exact (R_reads' HO406.out).2.1); rintro e w12 ⟨rfl, hb⟩; refine ⟨_, rfl, ?_⟩; replace HO406 := zA (R_below (ru HO406.out) hb); replace BK402 := zb BK402 hb; replace HB := zf hb))
  go_ret2
  exact ⟨er, zs⟩
 rw [if_neg c3] at H
 have c3b0 := beq_eq_false_iff_ne.mpr c3
 have c3b1 := bne_iff_ne.mpr c3
 simp only [Option.some.injEq, Prod.mk.injEq] at H
 obtain ⟨rfl, rfl⟩ := H
 go_enter Tryd.func10, Tryd.ntmps10
 go_wp2_with (first | ((with_reducible refine zD 1 rfl ?_); refine zn (N := 1) (cs := #[.bool a0_0, .slice A0_1 l0_1.length c0_1, .int .i64 a0_2]) (t := 25) rfl rfl ?_; intro gb402 hg w13 hbox hb; have BK402 := zA (hbox); have GW402 := zw hg; replace HB := ze hb; clear hb hbox hg; obtain ⟨_, _, _, _, _, _⟩ := zc BK402) | ((with_reducible refine zG 32 rfl ?_); refine zL (some 6) rfl rfl Tryd.func32 #[.agg #[.bool a0_0, .slice A0_1 l0_1.length c0_1, .int .i64 a0_2]] rfl ?_; (with_reducible refine (dyad_Check.calls k a0_0 _ _ l0_1 a0_2 t403 _ ?side1 ?side2 A2.out).mono ?_); (case side1 => exact zk (C_below HR0_1.out HB.out)); (case side2 => exact HC0_1.out); rintro e w15 ⟨rfl, hb⟩; refine ⟨_, rfl, ?_⟩; replace BK402 := zb BK402 hb; replace HB := zf hb))
 go_ret2
 exact ⟨er, zs⟩
def ulpref05_Tiny.f (k : Nat) (a0_0 : Bool) (l0_1 : List Int) (a0_2 : Int) : Option (Bool × Int) := (ulpref04_Right.f k a0_0 l0_1 a0_2).bind fun t410 => (if t410 = true then ((ulpref05_tiny.f k a0_0 l0_1 a0_2).bind fun t411 => (some (t411, 0))) else (some (false, 2)))
set_option maxHeartbeats 8000000 in
set_option maxRecDepth 100000 in
theorem ulpref05_Tiny.calls (k : Nat) (a0_0 : Bool) (A0_1 : Option Addr) (c0_1 : Nat) (l0_1 : List Int) (a0_2 : Int) (r1 : Bool) (r2 : Int) (w : World) (hr0_1 : Kd.C (Kd.int .u64) w A0_1 l0_1.length l0_1) (hc0_1 : l0_1.length ≤ c0_1) (h : ulpref05_Tiny.f k a0_0 l0_1 a0_2 = some (r1, r2)) :
  Calls Tryd.prog 11 #[.agg #[.bool a0_0, .slice A0_1 l0_1.length c0_1, .int .i64 a0_2]] w fun e w' => e = .returned (.tuple #[.bool r1, .int .i64 r2]) ∧ Below w.heap.size w w' := by
 have hu25 := Tryd.underlying25
 have HR0_1 := zA hr0_1
 have HC0_1 := zA hc0_1
 clear hr0_1 hc0_1
 have HB := zA (Below.refl w.heap.size w)
 have H : ((ulpref04_Right.f k a0_0 l0_1 a0_2).bind fun t410 => (if t410 = true then ((ulpref05_tiny.f k a0_0 l0_1 a0_2).bind fun t411 => (some (t411, 0))) else (some (false, 2)))) = some (r1, r2) := h
 clear h
 obtain ⟨t410, A2, H⟩ := zh H
 by_cases c3 : t410 = true
 ·subst c3
  rw [if_pos rfl] at H
  obtain ⟨t411, A4, H⟩ := zh H
  simp only [Option.some.injEq, Prod.mk.injEq] at H
  obtain ⟨rfl, rfl⟩ := H
  go_enter Tryd.func11, Tryd.ntmps11
  go_wp2_with (first | ((with_reducible refine zD 1 rfl ?_); refine zn (N := 1) (cs := #[.bool a0_0, .slice A0_1 l0_1.length c0_1, .int .i64 a0_2]) (t := 25) rfl rfl ?_; intro gb409 hg w5 hbox hb; have BK409 := zA (hbox); have GW409 := zw hg; replace HB := ze hb; clear hb hbox hg; obtain ⟨_, _, _, _, _, _⟩ := zc BK409) | ((with_reducible refine zG 24 rfl ?_); refine zL (some 5) rfl rfl Tryd.func24 #[.agg #[.bool a0_0, .slice A0_1 l0_1.length c0_1, .int .i64 a0_2]] rfl ?_; (with_reducible refine (ulpref04_Right.calls k a0_0 _ _ l0_1 a0_2 true _ ?side1 ?side2 A2.out).mono ?_); (case side1 => exact zk (C_below HR0_1.out HB.out)); (case side2 => exact HC0_1.out); rintro e w7 ⟨rfl, hb⟩; refine ⟨_, rfl, ?_⟩; replace BK409 := zb BK409 hb; replace HB := zf hb; obtain ⟨hcz8_0, hcz8_1, hcz8_2, hfz8_0, hfz8_1, hfz8_2⟩ := zc BK409) | ((with_reducible refine zG 37 rfl ?_); refine zL (some 8) rfl rfl Tryd.func37 #[.agg #[.bool a0_0, .slice A0_1 l0_1.length c0_1, .int .i64 a0_2]] rfl ?_; (with_reducible refine (ulpref05_tiny.calls k a0_0 _ _ l0_1 a0_2 t411 _ ?side1 ?side2 A4.out).mono ?_); (case side1 => exact zk (C_below HR0_1.out HB.out)); (case side2 => exact HC0_1.out); rintro e w9 ⟨rfl, hb⟩; refine ⟨_, rfl, ?_⟩; replace BK409 := zb BK409 hb; replace HB := zf hb))
  go_ret2
  exact ⟨er, zs⟩
 replace c3 := Bool.eq_false_iff.mpr c3
 subst c3
 rw [if_neg (show ¬ (false = true) by decide)] at H
 simp only [Option.some.injEq, Prod.mk.injEq] at H
 obtain ⟨rfl, rfl⟩ := H
 go_enter Tryd.func11, Tryd.ntmps11
 go_wp2_with (first | ((with_reducible refine zD 1 rfl ?_); refine zn (N := 1) (cs := #[.bool a0_0, .slice A0_1 l0_1.length c0_1, .int .i64 a0_2]) (t := 25) rfl rfl ?_; intro gb409 hg w10 hbox hb; have BK409 := zA (hbox); have GW409 := zw hg; replace HB := ze hb; clear hb hbox hg; obtain ⟨_, _, _, _, _, _⟩ := zc BK409) | ((with_reducible refine zG 24 rfl ?_); refine zL (some 5) rfl rfl Tryd.func24 #[.agg #[.bool a0_0, .slice A0_1 l0_1.length c0_1, .int .i64 a0_2]] rfl ?_; (with_reducible refine (ulpref04_Right.calls k a0_0 _ _ l0_1 a0_2 false _ ?side1 ?side2 A2.out).mono ?_); (case side1 => exact zk (C_below HR0_1.out HB.out)); (case side2 => exact HC0_1.out); rintro e w12 ⟨rfl, hb⟩; refine ⟨_, rfl, ?_⟩; replace BK409 := zb BK409 hb; replace HB := zf hb))
 go_ret2
 exact ⟨er, zs⟩
def limbs_Low.l0 : Nat → List Int → Int → Int → Option (Int)
 | 0, _, _, _ => none
 | k + 1, x5, x6, x7 => if x7 < x6 then (if 0 ≤ x7 then (if x7 < (x5.length : Int) then (if (rd x5 x7) = 0 then (limbs_Low.l0 k x5 x6 (wrap64 (x7 + 1))) else ((bits_TrailingZeros64.f (rd x5 x7)).bind fun t413 => (some (wrap64 ((wrap64 (64 * x7)) + t413))))) else (none)) else (none)) else (some 0)
def limbs_Low.f (k : Nat) (l0 : List Int) : Option (Int) := limbs_Low.l0 k l0 (l0.length : Int) 0
theorem limbs_Low.mono_l : ∀ k, (∀ y0 y1 y2, LeO (limbs_Low.l0 k y0 y1 y2) (limbs_Low.l0 (k + 1) y0 y1 y2))
 | 0 => fun _ _ _ r h => by simp [limbs_Low.l0] at h
 | k + 1 => by
  have ih0 := limbs_Low.mono_l k
  intro y0 y1 y2
  unfold limbs_Low.l0
  repeat' first
  | (with_reducible exact ih0 _ _ _)
  | (with_reducible exact LeO.refl _)
  | (with_reducible exact LeO.none _)
  | (with_reducible refine LeO.ite ?_ ?_)
  | (with_reducible refine LeO.bind ?_ (fun _ => ?_))
  | exact ih0 _ _ _
  | exact LeO.none _
  | refine LeO.ite ?_ ?_
  | refine LeO.bind ?_ (fun _ => ?_)
theorem limbs_Low.mono : ∀ a0 k, LeO (limbs_Low.f k a0) (limbs_Low.f (k + 1) a0) := by
 intro a0 k
 have ih0 := limbs_Low.mono_l k
 unfold limbs_Low.f
 repeat' first
   | (with_reducible exact ih0 _ _ _)
   | (with_reducible exact LeO.refl _)
   | (with_reducible exact LeO.none _)
   | (with_reducible refine LeO.ite ?_ ?_)
   | (with_reducible refine LeO.bind ?_ (fun _ => ?_))
   | exact ih0 _ _ _
   | exact LeO.none _
   | refine LeO.ite ?_ ?_
   | refine LeO.bind ?_ (fun _ => ?_)
set_option maxHeartbeats 8000000 in
set_option maxRecDepth 100000 in
theorem limbs_Low.calls (k : Nat) (A0 : Option Addr) (c0 : Nat) (l0 : List Int) (r : Int) (w : World) (hr0 : Kd.C (Kd.int .u64) w A0 l0.length l0) (hc0 : l0.length ≤ c0) (hT : Laid w) (h : limbs_Low.f k l0 = some r) :
  Calls Tryd.prog 85 #[.slice A0 l0.length c0] w fun e w' => e = .returned (.int .i64 r) ∧ Drawn0 w w' := by
 have HR0 := zA hr0
 have HC0 := zA hc0
 clear hr0 hc0
 have H : (limbs_Low.l0 k l0 (l0.length : Int) 0) = some r := h
 clear h
 have H' := zA H
 clear H
 go_enter Tryd.func85, Tryd.ntmps85
 go_wp2
 go_loopg [7] k (fun kq v7 w' => ∃ (x7_1 : Int), v7 = .int .i64 x7_1 ∧ Aside0 (limbs_Low.l0 kq l0 (l0.length : Int) x7_1 = some r) ∧ Aside0 (kq ≤ k) ∧ Drawn0 w w')
 case atStart => exact ⟨(0), zi, H', ⟨Nat.le_refl _⟩, by repeat (first | exact Drawn0.refl _ | apply Drawn0.step)⟩
 case round =>
  clear H'
  obtain ⟨x7_1, rfl, HA, HK1, ⟨m1, rfl⟩⟩ := hrel
  cases gk with
  | zero => exact absurd HA.out (by simp [limbs_Low.l0])
  | succ k1 =>
   have H := HA.out
   clear HA
   simp only [limbs_Low.l0] at H
   by_cases c2 : x7_1 < (l0.length : Int)
   ·rw [if_pos c2] at H
    have c2b0 := decide_eq_true c2
    clear c2
    replace H := dn H
    obtain ⟨c3, H⟩ := H
    have c3b0 := decide_eq_true c3
    clear c3
    replace H := dn H
    obtain ⟨c4, H⟩ := H
    have c4b0 := decide_eq_true c4
    clear c4
    by_cases c5 : (rd l0 x7_1) = 0
    ·rw [if_pos c5] at H
     have c5b0 := beq_iff_eq.mpr c5
     have c5b1 := bne_eq_false_iff_eq.mpr c5
     clear c5
     have H' := zA H
     clear H
     have p412 : 0 ≤ (x7_1 : Int) := od
     have q412 : x7_1 < (l0.length : Int) := od
     obtain ⟨ad412, e412, hx412_0⟩ := Kd.at_int HR0.out x7_1 p412 q412
     cases e412
     replace p412 := eq_true p412
     replace q412 := eq_true q412
     go_wp2
     go_roundg k1
     case measure => have := HK1.out; omega
     case rel => exact ⟨(wrap64 (x7_1 + 1)), zi, H', ⟨by have := HK1.out; omega⟩, by repeat (first | exact Drawn0.refl _ | apply Drawn0.step)⟩
    rw [if_neg c5] at H
    have c5b0 := beq_eq_false_iff_ne.mpr c5
    have c5b1 := bne_iff_ne.mpr c5
    obtain ⟨t413, A6, H⟩ := zh H
    obtain rfl := Option.some.inj H
    have p412 : 0 ≤ (x7_1 : Int) := od
    have q412 : x7_1 < (l0.length : Int) := od
    obtain ⟨ad412, e412, hx412_0⟩ := Kd.at_int HR0.out x7_1 p412 q412
    cases e412
    replace p412 := eq_true p412
    replace q412 := eq_true q412
    go_wp2_with (first | ((with_reducible refine zG 116 rfl ?_); refine zL (some 17) rfl rfl Tryd.func116 #[.int .u64 (rd l0 x7_1)] rfl ?_; (with_reducible refine (bits_TrailingZeros64.calls (rd l0 x7_1) t413 _ (by repeat (first | (with_reducible first | exact hT | apply laid_drewN | apply laid_drew) | exact hT)) A6.out).mono ?_); rintro e w' ⟨rfl, ⟨nd, rfl⟩⟩; refine ⟨_, rfl, ?_⟩))
    go_ret
    exact ⟨by first | rfl | (simp; done) | (simp [*]; done), by repeat (first | exact Drawn0.refl _ | apply Drawn0.step)⟩
   rw [if_neg c2] at H
   have c2b0 := decide_eq_false c2
   clear c2
   obtain rfl := Option.some.inj H
   go_wp2
   go_ret
   exact ⟨by first | rfl | (simp; done) | (simp [*]; done), by repeat (first | exact Drawn0.refl _ | apply Drawn0.step)⟩
end Go.Proofs.YtnjfckadjklmfaaDoor.PAll
