/- Printed functions, merged by a program of this session. -/
import Derived.Test.YtnjfckadjklmfaaDoorXRoundNearsP0
import Derived.Test.YtnjfckadjklmfaaDoorXRoundNearsP7
import Derived.Test.YtnjfckadjklmfaaDoorXRoundNearsP8
import Derived.Test.YtnjfckadjklmfaaDoorXRoundNearsP9
import Derived.Test.YtnjfckadjklmfaaDoorXRoundNearsP10
import Derived.Test.YtnjfckadjklmfaaDoorXRoundNearsSh
namespace Go.Proofs.YtnjfckadjklmfaaDoor.PAll
open Go.RowKit Go.Proofs.YtnjfckadjklmfaaDoorW.PrintWords Go.Proofs.YtnjfckadjklmfaaDoorW.PrintLast Go.Proofs.YtnjfckadjklmfaaDoorW.PrintMore Go.Proofs.YtnjfckadjklmfaaDoorW.PrintWords.Kd
attribute [local go_sem] max2_int min2_int max_two min_two max_three min_three max_four min_four   -- for this text's walks alone
set_option linter.unusedVariables false
set_option linter.unusedSimpArgs false
attribute [local go_sem] fld75_0 fld75_1 fld75_2 ext118 ext119
mutual
def ulpref05_near.j0 : Nat → Bool → Bool → List Int → Int → Int → Int → Option (Int × Int)
 | 0, _, _, _, _, _, _ => none
 | k + 1, x5, x377000, x377001, x377002, x379000, x379001 => if x5 = true then ((ulpref05_tiny.f k x377000 x377001 x377002).bind fun t394 => (if t394 = true then (ulpref05_near.j1 k x377000 x377001 x377002 x379000 (Go.bits .or .u8 16 8)) else (ulpref05_near.j1 k x377000 x377001 x377002 x379000 16))) else (ulpref05_near.j1 k x377000 x377001 x377002 x379000 x379001)
def ulpref05_near.j1 : Nat → Bool → List Int → Int → Int → Int → Option (Int × Int)
 | 0, _, _, _, _, _ => none
 | k + 1, x377000, x377001, x377002, x379000, x379001 => if x379000 = 9218868437227405312 then (if x377000 = true then ((ulpref01_Neg.f x379000).bind fun t395 => (some (t395, 20))) else (some (x379000, 20))) else (if x377000 = true then ((ulpref01_Neg.f x379000).bind fun t396 => (some (t396, x379001))) else (some (x379000, x379001)))
end
def ulpref05_near.f (k : Nat) (a0_0 : Bool) (l0_1 : List Int) (a0_2 : Int) : Option (Int × Int) := (ulpref03_Len.f k l0_1).bind fun t379 => (if t379 = 0 then (some (0, 0)) else ((ulpref05_top.f k a0_0 l0_1 a0_2).bind fun t380 => ((ulpref05_top.f k a0_0 l0_1 a0_2).bind fun t381 => (if t381 > 1024 then (ulpref05_near.j0 k true a0_0 l0_1 a0_2 9218868437227405312 0) else ((ulpref05_top.f k a0_0 l0_1 a0_2).bind fun t382 => (if t382 < (-1074) then (ulpref05_near.j0 k true a0_0 l0_1 a0_2 0 0) else ((ulpref05_cut.f k l0_1 a0_2 (mx (wrap64 (t380 - 53)) (-1074))).bind fun bt383 => ((ulpref03_Len.f k bt383.1).bind fun t387 => (if t387 > 53 then ((ulpref03_Shr.f k bt383.1 1).bind fun bt388 => ((ulpref05_put.f k bt388.1 (wrap64 ((mx (wrap64 (t380 - 53)) (-1074)) + 1))).bind fun t392 => (ulpref05_near.j0 k bt383.2 a0_0 l0_1 a0_2 t392 0))) else ((ulpref05_put.f k bt383.1 (mx (wrap64 (t380 - 53)) (-1074))).bind fun t393 => (ulpref05_near.j0 k bt383.2 a0_0 l0_1 a0_2 t393 0)))))))))))
set_option maxHeartbeats 8000000 in
set_option maxRecDepth 100000 in
theorem ulpref05_near.calls (k : Nat) (a0_0 : Bool) (A0_1 : Option Addr) (c0_1 : Nat) (l0_1 : List Int) (a0_2 : Int) (r1 : Int) (r2 : Int) (w : World) (hr0_1 : Kd.C (Kd.int .u64) w A0_1 l0_1.length l0_1) (hc0_1 : l0_1.length ≤ c0_1) (h : ulpref05_near.f k a0_0 l0_1 a0_2 = some (r1, r2)) :
  Calls Tryd.prog 34 #[.agg #[.bool a0_0, .slice A0_1 l0_1.length c0_1, .int .i64 a0_2]] w fun e w' => e = .returned (.agg #[.int .u64 r1, .int .u8 r2]) ∧ Below w.heap.size w w' := by
 have hu25 := Tryd.underlying25
 have hu29 := Tryd.underlying29
 have HR0_1 := zA hr0_1
 have HC0_1 := zA hc0_1
 clear hr0_1 hc0_1
 have HB := zA (Below.refl w.heap.size w)
 have H : ((ulpref03_Len.f k l0_1).bind fun t379 => (if t379 = 0 then (some (0, 0)) else ((ulpref05_top.f k a0_0 l0_1 a0_2).bind fun t380 => ((ulpref05_top.f k a0_0 l0_1 a0_2).bind fun t381 => (if t381 > 1024 then (ulpref05_near.j0 k true a0_0 l0_1 a0_2 9218868437227405312 0) else ((ulpref05_top.f k a0_0 l0_1 a0_2).bind fun t382 => (if t382 < (-1074) then (ulpref05_near.j0 k true a0_0 l0_1 a0_2 0 0) else ((ulpref05_cut.f k l0_1 a0_2 (mx (wrap64 (t380 - 53)) (-1074))).bind fun bt383 => ((ulpref03_Len.f k bt383.1).bind fun t387 => (if t387 > 53 then ((ulpref03_Shr.f k bt383.1 1).bind fun bt388 => ((ulpref05_put.f k bt388.1 (wrap64 ((mx (wrap64 (t380 - 53)) (-1074)) + 1))).bind fun t392 => (ulpref05_near.j0 k bt383.2 a0_0 l0_1 a0_2 t392 0))) else ((ulpref05_put.f k bt383.1 (mx (wrap64 (t380 - 53)) (-1074))).bind fun t393 => (ulpref05_near.j0 k bt383.2 a0_0 l0_1 a0_2 t393 0)))))))))))) = some (r1, r2) := h
 clear h
 obtain ⟨t379, A2, H⟩ := zh H
 by_cases c3 : t379 = 0
 ·rw [if_pos c3] at H
  have c3b0 := beq_iff_eq.mpr c3
  have c3b1 := bne_eq_false_iff_eq.mpr c3
  clear c3
  simp only [Option.some.injEq, Prod.mk.injEq] at H
  obtain ⟨rfl, rfl⟩ := H
  go_enter Tryd.func34, Tryd.ntmps34
  go_wp2_with (first | ((with_reducible refine zD 1 rfl ?_); refine zn (N := 1) (cs := #[.bool a0_0, .slice A0_1 l0_1.length c0_1, .int .i64 a0_2]) (t := 25) rfl rfl ?_; intro gb376 hg w4 hbox hb; have BK376 := zA (hbox); have GW376 := zw hg; replace HB := ze hb; clear hb hbox hg) | ((with_reducible refine zD 2 rfl ?_); refine zn (N := 2) (cs := #[.int .u64 0, .int .u8 0]) (t := 29) rfl rfl ?_; intro gb377 hg w5 hbox hb; have BK377 := zA (hbox); have GW377 := zx hg; replace HB := zf hb; have NB376_377 := zl BK376 hg; have NB377_376 := zg BK376 hg; replace BK376 := zb BK376 hb; clear hb hbox hg) | ((with_reducible refine zD 3 rfl ?_); refine zn (N := 3) (cs := #[.int .u64 0, .int .u8 0]) (t := 29) rfl rfl ?_; intro gb378 hg w6 hbox hb; have BK378 := zA (hbox); have GW378 := zx hg; replace HB := zf hb; have NB376_378 := zl BK376 hg; have NB378_376 := zg BK376 hg; replace BK376 := zb BK376 hb; have NB377_378 := zl BK377 hg; have NB378_377 := zg BK377 hg; replace BK377 := zb BK377 hb; clear hb hbox hg; have hnb7 := NB378_376.out; have hnc7 := NB376_378.out; have hnb8 := NB378_377.out; have hnc8 := NB377_378.out; have hcz9_0 : w6.cell? ⟨gb378, 0, none⟩ = some (.int .u64 0) := (blk_cell BK378.out 0).trans rfl; have hcz9_1 : w6.cell? ⟨gb378, 1, none⟩ = some (.int .u8 0) := (blk_cell BK378.out 1).trans rfl; have hfz9_0 := blk_frozen BK378.out 0; have hfz9_1 := blk_frozen BK378.out 1; have hnb10 := NB376_377.out; have hnc10 := NB377_376.out; obtain ⟨_, _, _, _, _, _⟩ := zc BK376) | ((with_reducible refine zG 69 rfl ?_); refine zL (some 11) rfl rfl Tryd.func69 #[.slice A0_1 l0_1.length c0_1] rfl ?_; (with_reducible refine (ulpref03_Len.calls k _ _ l0_1 t379 _ ?side1 ?side2 A2.out).mono ?_); (case side1 => exact C_below HR0_1.out zs); (case side2 => exact HC0_1.out); rintro e w12 ⟨rfl, hb⟩; refine ⟨_, rfl, ?_⟩; replace BK376 := zF BK376 hb; replace BK377 := zF BK377 hb; replace BK378 := zA (blk_below (g := gb378) (o := .cells #[.int .u64 0, .int .u8 0] 29 (0, 0)) (by (with_reducible repeat (first | refine blk_drewN ?_ _ | refine blk_drew ?_ | refine blk_alloc ?_ _)); refine blk_put (cs := #[.int .u64 0, .int .u8 0]) ?_ 1 _ rfl; refine blk_put (cs := #[.int .u64 0, .int .u8 0]) ?_ 0 _ rfl; exact BK378.out) hb); replace HB := zf hb; have hcz13_0 : w12.cell? ⟨gb378, 0, none⟩ = some (.int .u64 0) := (blk_cell BK378.out 0).trans rfl; have hcz13_1 : w12.cell? ⟨gb378, 1, none⟩ = some (.int .u8 0) := (blk_cell BK378.out 1).trans rfl; have hfz13_0 := blk_frozen BK378.out 0; have hfz13_1 := blk_frozen BK378.out 1; have hcz14_0 : w12.cell? ⟨gb377, 0, none⟩ = some (.int .u64 0) := (blk_cell BK377.out 0).trans rfl; have hcz14_1 : w12.cell? ⟨gb377, 1, none⟩ = some (.int .u8 0) := (blk_cell BK377.out 1).trans rfl; have hfz14_0 := blk_frozen BK377.out 0; have hfz14_1 := blk_frozen BK377.out 1))
  refine bodyPost_ret (results_cell_row rfl _ _ gb377 29 #[.int .u64 0, .int .u8 0] (0, 0) _ rfl (by (with_reducible repeat (first | refine blk_drewN ?_ _ | refine blk_drew ?_ | refine blk_alloc ?_ _)); refine blk_put (cs := #[.int .u64 0, .int .u8 0]) ?_ 1 _ rfl; refine blk_put (cs := #[.int .u64 0, .int .u8 0]) ?_ 0 _ rfl; exact BK377.out) Tryd.underlying29 rfl (by kernel_rfl)) rfl ?_
  exact ⟨er, zs⟩
 rw [if_neg c3] at H
 have c3b0 := beq_eq_false_iff_ne.mpr c3
 have c3b1 := bne_iff_ne.mpr c3
 obtain ⟨t380, A15, H⟩ := zh H
 obtain ⟨ji16, hji16⟩ : ∃ j_ : Int, (mx (wrap64 (t380 - 53)) (-1074)) = j_ := ⟨_, rfl⟩
 replace H : ((ulpref05_top.f k a0_0 l0_1 a0_2).bind fun t381 => (if t381 > 1024 then (ulpref05_near.j0 k true a0_0 l0_1 a0_2 9218868437227405312 0) else ((ulpref05_top.f k a0_0 l0_1 a0_2).bind fun t382 => (if t382 < (-1074) then (ulpref05_near.j0 k true a0_0 l0_1 a0_2 0 0) else ((ulpref05_cut.f k l0_1 a0_2 (ji16)).bind fun bt383 => ((ulpref03_Len.f k bt383.1).bind fun t387 => (if t387 > 53 then ((ulpref03_Shr.f k bt383.1 1).bind fun bt388 => ((ulpref05_put.f k bt388.1 (wrap64 ((ji16) + 1))).bind fun t392 => (ulpref05_near.j0 k bt383.2 a0_0 l0_1 a0_2 t392 0))) else ((ulpref05_put.f k bt383.1 (ji16)).bind fun t393 => (ulpref05_near.j0 k bt383.2 a0_0 l0_1 a0_2 t393 0))))))))) = some (r1, r2) := zQ hji16 H
 (try rw [hji16] at A2)
 (try rw [hji16] at A15)
 have hji16_ : (if (wrap64 (t380 - 53)) < (-1074) then (-1074) else (wrap64 (t380 - 53))) = ji16 := hji16
 have HC17 := zA H
 clear H
 go_enter Tryd.func34, Tryd.ntmps34
 go_upto_block 0 with (first | ((with_reducible refine zD 1 rfl ?_); refine zn (N := 1) (cs := #[.bool a0_0, .slice A0_1 l0_1.length c0_1, .int .i64 a0_2]) (t := 25) rfl rfl ?_; intro gb376 hg w18 hbox hb; have BK376 := zA (hbox); have GW376 := zw hg; replace HB := ze hb; clear hb hbox hg) | ((with_reducible refine zD 2 rfl ?_); refine zn (N := 2) (cs := #[.int .u64 0, .int .u8 0]) (t := 29) rfl rfl ?_; intro gb377 hg w19 hbox hb; have BK377 := zA (hbox); have GW377 := zx hg; replace HB := zf hb; have NB376_377 := zl BK376 hg; have NB377_376 := zg BK376 hg; replace BK376 := zb BK376 hb; clear hb hbox hg) | ((with_reducible refine zD 3 rfl ?_); refine zn (N := 3) (cs := #[.int .u64 0, .int .u8 0]) (t := 29) rfl rfl ?_; intro gb378 hg w20 hbox hb; have BK378 := zA (hbox); have GW378 := zx hg; replace HB := zf hb; have NB376_378 := zl BK376 hg; have NB378_376 := zg BK376 hg; replace BK376 := zb BK376 hb; have NB377_378 := zl BK377 hg; have NB378_377 := zg BK377 hg; replace BK377 := zb BK377 hb; clear hb hbox hg; have hnb21 := NB378_376.out; have hnc21 := NB376_378.out; have hnb22 := NB378_377.out; have hnc22 := NB377_378.out; have hcz23_0 : w20.cell? ⟨gb378, 0, none⟩ = some (.int .u64 0) := (blk_cell BK378.out 0).trans rfl; have hcz23_1 : w20.cell? ⟨gb378, 1, none⟩ = some (.int .u8 0) := (blk_cell BK378.out 1).trans rfl; have hfz23_0 := blk_frozen BK378.out 0; have hfz23_1 := blk_frozen BK378.out 1; have hnb24 := NB376_377.out; have hnc24 := NB377_376.out; obtain ⟨_, _, _, _, _, _⟩ := zc BK376) | ((with_reducible refine zG 69 rfl ?_); refine zL (some 11) rfl rfl Tryd.func69 #[.slice A0_1 l0_1.length c0_1] rfl ?_; (with_reducible refine (ulpref03_Len.calls k _ _ l0_1 t379 _ ?side1 ?side2 A2.out).mono ?_); (case side1 => exact C_below HR0_1.out zs); (case side2 => exact HC0_1.out); rintro e w26 ⟨rfl, hb⟩; refine ⟨_, rfl, ?_⟩; replace BK376 := zF BK376 hb; replace BK377 := zF BK377 hb; replace BK378 := zA (blk_below (g := gb378) (o := .cells #[.int .u64 0, .int .u8 0] 29 (0, 0)) (by (with_reducible repeat (first | refine blk_drewN ?_ _ | refine blk_drew ?_ | refine blk_alloc ?_ _)); refine blk_put (cs := #[.int .u64 0, .int .u8 0]) ?_ 1 _ rfl; refine blk_put (cs := #[.int .u64 0, .int .u8 0]) ?_ 0 _ rfl; exact BK378.out) hb); replace HB := zf hb; obtain ⟨hcz27_0, hcz27_1, hcz27_2, hfz27_0, hfz27_1, hfz27_2⟩ := zc BK376) | ((with_reducible refine zG 70 rfl ?_); refine zL (some 15) rfl rfl Tryd.func70 #[.agg #[.bool a0_0, .slice A0_1 l0_1.length c0_1, .int .i64 a0_2]] rfl ?_; (with_reducible refine (ulpref05_top.calls k a0_0 _ _ l0_1 a0_2 t380 _ ?side1 ?side2 A15.out).mono ?_); (case side1 => exact zk (C_below HR0_1.out HB.out)); (case side2 => exact HC0_1.out); rintro e w28 ⟨rfl, hb⟩; refine ⟨_, rfl, ?_⟩; replace BK376 := zb BK376 hb; replace BK377 := zb BK377 hb; replace BK378 := zb BK378 hb; replace HB := zf hb))
 (try simp only [Act.put, List.setIfInBounds_toArray, List.set_cons_zero, List.set_cons_succ])
 go_cut [5] (fun v5 wc => ∃ (kq : Nat) (x5_16 : Bool) (x379000_16 : Int), v5 = .bool x5_16 ∧ Aside0 (ulpref05_near.j0 kq x5_16 a0_0 l0_1 a0_2 x379000_16 0 = some (r1, r2)) ∧ Aside0 (kq ≤ k) ∧ Aside0 (wc.heap[gb376]? = some (.cells #[.bool a0_0, (.slice A0_1 l0_1.length c0_1), .int .i64 a0_2] 25 (0, 0))) ∧ Aside0 (wc.heap[gb377]? = some (.cells #[.int .u64 0, .int .u8 0] 29 (0, 0))) ∧ Aside0 (wc.heap[gb378]? = some (.cells #[.int .u64 x379000_16, .int .u8 0] 29 (0, 0))) ∧ Aside0 (Below w.heap.size w wc))
 case first =>
  have H := HC17.out
  clear HC17
  obtain ⟨t381, A29, H⟩ := zh H
  by_cases c30 : t381 > 1024
  ·rw [if_pos c30] at H
   have c30b0 := decide_eq_true c30
   clear c30
   (first | rw [c30b0] | (simp only [i64_w, i32_w]; rw [c30b0]) | skip)
   have H' := zA H
   clear H
   have hnb31 := NB376_377.out
   have hnc31 := NB377_376.out
   have hnb32 := NB376_378.out
   have hnc32 := NB378_376.out
   obtain ⟨_, _, _, _, _, _⟩ := zc BK376
   go_wp2_with (first | ((with_reducible refine zG 70 rfl ?_); refine zL (some 44) rfl rfl Tryd.func70 #[.agg #[.bool a0_0, .slice A0_1 l0_1.length c0_1, .int .i64 a0_2]] rfl ?_; (with_reducible refine (ulpref05_top.calls k a0_0 _ _ l0_1 a0_2 t381 _ ?side1 ?side2 A29.out).mono ?_); (case side1 => exact zk (C_below HR0_1.out HB.out)); (case side2 => exact HC0_1.out); rintro e w34 ⟨rfl, hb⟩; refine ⟨_, rfl, ?_⟩; replace BK376 := zb BK376 hb; replace BK377 := zb BK377 hb; replace BK378 := zb BK378 hb; replace HB := zf hb; have hnb35 := NB378_377.out; have hnc35 := NB377_378.out; have hcz36_0 : w34.cell? ⟨gb378, 0, none⟩ = some (.int .u64 0) := (blk_cell BK378.out 0).trans rfl; have hcz36_1 : w34.cell? ⟨gb378, 1, none⟩ = some (.int .u8 0) := (blk_cell BK378.out 1).trans rfl; have hfz36_0 := blk_frozen BK378.out 0; have hfz36_1 := blk_frozen BK378.out 1))
   go_meet
   case rel => exact ⟨_, (true), (9218868437227405312), zi, (by first | exact H' | (simp only [hji16]; exact H') | (simp only [hji16] at H' ⊢; exact H')), ⟨by first | omega | exact Nat.le_refl _⟩, ⟨by (with_reducible repeat (first | refine blk_drewN ?_ _ | refine blk_drew ?_ | refine blk_alloc ?_ _)); refine blk_far ?_ NB376_378.out _; exact BK376.out⟩, ⟨by (with_reducible repeat (first | refine blk_drewN ?_ _ | refine blk_drew ?_ | refine blk_alloc ?_ _)); refine blk_far ?_ NB377_378.out _; exact BK377.out⟩, ⟨by (with_reducible repeat (first | refine blk_drewN ?_ _ | refine blk_drew ?_ | refine blk_alloc ?_ _)); refine blk_put (cs := #[.int .u64 0, .int .u8 0]) ?_ 0 _ rfl; exact BK378.out⟩, ⟨zs⟩⟩
  rw [if_neg c30] at H
  have c30b0 := decide_eq_false c30
  clear c30
  (first | rw [c30b0] | (simp only [i64_w, i32_w]; rw [c30b0]) | skip)
  replace H := Option.bind_eq_some_iff.mp H
  obtain ⟨t382, A370, H⟩ := H
  obtain rfl : t381 = t382 := Option.some.inj (A29.out.symm.trans A370)
  (try dsimp only at H)
  have A37 := zA A370
  clear A370
  by_cases c38 : t381 < (-1074)
  ·rw [if_pos c38] at H
   have c38b0 := decide_eq_true c38
   clear c38
   have H' := zA H
   clear H
   have hnb39 := NB376_377.out
   have hnc39 := NB377_376.out
   have hnb40 := NB376_378.out
   have hnc40 := NB378_376.out
   obtain ⟨_, _, _, _, _, _⟩ := zc BK376
   go_wp2_with (first | ((with_reducible refine zG 70 rfl ?_); refine zL (some 44) rfl rfl Tryd.func70 #[.agg #[.bool a0_0, .slice A0_1 l0_1.length c0_1, .int .i64 a0_2]] rfl ?_; (with_reducible refine (ulpref05_top.calls k a0_0 _ _ l0_1 a0_2 t381 _ ?side1 ?side2 A29.out).mono ?_); (case side1 => exact zk (C_below HR0_1.out HB.out)); (case side2 => exact HC0_1.out); rintro e w42 ⟨rfl, hb⟩; refine ⟨_, rfl, ?_⟩; replace BK376 := zb BK376 hb; replace BK377 := zb BK377 hb; replace BK378 := zb BK378 hb; replace HB := zf hb; obtain ⟨hcz43_0, hcz43_1, hcz43_2, hfz43_0, hfz43_1, hfz43_2⟩ := zc BK376) | ((with_reducible refine zG 70 rfl ?_); refine zL (some 49) rfl rfl Tryd.func70 #[.agg #[.bool a0_0, .slice A0_1 l0_1.length c0_1, .int .i64 a0_2]] rfl ?_; (with_reducible refine (ulpref05_top.calls k a0_0 _ _ l0_1 a0_2 t381 _ ?side1 ?side2 A37.out).mono ?_); (case side1 => exact zk (C_below HR0_1.out HB.out)); (case side2 => exact HC0_1.out); rintro e w44 ⟨rfl, hb⟩; refine ⟨_, rfl, ?_⟩; replace BK376 := zb BK376 hb; replace BK377 := zb BK377 hb; replace BK378 := zb BK378 hb; replace HB := zf hb; have hnb45 := NB378_377.out; have hnc45 := NB377_378.out; have hcz46_0 : w44.cell? ⟨gb378, 0, none⟩ = some (.int .u64 0) := (blk_cell BK378.out 0).trans rfl; have hcz46_1 : w44.cell? ⟨gb378, 1, none⟩ = some (.int .u8 0) := (blk_cell BK378.out 1).trans rfl; have hfz46_0 := blk_frozen BK378.out 0; have hfz46_1 := blk_frozen BK378.out 1))
   go_meet
   case rel => exact ⟨_, (true), (0), zi, (by first | exact H' | (simp only [hji16]; exact H') | (simp only [hji16] at H' ⊢; exact H')), ⟨by first | omega | exact Nat.le_refl _⟩, ⟨by (with_reducible repeat (first | refine blk_drewN ?_ _ | refine blk_drew ?_ | refine blk_alloc ?_ _)); refine blk_far ?_ NB376_378.out _; exact BK376.out⟩, ⟨by (with_reducible repeat (first | refine blk_drewN ?_ _ | refine blk_drew ?_ | refine blk_alloc ?_ _)); refine blk_far ?_ NB377_378.out _; exact BK377.out⟩, ⟨by (with_reducible repeat (first | refine blk_drewN ?_ _ | refine blk_drew ?_ | refine blk_alloc ?_ _)); refine blk_put (cs := #[.int .u64 0, .int .u8 0]) ?_ 0 _ rfl; exact BK378.out⟩, ⟨zs⟩⟩
  rw [if_neg c38] at H
  have c38b0 := decide_eq_false c38
  clear c38
  obtain ⟨⟨t383, t384⟩, A47, H⟩ := zh H
  (try dsimp only at H)
  obtain ⟨t387, A48, H⟩ := zh H
  by_cases c49 : t387 > 53
  ·rw [if_pos c49] at H
   have c49b0 := decide_eq_true c49
   clear c49
   obtain ⟨⟨t388, t389⟩, A50, H⟩ := zh H
   (try dsimp only at H)
   obtain ⟨t392, A51, H⟩ := zh H
   have H' := zA H
   clear H
   have hnb52 := NB376_377.out
   have hnc52 := NB377_376.out
   have hnb53 := NB376_378.out
   have hnc53 := NB378_376.out
   obtain ⟨_, _, _, _, _, _⟩ := zc BK376
   go_wp2_with (first | ((with_reducible refine zG 70 rfl ?_); refine zL (some 44) rfl rfl Tryd.func70 #[.agg #[.bool a0_0, .slice A0_1 l0_1.length c0_1, .int .i64 a0_2]] rfl ?_; (with_reducible refine (ulpref05_top.calls k a0_0 _ _ l0_1 a0_2 t381 _ ?side1 ?side2 A29.out).mono ?_); (case side1 => exact zk (C_below HR0_1.out HB.out)); (case side2 => exact HC0_1.out); rintro e w55 ⟨rfl, hb⟩; refine ⟨_, rfl, ?_⟩; replace BK376 := zb BK376 hb; replace BK377 := zb BK377 hb; replace BK378 := zb BK378 hb; replace HB := zf hb; obtain ⟨hcz56_0, hcz56_1, hcz56_2, hfz56_0, hfz56_1, hfz56_2⟩ := zc BK376) | ((with_reducible refine zG 70 rfl ?_); refine zL (some 49) rfl rfl Tryd.func70 #[.agg #[.bool a0_0, .slice A0_1 l0_1.length c0_1, .int .i64 a0_2]] rfl ?_; (with_reducible refine (ulpref05_top.calls k a0_0 _ _ l0_1 a0_2 t381 _ ?side1 ?side2 A37.out).mono ?_); (case side1 => exact zk (C_below HR0_1.out HB.out)); (case side2 => exact HC0_1.out); rintro e w57 ⟨rfl, hb⟩; refine ⟨_, rfl, ?_⟩; replace BK376 := zb BK376 hb; replace BK377 := zb BK377 hb; replace BK378 := zb BK378 hb; replace HB := zf hb; obtain ⟨hcz58_0, hcz58_1, hcz58_2, hfz58_0, hfz58_1, hfz58_2⟩ := zc BK376) | ((with_reducible refine zG 71 rfl ?_); refine goesL_ (some 24) rfl rfl Tryd.func71 (by kernel_rfl) rfl #[.slice A0_1 l0_1.length c0_1, .int .i64 a0_2, .int .i64 ji16] rfl (by (try simp only [List.map_toArray, List.map_cons, List.map_nil]); first | done | (simp only [hji16]; rfl) | rfl | (simp only [List.length_drop, List.length_take]; rfl)) ?_; (with_reducible refine (ulpref05_cut.calls k _ _ l0_1 a0_2 ji16 t383 t384 _ ?side1 ?side2 A47.out).mono ?_); (case side1 => exact zk (C_below HR0_1.out HB.out)); (case side2 => exact HC0_1.out); rintro e w59 ⟨v385, rfl, ho0, hb⟩; refine ⟨_, rfl, ?_⟩; have HO386 := zA (R_lower ho0 (below_size zs)); replace BK376 := zb BK376 hb; replace BK377 := zb BK377 hb; replace BK378 := zb BK378 hb; replace HB := zf hb; (try clear ho0); obtain ⟨Ao60, co60, eo60⟩ := R_slice HO386.out; subst eo60) | ((with_reducible refine zG 69 rfl ?_); refine zL (some 29) rfl rfl Tryd.func69 #[.slice Ao60 t383.length co60] rfl ?_; (with_reducible refine (ulpref03_Len.calls k _ _ t383 t387 _ ?side1 ?side2 A48.out).mono ?_); (case side1 => exact zk (R_reads' HO386.out).2.2); (case side2 => exact (R_reads' HO386.out).2.1); rintro e w61 ⟨rfl, hb⟩; refine ⟨_, rfl, ?_⟩; replace HO386 := zA (R_below (ru HO386.out) hb); replace BK376 := zb BK376 hb; replace BK377 := zb BK377 hb; replace BK378 := zb BK378 hb; replace HB := zf hb) | ((with_reducible refine zG 72 rfl ?_); refine zL (some 33) rfl rfl Tryd.func72 #[.slice Ao60 t383.length co60, .int .i64 1] rfl ?_; (with_reducible refine (ulpref03_Shr.calls k _ _ t383 1 t388 t389 _ ?side1 ?side2 A50.out).mono ?_); (case side1 => exact zk (R_reads' HO386.out).2.2); (case side2 => exact (R_reads' HO386.out).2.1); rintro e w62 ⟨v390, rfl, ho0, hb⟩; refine ⟨_, rfl, ?_⟩; have HO391 := zA (R_lower (R_new' ho0 (R_lt (ru HO386.out))) (below_size zs)); replace HO386 := zA (R_elder' (ru HO386.out) (R_base ho0) hb); replace BK376 := zb BK376 hb; replace BK377 := zb BK377 hb; replace BK378 := zb BK378 hb; replace HB := zf hb; (try clear ho0); obtain ⟨Ao63, co63, eo63⟩ := R_slice HO391.out; subst eo63) | ((with_reducible refine zG 73 rfl ?_); refine goesL_ (some 40) rfl rfl Tryd.func73 (by kernel_rfl) rfl #[.slice Ao63 t388.length co63, .int .i64 (wrap64 ((ji16) + 1))] rfl (by (try simp only [List.map_toArray, List.map_cons, List.map_nil]); first | done | (simp only [hji16]; rfl) | rfl | (simp only [List.length_drop, List.length_take]; rfl)) ?_; (with_reducible refine (ulpref05_put.calls k _ _ t388 (wrap64 ((ji16) + 1)) t392 _ ?side1 ?side2 A51.out).mono ?_); (case side1 => exact zk (R_reads' HO391.out).2.2); (case side2 => exact (R_reads' HO391.out).2.1); rintro e w' ⟨rfl, ⟨nd, rfl⟩⟩; refine ⟨_, rfl, ?_⟩; (try (rw [drewN_self w62]; generalize hq_ : World.drewN w62 _ = w62; have n0_ : Aside0 (Kd.R (Kd.int .u64) 26 w62 w.heap.size (fun k_ => some k_ ≠ (.slice Ao63 t388.length co63 : Value).ownBlock) (.slice Ao60 t383.length co60) t383) := ⟨by rw [← hq_]; exact (ru (R_mono HO386.out (fun _ hk => hk.2)))⟩; have n1_ : Aside0 (Kd.R (Kd.int .u64) 26 w62 w.heap.size (fun k_ => some k_ ≠ (.slice Ao60 t383.length co60 : Value).ownBlock) (.slice Ao63 t388.length co63) t388) := ⟨by rw [← hq_]; exact (ru (R_mono HO391.out (fun _ hk => hk.2)))⟩; have n2_ : Aside0 (w62.heap[gb376]? = some (.cells #[.bool a0_0, .slice A0_1 l0_1.length c0_1, .int .i64 a0_2] 25 (0, 0))) := ⟨by rw [← hq_]; exact (zu BK376)⟩; have n3_ : Aside0 (w62.heap[gb377]? = some (.cells #[.int .u64 0, .int .u8 0] 29 (0, 0))) := ⟨by rw [← hq_]; exact (zu BK377)⟩; have n4_ : Aside0 (w62.heap[gb378]? = some (.cells #[.int .u64 0, .int .u8 0] 29 (0, 0))) := ⟨by rw [← hq_]; exact (zu BK378)⟩; have n5_ : Aside0 (Below w.heap.size w w62) := ⟨by rw [← hq_]; exact zs⟩; clear HO386 HO391 BK376 BK377 BK378 HB hq_; have HO386 := n0_; have HO391 := n1_; have BK376 := n2_; have BK377 := n3_; have BK378 := n4_; have HB := n5_; clear n0_ n1_ n2_ n3_ n4_ n5_)); have hnb64 := NB378_377.out; have hnc64 := NB377_378.out; have hcz65_0 : w62.cell? ⟨gb378, 0, none⟩ = some (.int .u64 0) := (blk_cell BK378.out 0).trans rfl; have hcz65_1 : w62.cell? ⟨gb378, 1, none⟩ = some (.int .u8 0) := (blk_cell BK378.out 1).trans rfl; have hfz65_0 := blk_frozen BK378.out 0; have hfz65_1 := blk_frozen BK378.out 1))
   go_meet
   case rel => exact ⟨_, (t384), (t392), zi, (by first | exact H' | (simp only [hji16]; exact H') | (simp only [hji16] at H' ⊢; exact H')), ⟨by first | omega | exact Nat.le_refl _⟩, ⟨by (with_reducible repeat (first | refine blk_drewN ?_ _ | refine blk_drew ?_ | refine blk_alloc ?_ _)); refine blk_far ?_ NB376_378.out _; exact BK376.out⟩, ⟨by (with_reducible repeat (first | refine blk_drewN ?_ _ | refine blk_drew ?_ | refine blk_alloc ?_ _)); refine blk_far ?_ NB377_378.out _; exact BK377.out⟩, ⟨by (with_reducible repeat (first | refine blk_drewN ?_ _ | refine blk_drew ?_ | refine blk_alloc ?_ _)); refine blk_put (cs := #[.int .u64 0, .int .u8 0]) ?_ 0 _ rfl; exact BK378.out⟩, ⟨zs⟩⟩
  rw [if_neg c49] at H
  have c49b0 := decide_eq_false c49
  clear c49
  obtain ⟨t393, A66, H⟩ := zh H
  have H' := zA H
  clear H
  have hnb67 := NB376_377.out
  have hnc67 := NB377_376.out
  have hnb68 := NB376_378.out
  have hnc68 := NB378_376.out
  obtain ⟨_, _, _, _, _, _⟩ := zc BK376
  go_wp2_with (first | ((with_reducible refine zG 70 rfl ?_); refine zL (some 44) rfl rfl Tryd.func70 #[.agg #[.bool a0_0, .slice A0_1 l0_1.length c0_1, .int .i64 a0_2]] rfl ?_; (with_reducible refine (ulpref05_top.calls k a0_0 _ _ l0_1 a0_2 t381 _ ?side1 ?side2 A29.out).mono ?_); (case side1 => exact zk (C_below HR0_1.out HB.out)); (case side2 => exact HC0_1.out); rintro e w70 ⟨rfl, hb⟩; refine ⟨_, rfl, ?_⟩; replace BK376 := zb BK376 hb; replace BK377 := zb BK377 hb; replace BK378 := zb BK378 hb; replace HB := zf hb; obtain ⟨hcz71_0, hcz71_1, hcz71_2, hfz71_0, hfz71_1, hfz71_2⟩ := zc BK376) | ((with_reducible refine zG 70 rfl ?_); refine zL (some 49) rfl rfl Tryd.func70 #[.agg #[.bool a0_0, .slice A0_1 l0_1.length c0_1, .int .i64 a0_2]] rfl ?_; (with_reducible refine (ulpref05_top.calls k a0_0 _ _ l0_1 a0_2 t381 _ ?side1 ?side2 A37.out).mono ?_); (case side1 => exact zk (C_below HR0_1.out HB.out)); (case side2 => exact HC0_1.out); rintro e w72 ⟨rfl, hb⟩; refine ⟨_, rfl, ?_⟩; replace BK376 := zb BK376 hb; replace BK377 := zb BK377 hb; replace BK378 := zb BK378 hb; replace HB := zf hb; obtain ⟨hcz73_0, hcz73_1, hcz73_2, hfz73_0, hfz73_1, hfz73_2⟩ := zc BK376) | ((with_reducible refine zG 71 rfl ?_); refine goesL_ (some 24) rfl rfl Tryd.func71 (by kernel_rfl) rfl #[.slice A0_1 l0_1.length c0_1, .int .i64 a0_2, .int .i64 ji16] rfl (by (try simp only [List.map_toArray, List.map_cons, List.map_nil]); first | done | (simp only [hji16]; rfl) | rfl | (simp only [List.length_drop, List.length_take]; rfl)) ?_; (with_reducible refine (ulpref05_cut.calls k _ _ l0_1 a0_2 ji16 t383 t384 _ ?side1 ?side2 A47.out).mono ?_); (case side1 => exact zk (C_below HR0_1.out HB.out)); (case side2 => exact HC0_1.out); rintro e w74 ⟨v385, rfl, ho0, hb⟩; refine ⟨_, rfl, ?_⟩; have HO386 := zA (R_lower ho0 (below_size zs)); replace BK376 := zb BK376 hb; replace BK377 := zb BK377 hb; replace BK378 := zb BK378 hb; replace HB := zf hb; (try clear ho0); obtain ⟨Ao75, co75, eo75⟩ := R_slice HO386.out; subst eo75) | ((with_reducible refine zG 69 rfl ?_); refine zL (some 29) rfl rfl Tryd.func69 #[.slice Ao75 t383.length co75] rfl ?_; (with_reducible refine (ulpref03_Len.calls k _ _ t383 t387 _ ?side1 ?side2 A48.out).mono ?_); (case side1 => exact zk (R_reads' HO386.out).2.2); (case side2 => exact (R_reads' HO386.out).2.1); rintro e w76 ⟨rfl, hb⟩; refine ⟨_, rfl, ?_⟩; replace HO386 := zA (R_below (ru HO386.out) hb); replace BK376 := zb BK376 hb; replace BK377 := zb BK377 hb; replace BK378 := zb BK378 hb; replace HB := zf hb) | ((with_reducible refine zG 73 rfl ?_); refine goesL_ (some 40) rfl rfl Tryd.func73 (by kernel_rfl) rfl #[.slice Ao75 t383.length co75, .int .i64 ji16] rfl (by (try simp only [List.map_toArray, List.map_cons, List.map_nil]); first | done | (simp only [hji16]; rfl) | rfl | (simp only [List.length_drop, List.length_take]; rfl)) ?_; (with_reducible refine (ulpref05_put.calls k _ _ t383 ji16 t393 _ ?side1 ?side2 A66.out).mono ?_); (case side1 => exact zk (R_reads' HO386.out).2.2); (case side2 => exact (R_reads' HO386.out).2.1); rintro e w' ⟨rfl, ⟨nd, rfl⟩⟩; refine ⟨_, rfl, ?_⟩; (try (rw [drewN_self w76]; generalize hq_ : World.drewN w76 _ = w76; have n0_ : Aside0 (Kd.R (Kd.int .u64) 26 w76 w.heap.size (fun _ => True) (.slice Ao75 t383.length co75) t383) := ⟨by rw [← hq_]; exact (ru HO386.out)⟩; have n1_ : Aside0 (w76.heap[gb376]? = some (.cells #[.bool a0_0, .slice A0_1 l0_1.length c0_1, .int .i64 a0_2] 25 (0, 0))) := ⟨by rw [← hq_]; exact (zu BK376)⟩; have n2_ : Aside0 (w76.heap[gb377]? = some (.cells #[.int .u64 0, .int .u8 0] 29 (0, 0))) := ⟨by rw [← hq_]; exact (zu BK377)⟩; have n3_ : Aside0 (w76.heap[gb378]? = some (.cells #[.int .u64 0, .int .u8 0] 29 (0, 0))) := ⟨by rw [← hq_]; exact (zu BK378)⟩; have n4_ : Aside0 (Below w.heap.size w w76) := ⟨by rw [← hq_]; exact zs⟩; clear HO386 BK376 BK377 BK378 HB hq_; have HO386 := n0_; have BK376 := n1_; have BK377 := n2_; have BK378 := n3_; have HB := n4_; clear n0_ n1_ n2_ n3_ n4_)); have hnb77 := NB378_377.out; have hnc77 := NB377_378.out; have hcz78_0 : w76.cell? ⟨gb378, 0, none⟩ = some (.int .u64 0) := (blk_cell BK378.out 0).trans rfl; have hcz78_1 : w76.cell? ⟨gb378, 1, none⟩ = some (.int .u8 0) := (blk_cell BK378.out 1).trans rfl; have hfz78_0 := blk_frozen BK378.out 0; have hfz78_1 := blk_frozen BK378.out 1))
  go_meet
  case rel => exact ⟨_, (t384), (t393), zi, (by first | exact H' | (simp only [hji16]; exact H') | (simp only [hji16] at H' ⊢; exact H')), ⟨by first | omega | exact Nat.le_refl _⟩, ⟨by (with_reducible repeat (first | refine blk_drewN ?_ _ | refine blk_drew ?_ | refine blk_alloc ?_ _)); refine blk_far ?_ NB376_378.out _; exact BK376.out⟩, ⟨by (with_reducible repeat (first | refine blk_drewN ?_ _ | refine blk_drew ?_ | refine blk_alloc ?_ _)); refine blk_far ?_ NB377_378.out _; exact BK377.out⟩, ⟨by (with_reducible repeat (first | refine blk_drewN ?_ _ | refine blk_drew ?_ | refine blk_alloc ?_ _)); refine blk_put (cs := #[.int .u64 0, .int .u8 0]) ?_ 0 _ rfl; exact BK378.out⟩, ⟨zs⟩⟩
 case rest =>
  clear HC17
  try clear c3
  try clear c3b0
  try clear c3b1
  try clear c30
  try clear c30b0
  try clear c38
  try clear c38b0
  try clear c49
  try clear c49b0
  try clear hcz13_0 hcz13_1 hfz13_0 hfz13_1
  try clear hcz14_0 hcz14_1 hfz14_0 hfz14_1
  try clear hcz23_0 hcz23_1 hfz23_0 hfz23_1
  try clear hcz27_0 hcz27_1 hcz27_2 hfz27_0 hfz27_1 hfz27_2
  try clear hcz36_0 hcz36_1 hfz36_0 hfz36_1
  try clear hcz43_0 hcz43_1 hcz43_2 hfz43_0 hfz43_1 hfz43_2
  try clear hcz46_0 hcz46_1 hfz46_0 hfz46_1
  try clear hcz56_0 hcz56_1 hcz56_2 hfz56_0 hfz56_1 hfz56_2
  try clear hcz58_0 hcz58_1 hcz58_2 hfz58_0 hfz58_1 hfz58_2
  try clear hcz65_0 hcz65_1 hfz65_0 hfz65_1
  try clear hcz71_0 hcz71_1 hcz71_2 hfz71_0 hfz71_1 hfz71_2
  try clear hcz73_0 hcz73_1 hcz73_2 hfz73_0 hfz73_1 hfz73_2
  try clear hcz78_0 hcz78_1 hfz78_0 hfz78_1
  try clear hcz9_0 hcz9_1 hfz9_0 hfz9_1
  obtain ⟨kq, x5_16, x379000_16, rfl, HA, HJ16, BK376, BK377, BK378, HB⟩ := hcut
  cases kq with
  | zero => exact absurd HA.out (by simp [ulpref05_near.j0])
  | succ kj16 =>
   have H := HA.out
   clear HA
   simp only [ulpref05_near.j0] at H
   have HC79 := zA H
   clear H
   go_upto_if 52 with (fail)
   go_cut [] (fun wc => ∃ (kq : Nat) (x379001_78 : Int), Aside0 (ulpref05_near.j1 kq a0_0 l0_1 a0_2 x379000_16 x379001_78 = some (r1, r2)) ∧ Aside0 (kq ≤ kj16) ∧ Aside0 (wc.heap[gb376]? = some (.cells #[.bool a0_0, (.slice A0_1 l0_1.length c0_1), .int .i64 a0_2] 25 (0, 0))) ∧ Aside0 (wc.heap[gb377]? = some (.cells #[.int .u64 0, .int .u8 0] 29 (0, 0))) ∧ Aside0 (wc.heap[gb378]? = some (.cells #[.int .u64 x379000_16, .int .u8 x379001_78] 29 (0, 0))) ∧ Aside0 (Below w.heap.size w wc))
   case first =>
    have H := HC79.out
    clear HC79
    by_cases c80 : x5_16 = true
    ·subst c80
     rw [if_pos rfl] at H
     obtain ⟨t394, A81, H⟩ := zh H
     by_cases c82 : t394 = true
     ·subst c82
      rw [if_pos rfl] at H
      have H' := zA H
      clear H
      have hnb83 := NB378_376.out
      have hnc83 := NB376_378.out
      have hnb84 := NB378_377.out
      have hnc84 := NB377_378.out
      have hcz85_0 : wc.cell? ⟨gb378, 0, none⟩ = some (.int .u64 x379000_16) := (blk_cell BK378.out 0).trans rfl
      have hcz85_1 : wc.cell? ⟨gb378, 1, none⟩ = some (.int .u8 0) := (blk_cell BK378.out 1).trans rfl
      have hfz85_0 := blk_frozen BK378.out 0
      have hfz85_1 := blk_frozen BK378.out 1
      have hnb86 := NB376_377.out
      have hnc86 := NB377_376.out
      obtain ⟨_, _, _, _, _, _⟩ := zc BK376
      go_wp2_with (first | ((with_reducible refine zG 37 rfl ?_); refine zL (some 55) rfl rfl Tryd.func37 #[.agg #[.bool a0_0, .slice A0_1 l0_1.length c0_1, .int .i64 a0_2]] rfl ?_; (with_reducible refine (ulpref05_tiny.calls kj16 a0_0 _ _ l0_1 a0_2 true _ ?side1 ?side2 A81.out).mono ?_); (case side1 => exact C_below HR0_1.out zs); (case side2 => exact HC0_1.out); rintro e w88 ⟨rfl, hb⟩; refine ⟨_, rfl, ?_⟩; replace BK376 := zF BK376 hb; replace BK377 := zF BK377 hb; replace BK378 := zA (blk_below (g := gb378) (o := .cells #[.int .u64 x379000_16, .int .u8 16] 29 (0, 0)) (by (with_reducible repeat (first | refine blk_drewN ?_ _ | refine blk_drew ?_ | refine blk_alloc ?_ _)); refine blk_put (cs := #[.int .u64 x379000_16, .int .u8 0]) ?_ 1 _ rfl; exact BK378.out) hb); replace HB := zf hb; have hcz89_0 : w88.cell? ⟨gb378, 0, none⟩ = some (.int .u64 x379000_16) := (blk_cell BK378.out 0).trans rfl; have hcz89_1 : w88.cell? ⟨gb378, 1, none⟩ = some (.int .u8 16) := (blk_cell BK378.out 1).trans rfl; have hfz89_0 := blk_frozen BK378.out 0; have hfz89_1 := blk_frozen BK378.out 1))
      go_meet
      case rel => exact ⟨_, (Go.bits .or .u8 16 8), (by first | exact H' | (simp only [hji16]; exact H') | (simp only [hji16] at H' ⊢; exact H')), ⟨by have := HJ16.out; first | omega | exact Nat.le_refl _⟩, ⟨by (with_reducible repeat (first | refine blk_drewN ?_ _ | refine blk_drew ?_ | refine blk_alloc ?_ _)); refine blk_far ?_ NB376_378.out _; exact BK376.out⟩, ⟨by (with_reducible repeat (first | refine blk_drewN ?_ _ | refine blk_drew ?_ | refine blk_alloc ?_ _)); refine blk_far ?_ NB377_378.out _; exact BK377.out⟩, ⟨by (with_reducible repeat (first | refine blk_drewN ?_ _ | refine blk_drew ?_ | refine blk_alloc ?_ _)); refine blk_put (cs := #[.int .u64 x379000_16, .int .u8 16]) ?_ 1 _ rfl; exact BK378.out⟩, ⟨zs⟩⟩
     replace c82 := Bool.eq_false_iff.mpr c82
     subst c82
     rw [if_neg (show ¬ (false = true) by decide)] at H
     have H' := zA H
     clear H
     have hnb90 := NB378_376.out
     have hnc90 := NB376_378.out
     have hnb91 := NB378_377.out
     have hnc91 := NB377_378.out
     have hcz92_0 : wc.cell? ⟨gb378, 0, none⟩ = some (.int .u64 x379000_16) := (blk_cell BK378.out 0).trans rfl
     have hcz92_1 : wc.cell? ⟨gb378, 1, none⟩ = some (.int .u8 0) := (blk_cell BK378.out 1).trans rfl
     have hfz92_0 := blk_frozen BK378.out 0
     have hfz92_1 := blk_frozen BK378.out 1
     have hnb93 := NB376_377.out
     have hnc93 := NB377_376.out
     obtain ⟨_, _, _, _, _, _⟩ := zc BK376
     go_wp2_with (first | ((with_reducible refine zG 37 rfl ?_); refine zL (some 55) rfl rfl Tryd.func37 #[.agg #[.bool a0_0, .slice A0_1 l0_1.length c0_1, .int .i64 a0_2]] rfl ?_; (with_reducible refine (ulpref05_tiny.calls kj16 a0_0 _ _ l0_1 a0_2 false _ ?side1 ?side2 A81.out).mono ?_); (case side1 => exact C_below HR0_1.out zs); (case side2 => exact HC0_1.out); rintro e w95 ⟨rfl, hb⟩; refine ⟨_, rfl, ?_⟩; replace BK376 := zF BK376 hb; replace BK377 := zF BK377 hb; replace BK378 := zA (blk_below (g := gb378) (o := .cells #[.int .u64 x379000_16, .int .u8 16] 29 (0, 0)) (by (with_reducible repeat (first | refine blk_drewN ?_ _ | refine blk_drew ?_ | refine blk_alloc ?_ _)); refine blk_put (cs := #[.int .u64 x379000_16, .int .u8 0]) ?_ 1 _ rfl; exact BK378.out) hb); replace HB := zf hb))
     go_meet
     case rel => exact ⟨_, (16), (by first | exact H' | (simp only [hji16]; exact H') | (simp only [hji16] at H' ⊢; exact H')), ⟨by have := HJ16.out; first | omega | exact Nat.le_refl _⟩, ⟨zu BK376⟩, ⟨zu BK377⟩, ⟨zu BK378⟩, ⟨zs⟩⟩
    replace c80 := Bool.eq_false_iff.mpr c80
    subst c80
    rw [if_neg (show ¬ (false = true) by decide)] at H
    have H' := zA H
    clear H
    go_wp2
    go_meet
    case rel => exact ⟨_, (0), (by first | exact H' | (simp only [hji16]; exact H') | (simp only [hji16] at H' ⊢; exact H')), ⟨by have := HJ16.out; first | omega | exact Nat.le_refl _⟩, ⟨zu BK376⟩, ⟨zu BK377⟩, ⟨zu BK378⟩, ⟨zs⟩⟩
   case rest =>
    clear HC79
    try clear c3
    try clear c3b0
    try clear c3b1
    try clear c30
    try clear c30b0
    try clear c38
    try clear c38b0
    try clear c49
    try clear c49b0
    try clear c80
    try clear c82
    try clear hcz13_0 hcz13_1 hfz13_0 hfz13_1
    try clear hcz14_0 hcz14_1 hfz14_0 hfz14_1
    try clear hcz23_0 hcz23_1 hfz23_0 hfz23_1
    try clear hcz27_0 hcz27_1 hcz27_2 hfz27_0 hfz27_1 hfz27_2
    try clear hcz36_0 hcz36_1 hfz36_0 hfz36_1
    try clear hcz43_0 hcz43_1 hcz43_2 hfz43_0 hfz43_1 hfz43_2
    try clear hcz46_0 hcz46_1 hfz46_0 hfz46_1
    try clear hcz56_0 hcz56_1 hcz56_2 hfz56_0 hfz56_1 hfz56_2
    try clear hcz58_0 hcz58_1 hcz58_2 hfz58_0 hfz58_1 hfz58_2
    try clear hcz65_0 hcz65_1 hfz65_0 hfz65_1
    try clear hcz71_0 hcz71_1 hcz71_2 hfz71_0 hfz71_1 hfz71_2
    try clear hcz73_0 hcz73_1 hcz73_2 hfz73_0 hfz73_1 hfz73_2
    try clear hcz78_0 hcz78_1 hfz78_0 hfz78_1
    try clear hcz85_0 hcz85_1 hfz85_0 hfz85_1
    try clear hcz89_0 hcz89_1 hfz89_0 hfz89_1
    try clear hcz92_0 hcz92_1 hfz92_0 hfz92_1
    try clear hcz9_0 hcz9_1 hfz9_0 hfz9_1
    obtain ⟨kq, x379001_78, HA, HJ78, BK376, BK377, BK378, HB⟩ := hcut
    cases kq with
    | zero => exact absurd HA.out (by simp [ulpref05_near.j1])
    | succ kj78 =>
     have H := HA.out
     clear HA
     simp only [ulpref05_near.j1] at H
     by_cases c96 : x379000_16 = 9218868437227405312
     ·rw [if_pos c96] at H
      have c96b0 := beq_iff_eq.mpr c96
      have c96b1 := bne_eq_false_iff_eq.mpr c96
      clear c96
      by_cases c97 : a0_0 = true
      ·subst c97
       rw [if_pos rfl] at H
       obtain ⟨t395, A98, H⟩ := zh H
       simp only [Option.some.injEq, Prod.mk.injEq] at H
       obtain ⟨rfl, rfl⟩ := H
       have hnb99 := NB378_376.out
       have hnc99 := NB376_378.out
       have hnb100 := NB378_377.out
       have hnc100 := NB377_378.out
       have hcz101_0 : wc.cell? ⟨gb378, 0, none⟩ = some (.int .u64 x379000_16) := (blk_cell BK378.out 0).trans rfl
       have hcz101_1 : wc.cell? ⟨gb378, 1, none⟩ = some (.int .u8 x379001_78) := (blk_cell BK378.out 1).trans rfl
       have hfz101_0 := blk_frozen BK378.out 0
       have hfz101_1 := blk_frozen BK378.out 1
       have hnb102 := NB376_377.out
       have hnc102 := NB377_376.out
       obtain ⟨_, _, _, _, _, _⟩ := zc BK376
       go_wp2_with (first | ((with_reducible refine zG 74 rfl ?_); refine zL (some 68) rfl rfl Tryd.func74 #[.int .u64 x379000_16] rfl ?_; (with_reducible refine (ulpref01_Neg.calls x379000_16 t395 _ A98.out).mono ?_); rintro e w' ⟨rfl, ⟨nd, rfl⟩⟩; refine ⟨_, rfl, ?_⟩; have hcz104_0 : wc.cell? ⟨gb377, 0, none⟩ = some (.int .u64 0) := (blk_cell BK377.out 0).trans rfl; have hcz104_1 : wc.cell? ⟨gb377, 1, none⟩ = some (.int .u8 0) := (blk_cell BK377.out 1).trans rfl; have hfz104_0 := blk_frozen BK377.out 0; have hfz104_1 := blk_frozen BK377.out 1))
       refine bodyPost_ret (results_cell_row rfl _ _ gb377 29 #[.int .u64 t395, .int .u8 20] (0, 0) _ rfl (by (with_reducible repeat (first | refine blk_drewN ?_ _ | refine blk_drew ?_ | refine blk_alloc ?_ _)); refine blk_put (cs := #[.int .u64 t395, .int .u8 0]) ?_ 1 _ rfl; refine blk_put (cs := #[.int .u64 0, .int .u8 0]) ?_ 0 _ rfl; refine blk_far ?_ NB377_378.out _; refine blk_far ?_ NB377_378.out _; exact BK377.out) Tryd.underlying29 rfl (by kernel_rfl)) rfl ?_
       exact ⟨by first | rfl | (simp [errW_none, errW_some] <;> rfl) | (simp only [← hji16]; first | rfl | (simp [errW_none, errW_some] <;> rfl)) | (simp [*, errW_none, errW_some] <;> rfl), zs⟩
      replace c97 := Bool.eq_false_iff.mpr c97
      subst c97
      rw [if_neg (show ¬ (false = true) by decide)] at H
      simp only [Option.some.injEq, Prod.mk.injEq] at H
      obtain ⟨rfl, rfl⟩ := H
      have hnb105 := NB378_376.out
      have hnc105 := NB376_378.out
      have hnb106 := NB378_377.out
      have hnc106 := NB377_378.out
      have hcz107_0 : wc.cell? ⟨gb378, 0, none⟩ = some (.int .u64 x379000_16) := (blk_cell BK378.out 0).trans rfl
      have hcz107_1 : wc.cell? ⟨gb378, 1, none⟩ = some (.int .u8 x379001_78) := (blk_cell BK378.out 1).trans rfl
      have hfz107_0 := blk_frozen BK378.out 0
      have hfz107_1 := blk_frozen BK378.out 1
      have hnb108 := NB376_377.out
      have hnc108 := NB377_376.out
      obtain ⟨_, _, _, _, _, _⟩ := zc BK376
      have hcz110_0 : wc.cell? ⟨gb377, 0, none⟩ = some (.int .u64 0) := (blk_cell BK377.out 0).trans rfl
      have hcz110_1 : wc.cell? ⟨gb377, 1, none⟩ = some (.int .u8 0) := (blk_cell BK377.out 1).trans rfl
      have hfz110_0 := blk_frozen BK377.out 0
      have hfz110_1 := blk_frozen BK377.out 1
      go_wp2
      refine bodyPost_ret (results_cell_row rfl _ _ gb377 29 #[.int .u64 x379000_16, .int .u8 20] (0, 0) _ rfl (by (with_reducible repeat (first | refine blk_drewN ?_ _ | refine blk_drew ?_ | refine blk_alloc ?_ _)); refine blk_put (cs := #[.int .u64 x379000_16, .int .u8 0]) ?_ 1 _ rfl; refine blk_put (cs := #[.int .u64 0, .int .u8 0]) ?_ 0 _ rfl; refine blk_far ?_ NB377_378.out _; exact BK377.out) Tryd.underlying29 rfl (by kernel_rfl)) rfl ?_
      exact ⟨by first | rfl | (simp [errW_none, errW_some] <;> rfl) | (simp only [← hji16]; first | rfl | (simp [errW_none, errW_some] <;> rfl)) | (simp [*, errW_none, errW_some] <;> rfl), zs⟩
     rw [if_neg c96] at H
     have c96b0 := beq_eq_false_iff_ne.mpr c96
     have c96b1 := bne_iff_ne.mpr c96
     by_cases c111 : a0_0 = true
     ·subst c111
      rw [if_pos rfl] at H
      obtain ⟨t396, A112, H⟩ := zh H
      simp only [Option.some.injEq, Prod.mk.injEq] at H
      obtain ⟨rfl, rfl⟩ := H
      have hnb113 := NB378_376.out
      have hnc113 := NB376_378.out
      have hnb114 := NB378_377.out
      have hnc114 := NB377_378.out
      have hcz115_0 : wc.cell? ⟨gb378, 0, none⟩ = some (.int .u64 x379000_16) := (blk_cell BK378.out 0).trans rfl
      have hcz115_1 : wc.cell? ⟨gb378, 1, none⟩ = some (.int .u8 x379001_78) := (blk_cell BK378.out 1).trans rfl
      have hfz115_0 := blk_frozen BK378.out 0
      have hfz115_1 := blk_frozen BK378.out 1
      have hnb116 := NB376_377.out
      have hnc116 := NB377_376.out
      obtain ⟨_, _, _, _, _, _⟩ := zc BK376
      go_wp2_with (first | ((with_reducible refine zG 74 rfl ?_); refine zL (some 68) rfl rfl Tryd.func74 #[.int .u64 x379000_16] rfl ?_; (with_reducible refine (ulpref01_Neg.calls x379000_16 t396 _ A112.out).mono ?_); rintro e w' ⟨rfl, ⟨nd, rfl⟩⟩; refine ⟨_, rfl, ?_⟩; (try (rw [drewN_self wc]; generalize hq_ : World.drewN wc _ = wc; have n0_ : Aside0 (wc.heap[gb376]? = some (.cells #[.bool true, .slice A0_1 l0_1.length c0_1, .int .i64 a0_2] 25 (0, 0))) := ⟨by rw [← hq_]; exact (zu BK376)⟩; have n1_ : Aside0 (wc.heap[gb377]? = some (.cells #[.int .u64 0, .int .u8 0] 29 (0, 0))) := ⟨by rw [← hq_]; exact (zu BK377)⟩; have n2_ : Aside0 (wc.heap[gb378]? = some (.cells #[.int .u64 x379000_16, .int .u8 x379001_78] 29 (0, 0))) := ⟨by rw [← hq_]; exact (zu BK378)⟩; have n3_ : Aside0 (Below w.heap.size w wc) := ⟨by rw [← hq_]; exact zs⟩; clear BK376 BK377 BK378 HB hq_; have BK376 := n0_; have BK377 := n1_; have BK378 := n2_; have HB := n3_; clear n0_ n1_ n2_ n3_)); have hcz118_0 : wc.cell? ⟨gb377, 0, none⟩ = some (.int .u64 0) := (blk_cell BK377.out 0).trans rfl; have hcz118_1 : wc.cell? ⟨gb377, 1, none⟩ = some (.int .u8 0) := (blk_cell BK377.out 1).trans rfl; have hfz118_0 := blk_frozen BK377.out 0; have hfz118_1 := blk_frozen BK377.out 1; have hcy0_ : wc.cell? ⟨gb378, 0, none⟩ = some (.int .u64 x379000_16) := (blk_cell BK378.out 0).trans rfl; have hcy1_ : wc.cell? ⟨gb378, 1, none⟩ = some (.int .u8 x379001_78) := (blk_cell BK378.out 1).trans rfl; have hfy0_ := blk_frozen BK378.out 0; have hfy1_ := blk_frozen BK378.out 1))
      refine bodyPost_ret (results_cell_row rfl _ _ gb377 29 #[.int .u64 t396, .int .u8 x379001_78] (0, 0) _ rfl (by (with_reducible repeat (first | refine blk_drewN ?_ _ | refine blk_drew ?_ | refine blk_alloc ?_ _)); refine blk_put (cs := #[.int .u64 t396, .int .u8 0]) ?_ 1 _ rfl; refine blk_put (cs := #[.int .u64 0, .int .u8 0]) ?_ 0 _ rfl; refine blk_far ?_ NB377_378.out _; exact BK377.out) Tryd.underlying29 rfl (by kernel_rfl)) rfl ?_
      exact ⟨by first | rfl | (simp [errW_none, errW_some] <;> rfl) | (simp only [← hji16]; first | rfl | (simp [errW_none, errW_some] <;> rfl)) | (simp [*, errW_none, errW_some] <;> rfl), zs⟩
     replace c111 := Bool.eq_false_iff.mpr c111
     subst c111
     rw [if_neg (show ¬ (false = true) by decide)] at H
     simp only [Option.some.injEq, Prod.mk.injEq] at H
     obtain ⟨rfl, rfl⟩ := H
     have hnb119 := NB378_376.out
     have hnc119 := NB376_378.out
     have hnb120 := NB378_377.out
     have hnc120 := NB377_378.out
     have hcz121_0 : wc.cell? ⟨gb378, 0, none⟩ = some (.int .u64 x379000_16) := (blk_cell BK378.out 0).trans rfl
     have hcz121_1 : wc.cell? ⟨gb378, 1, none⟩ = some (.int .u8 x379001_78) := (blk_cell BK378.out 1).trans rfl
     have hfz121_0 := blk_frozen BK378.out 0
     have hfz121_1 := blk_frozen BK378.out 1
     have hnb122 := NB376_377.out
     have hnc122 := NB377_376.out
     obtain ⟨_, _, _, _, _, _⟩ := zc BK376
     have hcz124_0 : wc.cell? ⟨gb377, 0, none⟩ = some (.int .u64 0) := (blk_cell BK377.out 0).trans rfl
     have hcz124_1 : wc.cell? ⟨gb377, 1, none⟩ = some (.int .u8 0) := (blk_cell BK377.out 1).trans rfl
     have hfz124_0 := blk_frozen BK377.out 0
     have hfz124_1 := blk_frozen BK377.out 1
     go_wp2
     refine bodyPost_ret (results_cell_row rfl _ _ gb377 29 #[.int .u64 x379000_16, .int .u8 x379001_78] (0, 0) _ rfl (by (with_reducible repeat (first | refine blk_drewN ?_ _ | refine blk_drew ?_ | refine blk_alloc ?_ _)); refine blk_put (cs := #[.int .u64 x379000_16, .int .u8 0]) ?_ 1 _ rfl; refine blk_put (cs := #[.int .u64 0, .int .u8 0]) ?_ 0 _ rfl; exact BK377.out) Tryd.underlying29 rfl (by kernel_rfl)) rfl ?_
     exact ⟨by first | rfl | (simp [errW_none, errW_some] <;> rfl) | (simp only [← hji16]; first | rfl | (simp [errW_none, errW_some] <;> rfl)) | (simp [*, errW_none, errW_some] <;> rfl), zs⟩
end Go.Proofs.YtnjfckadjklmfaaDoor.PAll
