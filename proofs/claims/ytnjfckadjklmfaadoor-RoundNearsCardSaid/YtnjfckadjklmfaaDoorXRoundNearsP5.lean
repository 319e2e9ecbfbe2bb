/- Printed functions, merged by a program of this session. -/
import Derived.Test.YtnjfckadjklmfaaDoorXRoundNearsP0
import Derived.Test.YtnjfckadjklmfaaDoorXRoundNearsP1
import Derived.Test.YtnjfckadjklmfaaDoorXRoundNearsP4
import Derived.Test.YtnjfckadjklmfaaDoorXRoundNearsSh
namespace Go.Proofs.YtnjfckadjklmfaaDoor.PAll
open Go.RowKit Go.Proofs.YtnjfckadjklmfaaDoorW.PrintWords Go.Proofs.YtnjfckadjklmfaaDoorW.PrintLast Go.Proofs.YtnjfckadjklmfaaDoorW.PrintMore Go.Proofs.YtnjfckadjklmfaaDoorW.PrintWords.Kd
attribute [local go_sem] max2_int min2_int max_two min_two max_three min_three max_four min_four   -- for this text's walks alone
set_option linter.unusedVariables false
set_option linter.unusedSimpArgs false
attribute [local go_sem] fld75_0 fld75_1 fld75_2 ext118 ext119
def round_amount_nearest.j0 : Nat → Int → Int → Bool → Option (Int × Bool)
 | 0, _, _, _ => none
 | k + 1, x5, x6, x7 => if x6 < 4503599627370496 then (some (x6, x7)) else (if x5 > 971 then (some (9218868437227405312, true)) else (some (IntKind.u64.wrap ((IntKind.u64.wrap ((IntKind.u64.wrap ((IntKind.u64.wrap (wrap64 (x5 + 1075))) * 4503599627370496)) + x6)) - 4503599627370496), x7)))
def round_amount_nearest.f (k : Nat) (l0_0 : List Int) (a0_1 : Int) : Option (Int × Bool) := (round_amount_top.f k l0_0 a0_1).bind fun t241 => ((round_amount_zero.f l0_0 a0_1).bind fun t242 => (if t242 = true then (some (0, false)) else (if t241 > 1024 then (some (9218868437227405312, true)) else (if t241 < (-1074) then (some (0, true)) else ((round_amount_at.f k l0_0 a0_1 (mx (wrap64 (t241 - 53)) (-1074))).bind fun bt243 => (if bt243.1 = 9007199254740992 then (round_amount_nearest.j0 k (wrap64 ((mx (wrap64 (t241 - 53)) (-1074)) + 1)) (bt243.1 / 2) bt243.2) else (round_amount_nearest.j0 k (mx (wrap64 (t241 - 53)) (-1074)) bt243.1 bt243.2)))))))
theorem round_amount_nearest.mono_l : ∀ k, (∀ y0 y1 y2, LeO (round_amount_nearest.j0 k y0 y1 y2) (round_amount_nearest.j0 (k + 1) y0 y1 y2))
 | 0 => fun _ _ _ r h => by simp [round_amount_nearest.j0] at h
 | k + 1 => by
  have ih0 := round_amount_nearest.mono_l k
  intro y0 y1 y2
  unfold round_amount_nearest.j0
  repeat' first
  | (with_reducible exact ih0 _ _ _)
  | (with_reducible exact round_amount_at.mono _ _ _ _)
  | (with_reducible exact round_amount_top.mono _ _ _)
  | (with_reducible exact LeO.refl _)
  | (with_reducible exact LeO.none _)
  | (with_reducible refine LeO.ite ?_ ?_)
  | (with_reducible refine LeO.bind ?_ (fun _ => ?_))
  | exact ih0 _ _ _
  | exact round_amount_at.mono _ _ _ _
  | exact round_amount_top.mono _ _ _
  | exact LeO.none _
  | refine LeO.ite ?_ ?_
  | refine LeO.bind ?_ (fun _ => ?_)
theorem round_amount_nearest.mono : ∀ a0 a1 k, LeO (round_amount_nearest.f k a0 a1) (round_amount_nearest.f (k + 1) a0 a1) := by
 intro a0 a1 k
 have ih0 := round_amount_nearest.mono_l k
 unfold round_amount_nearest.f
 repeat' first
   | (with_reducible exact ih0 _ _ _)
   | (with_reducible exact round_amount_at.mono _ _ _ _)
   | (with_reducible exact round_amount_top.mono _ _ _)
   | (with_reducible exact LeO.refl _)
   | (with_reducible exact LeO.none _)
   | (with_reducible refine LeO.ite ?_ ?_)
   | (with_reducible refine LeO.bind ?_ (fun _ => ?_))
   | exact ih0 _ _ _
   | exact round_amount_at.mono _ _ _ _
   | exact round_amount_top.mono _ _ _
   | exact LeO.none _
   | refine LeO.ite ?_ ?_
   | refine LeO.bind ?_ (fun _ => ?_)
set_option maxHeartbeats 8000000 in
set_option maxRecDepth 100000 in
theorem round_amount_nearest.calls (k : Nat) (A0_0 : Option Addr) (c0_0 : Nat) (l0_0 : List Int) (a0_1 : Int) (r1 : Int) (r2 : Bool) (w : World) (hr0_0 : Kd.C (Kd.int .u64) w A0_0 l0_0.length l0_0) (hc0_0 : l0_0.length ≤ c0_0) (hT : Laid w) (h : round_amount_nearest.f k l0_0 a0_1 = some (r1, r2)) :
  Calls Tryd.prog 68 #[.agg #[.slice A0_0 l0_0.length c0_0, .int .i64 a0_1]] w fun e w' => e = .returned (.tuple #[.int .u64 r1, .bool r2]) ∧ Below w.heap.size w w' := by
 have hu64 := Tryd.underlying64
 have HR0_0 := zA hr0_0
 have HC0_0 := zA hc0_0
 clear hr0_0 hc0_0
 have HB := zA (Below.refl w.heap.size w)
 have H : ((round_amount_top.f k l0_0 a0_1).bind fun t241 => ((round_amount_zero.f l0_0 a0_1).bind fun t242 => (if t242 = true then (some (0, false)) else (if t241 > 1024 then (some (9218868437227405312, true)) else (if t241 < (-1074) then (some (0, true)) else ((round_amount_at.f k l0_0 a0_1 (mx (wrap64 (t241 - 53)) (-1074))).bind fun bt243 => (if bt243.1 = 9007199254740992 then (round_amount_nearest.j0 k (wrap64 ((mx (wrap64 (t241 - 53)) (-1074)) + 1)) (bt243.1 / 2) bt243.2) else (round_amount_nearest.j0 k (mx (wrap64 (t241 - 53)) (-1074)) bt243.1 bt243.2)))))))) = some (r1, r2) := h
 clear h
 obtain ⟨t241, A2, H⟩ := zh H
 obtain ⟨t242, A3, H⟩ := zh H
 by_cases c4 : t242 = true
 ·subst c4
  rw [if_pos rfl] at H
  simp only [Option.some.injEq, Prod.mk.injEq] at H
  obtain ⟨rfl, rfl⟩ := H
  go_enter Tryd.func68, Tryd.ntmps68
  go_wp2_with (first | ((with_reducible refine zD 1 rfl ?_); refine zn (N := 1) (cs := #[.slice A0_0 l0_0.length c0_0, .int .i64 a0_1]) (t := 64) rfl rfl ?_; intro gb240 hg w5 hbox hb; have BK240 := zA (hbox); have GW240 := zw hg; replace HB := ze hb; clear hb hbox hg; have hcz6_0 : w5.cell? ⟨gb240, 0, none⟩ = some (.slice A0_0 l0_0.length c0_0) := (blk_cell BK240.out 0).trans rfl; have hcz6_1 : w5.cell? ⟨gb240, 1, none⟩ = some (.int .i64 a0_1) := (blk_cell BK240.out 1).trans rfl; have hfz6_0 := blk_frozen BK240.out 0; have hfz6_1 := blk_frozen BK240.out 1) | ((with_reducible refine zG 76 rfl ?_); refine zL (some 9) rfl rfl Tryd.func76 #[.agg #[.slice A0_0 l0_0.length c0_0, .int .i64 a0_1]] rfl ?_; (with_reducible refine (round_amount_top.calls k _ _ l0_0 a0_1 t241 _ ?side1 ?side2 A2.out).mono ?_); (case side1 => exact zk (C_below HR0_0.out HB.out)); (case side2 => exact HC0_0.out); rintro e w7 ⟨rfl, hb⟩; refine ⟨_, rfl, ?_⟩; replace BK240 := zb BK240 hb; replace HB := zf hb; have hcz8_0 : w7.cell? ⟨gb240, 0, none⟩ = some (.slice A0_0 l0_0.length c0_0) := (blk_cell BK240.out 0).trans rfl; have hcz8_1 : w7.cell? ⟨gb240, 1, none⟩ = some (.int .i64 a0_1) := (blk_cell BK240.out 1).trans rfl; have hfz8_0 := blk_frozen BK240.out 0; have hfz8_1 := blk_frozen BK240.out 1) | ((with_reducible refine zG 50 rfl ?_); refine zL (some 12) rfl rfl Tryd.func50 #[.agg #[.slice A0_0 l0_0.length c0_0, .int .i64 a0_1]] rfl ?_; (with_reducible refine (round_amount_zero.calls _ _ l0_0 a0_1 true _ ?side1 ?side2 A3.out).mono ?_); (case side1 => exact zk (C_below HR0_0.out HB.out)); (case side2 => exact HC0_0.out); rintro e w9 ⟨rfl, hb⟩; refine ⟨_, rfl, ?_⟩; replace BK240 := zb BK240 hb; replace HB := zf hb))
  go_ret2
  exact ⟨er, zs⟩
 replace c4 := Bool.eq_false_iff.mpr c4
 subst c4
 rw [if_neg (show ¬ (false = true) by decide)] at H
 by_cases c10 : t241 > 1024
 ·rw [if_pos c10] at H
  have c10b0 := decide_eq_true c10
  clear c10
  simp only [Option.some.injEq, Prod.mk.injEq] at H
  obtain ⟨rfl, rfl⟩ := H
  go_enter Tryd.func68, Tryd.ntmps68
  go_wp2_with (first | ((with_reducible refine zD 1 rfl ?_); refine zn (N := 1) (cs := #[.slice A0_0 l0_0.length c0_0, .int .i64 a0_1]) (t := 64) rfl rfl ?_; intro gb240 hg w11 hbox hb; have BK240 := zA (hbox); have GW240 := zw hg; replace HB := ze hb; clear hb hbox hg; have hcz12_0 : w11.cell? ⟨gb240, 0, none⟩ = some (.slice A0_0 l0_0.length c0_0) := (blk_cell BK240.out 0).trans rfl; have hcz12_1 : w11.cell? ⟨gb240, 1, none⟩ = some (.int .i64 a0_1) := (blk_cell BK240.out 1).trans rfl; have hfz12_0 := blk_frozen BK240.out 0; have hfz12_1 := blk_frozen BK240.out 1) | ((with_reducible refine zG 76 rfl ?_); refine zL (some 9) rfl rfl Tryd.func76 #[.agg #[.slice A0_0 l0_0.length c0_0, .int .i64 a0_1]] rfl ?_; (with_reducible refine (round_amount_top.calls k _ _ l0_0 a0_1 t241 _ ?side1 ?side2 A2.out).mono ?_); (case side1 => exact zk (C_below HR0_0.out HB.out)); (case side2 => exact HC0_0.out); rintro e w13 ⟨rfl, hb⟩; refine ⟨_, rfl, ?_⟩; replace BK240 := zb BK240 hb; replace HB := zf hb; have hcz14_0 : w13.cell? ⟨gb240, 0, none⟩ = some (.slice A0_0 l0_0.length c0_0) := (blk_cell BK240.out 0).trans rfl; have hcz14_1 : w13.cell? ⟨gb240, 1, none⟩ = some (.int .i64 a0_1) := (blk_cell BK240.out 1).trans rfl; have hfz14_0 := blk_frozen BK240.out 0; have hfz14_1 := blk_frozen BK240.out 1) | ((with_reducible refine zG 50 rfl ?_); refine zL (some 12) rfl rfl Tryd.func50 #[.agg #[.slice A0_0 l0_0.length c0_0, .int .i64 a0_1]] rfl ?_; (with_reducible refine (round_amount_zero.calls _ _ l0_0 a0_1 false _ ?side1 ?side2 A3.out).mono ?_); (case side1 => exact zk (C_below HR0_0.out HB.out)); (case side2 => exact HC0_0.out); rintro e w15 ⟨rfl, hb⟩; refine ⟨_, rfl, ?_⟩; replace BK240 := zb BK240 hb; replace HB := zf hb))
  go_ret2
  exact ⟨er, zs⟩
 rw [if_neg c10] at H
 have c10b0 := decide_eq_false c10
 clear c10
 by_cases c16 : t241 < (-1074)
 ·rw [if_pos c16] at H
  have c16b0 := decide_eq_true c16
  clear c16
  simp only [Option.some.injEq, Prod.mk.injEq] at H
  obtain ⟨rfl, rfl⟩ := H
  go_enter Tryd.func68, Tryd.ntmps68
  go_wp2_with (first | ((with_reducible refine zD 1 rfl ?_); refine zn (N := 1) (cs := #[.slice A0_0 l0_0.length c0_0, .int .i64 a0_1]) (t := 64) rfl rfl ?_; intro gb240 hg w17 hbox hb; have BK240 := zA (hbox); have GW240 := zw hg; replace HB := ze hb; clear hb hbox hg; have hcz18_0 : w17.cell? ⟨gb240, 0, none⟩ = some (.slice A0_0 l0_0.length c0_0) := (blk_cell BK240.out 0).trans rfl; have hcz18_1 : w17.cell? ⟨gb240, 1, none⟩ = some (.int .i64 a0_1) := (blk_cell BK240.out 1).trans rfl; have hfz18_0 := blk_frozen BK240.out 0; have hfz18_1 := blk_frozen BK240.out 1) | ((with_reducible refine zG 76 rfl ?_); refine zL (some 9) rfl rfl Tryd.func76 #[.agg #[.slice A0_0 l0_0.length c0_0, .int .i64 a0_1]] rfl ?_; (with_reducible refine (round_amount_top.calls k _ _ l0_0 a0_1 t241 _ ?side1 ?side2 A2.out).mono ?_); (case side1 => exact zk (C_below HR0_0.out HB.out)); (case side2 => exact HC0_0.out); rintro e w19 ⟨rfl, hb⟩; refine ⟨_, rfl, ?_⟩; replace BK240 := zb BK240 hb; replace HB := zf hb; have hcz20_0 : w19.cell? ⟨gb240, 0, none⟩ = some (.slice A0_0 l0_0.length c0_0) := (blk_cell BK240.out 0).trans rfl; have hcz20_1 : w19.cell? ⟨gb240, 1, none⟩ = some (.int .i64 a0_1) := (blk_cell BK240.out 1).trans rfl; have hfz20_0 := blk_frozen BK240.out 0; have hfz20_1 := blk_frozen BK240.out 1) | ((with_reducible refine zG 50 rfl ?_); refine zL (some 12) rfl rfl Tryd.func50 #[.agg #[.slice A0_0 l0_0.length c0_0, .int .i64 a0_1]] rfl ?_; (with_reducible refine (round_amount_zero.calls _ _ l0_0 a0_1 false _ ?side1 ?side2 A3.out).mono ?_); (case side1 => exact zk (C_below HR0_0.out HB.out)); (case side2 => exact HC0_0.out); rintro e w21 ⟨rfl, hb⟩; refine ⟨_, rfl, ?_⟩; replace BK240 := zb BK240 hb; replace HB := zf hb))
  go_ret2
  exact ⟨er, zs⟩
 rw [if_neg c16] at H
 have c16b0 := decide_eq_false c16
 clear c16
 obtain ⟨ji22, hji22⟩ : ∃ j_ : Int, (mx (wrap64 (t241 - 53)) (-1074)) = j_ := ⟨_, rfl⟩
 replace H : ((round_amount_at.f k l0_0 a0_1 (ji22)).bind fun bt243 => (if bt243.1 = 9007199254740992 then (round_amount_nearest.j0 k (wrap64 ((ji22) + 1)) (bt243.1 / 2) bt243.2) else (round_amount_nearest.j0 k ji22 bt243.1 bt243.2))) = some (r1, r2) := zQ hji22 H
 (try rw [hji22] at A2)
 (try rw [hji22] at A3)
 have hji22_ : (if (wrap64 (t241 - 53)) < (-1074) then (-1074) else (wrap64 (t241 - 53))) = ji22 := hji22
 obtain ⟨⟨t243, t244⟩, A23, H⟩ := zh H
 (try dsimp only at H)
 have HC24 := zA H
 clear H
 go_enter Tryd.func68, Tryd.ntmps68
 go_upto_if 29 with (first | ((with_reducible refine zD 1 rfl ?_); refine zn (N := 1) (cs := #[.slice A0_0 l0_0.length c0_0, .int .i64 a0_1]) (t := 64) rfl rfl ?_; intro gb240 hg w25 hbox hb; have BK240 := zA (hbox); have GW240 := zw hg; replace HB := ze hb; clear hb hbox hg; have hcz26_0 : w25.cell? ⟨gb240, 0, none⟩ = some (.slice A0_0 l0_0.length c0_0) := (blk_cell BK240.out 0).trans rfl; have hcz26_1 : w25.cell? ⟨gb240, 1, none⟩ = some (.int .i64 a0_1) := (blk_cell BK240.out 1).trans rfl; have hfz26_0 := blk_frozen BK240.out 0; have hfz26_1 := blk_frozen BK240.out 1) | ((with_reducible refine zG 76 rfl ?_); refine zL (some 9) rfl rfl Tryd.func76 #[.agg #[.slice A0_0 l0_0.length c0_0, .int .i64 a0_1]] rfl ?_; (with_reducible refine (round_amount_top.calls k _ _ l0_0 a0_1 t241 _ ?side1 ?side2 A2.out).mono ?_); (case side1 => exact zk (C_below HR0_0.out HB.out)); (case side2 => exact HC0_0.out); rintro e w27 ⟨rfl, hb⟩; refine ⟨_, rfl, ?_⟩; replace BK240 := zb BK240 hb; replace HB := zf hb; have hcz28_0 : w27.cell? ⟨gb240, 0, none⟩ = some (.slice A0_0 l0_0.length c0_0) := (blk_cell BK240.out 0).trans rfl; have hcz28_1 : w27.cell? ⟨gb240, 1, none⟩ = some (.int .i64 a0_1) := (blk_cell BK240.out 1).trans rfl; have hfz28_0 := blk_frozen BK240.out 0; have hfz28_1 := blk_frozen BK240.out 1) | ((with_reducible refine zG 50 rfl ?_); refine zL (some 12) rfl rfl Tryd.func50 #[.agg #[.slice A0_0 l0_0.length c0_0, .int .i64 a0_1]] rfl ?_; (with_reducible refine (round_amount_zero.calls _ _ l0_0 a0_1 false _ ?side1 ?side2 A3.out).mono ?_); (case side1 => exact zk (C_below HR0_0.out HB.out)); (case side2 => exact HC0_0.out); rintro e w29 ⟨rfl, hb⟩; refine ⟨_, rfl, ?_⟩; replace BK240 := zb BK240 hb; replace HB := zf hb; have hcz30_0 : w29.cell? ⟨gb240, 0, none⟩ = some (.slice A0_0 l0_0.length c0_0) := (blk_cell BK240.out 0).trans rfl; have hcz30_1 : w29.cell? ⟨gb240, 1, none⟩ = some (.int .i64 a0_1) := (blk_cell BK240.out 1).trans rfl; have hfz30_0 := blk_frozen BK240.out 0; have hfz30_1 := blk_frozen BK240.out 1) | ((with_reducible refine zG 77 rfl ?_); refine goesL_ (some 25) rfl rfl Tryd.func77 (by kernel_rfl) rfl #[.agg #[.slice A0_0 l0_0.length c0_0, .int .i64 a0_1], .int .i64 ji22] rfl (by (try simp only [List.map_toArray, List.map_cons, List.map_nil]); first | done | (simp only [hji22]; rfl) | rfl | (simp only [List.length_drop, List.length_take]; rfl)) ?_; (with_reducible refine (round_amount_at.calls k _ _ l0_0 a0_1 ji22 t243 t244 _ ?side1 ?side2 (laid_below hT zs) A23.out).mono ?_); (case side1 => exact zk (C_below HR0_0.out HB.out)); (case side2 => exact HC0_0.out); rintro e w31 ⟨rfl, hb⟩; refine ⟨_, rfl, ?_⟩; replace BK240 := zb BK240 hb; replace HB := zf hb))
 (try simp only [Act.put, List.setIfInBounds_toArray, List.set_cons_zero, List.set_cons_succ])
 go_cut [5, 6] (fun v5 v6 wc => ∃ (kq : Nat) (x5_23 : Int) (x6_23 : Int), v5 = .int .i64 x5_23 ∧ v6 = .int .u64 x6_23 ∧ Aside0 (round_amount_nearest.j0 kq x5_23 x6_23 t244 = some (r1, r2)) ∧ Aside0 (kq ≤ k) ∧ Aside0 (wc.heap[gb240]? = some (.cells #[(.slice A0_0 l0_0.length c0_0), .int .i64 a0_1] 64 (0, 0))) ∧ Aside0 (Below w.heap.size w wc))
 case first =>
  have H := HC24.out
  clear HC24
  by_cases c32 : t243 = 9007199254740992
  ·rw [if_pos c32] at H
   have c32b0 := beq_iff_eq.mpr c32
   have c32b1 := bne_eq_false_iff_eq.mpr c32
   clear c32
   (first | rw [c32b0] | (simp only [i64_w, i32_w]; rw [c32b0]) | skip)
   have H' := zA H
   clear H
   go_wp2
   go_meet
   case rel => exact ⟨_, (wrap64 ((ji22) + 1)), (t243 / 2), (by first | rfl | (simp; done) | (simp only [← hji22] <;> (first | rfl | simp)) | (simp [*]; done)), zi, (by first | exact H' | (simp only [hji22]; exact H') | (simp only [hji22] at H' ⊢; exact H')), ⟨by first | omega | exact Nat.le_refl _⟩, ⟨zu BK240⟩, ⟨zs⟩⟩
  rw [if_neg c32] at H
  have c32b0 := beq_eq_false_iff_ne.mpr c32
  have c32b1 := bne_iff_ne.mpr c32
  (first | rw [c32b0] | (simp only [i64_w, i32_w]; rw [c32b0]) | skip)
  have H' := zA H
  clear H
  go_wp2
  go_meet
  case rel => exact ⟨_, (ji22), (t243), (by first | rfl | (simp; done) | (simp only [← hji22] <;> (first | rfl | simp)) | (simp [*]; done)), zi, (by first | exact H' | (simp only [hji22]; exact H') | (simp only [hji22] at H' ⊢; exact H')), ⟨by first | omega | exact Nat.le_refl _⟩, ⟨zu BK240⟩, ⟨zs⟩⟩
 case rest =>
  clear HC24
  try clear c4
  try clear c10
  try clear c10b0
  try clear c16
  try clear c16b0
  try clear c32
  try clear c32b0
  try clear c32b1
  try clear hcz12_0 hcz12_1 hfz12_0 hfz12_1
  try clear hcz14_0 hcz14_1 hfz14_0 hfz14_1
  try clear hcz18_0 hcz18_1 hfz18_0 hfz18_1
  try clear hcz20_0 hcz20_1 hfz20_0 hfz20_1
  try clear hcz26_0 hcz26_1 hfz26_0 hfz26_1
  try clear hcz28_0 hcz28_1 hfz28_0 hfz28_1
  try clear hcz30_0 hcz30_1 hfz30_0 hfz30_1
  try clear hcz6_0 hcz6_1 hfz6_0 hfz6_1
  try clear hcz8_0 hcz8_1 hfz8_0 hfz8_1
  obtain ⟨kq, x5_23, x6_23, rfl, rfl, HA, HJ23, BK240, HB⟩ := hcut
  cases kq with
  | zero => exact absurd HA.out (by simp [round_amount_nearest.j0])
  | succ kj23 =>
   have H := HA.out
   clear HA
   simp only [round_amount_nearest.j0] at H
   by_cases c33 : x6_23 < 4503599627370496
   ·rw [if_pos c33] at H
    have c33b0 := decide_eq_true c33
    clear c33
    simp only [Option.some.injEq, Prod.mk.injEq] at H
    obtain ⟨rfl, rfl⟩ := H
    go_wp2
    go_ret2
    exact ⟨by first | rfl | (simp [errW_none, errW_some] <;> rfl) | (simp only [← hji22]; first | rfl | (simp [errW_none, errW_some] <;> rfl)) | (simp [*, errW_none, errW_some] <;> rfl), zs⟩
   rw [if_neg c33] at H
   have c33b0 := decide_eq_false c33
   clear c33
   by_cases c34 : x5_23 > 971
   ·rw [if_pos c34] at H
    have c34b0 := decide_eq_true c34
    clear c34
    simp only [Option.some.injEq, Prod.mk.injEq] at H
    obtain ⟨rfl, rfl⟩ := H
    go_wp2
    go_ret2
    exact ⟨by first | rfl | (simp [errW_none, errW_some] <;> rfl) | (simp only [← hji22]; first | rfl | (simp [errW_none, errW_some] <;> rfl)) | (simp [*, errW_none, errW_some] <;> rfl), zs⟩
   rw [if_neg c34] at H
   have c34b0 := decide_eq_false c34
   clear c34
   simp only [Option.some.injEq, Prod.mk.injEq] at H
   obtain ⟨rfl, rfl⟩ := H
   go_wp2
   go_ret2
   exact ⟨by first | rfl | (simp [errW_none, errW_some] <;> rfl) | (simp only [← hji22]; first | rfl | (simp [errW_none, errW_some] <;> rfl)) | (simp [*, errW_none, errW_some] <;> rfl), zs⟩
end Go.Proofs.YtnjfckadjklmfaaDoor.PAll
