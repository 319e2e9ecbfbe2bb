/- Printed functions, merged by a program of this session. -/
import Derived.Test.YtnjfckadjklmfaaDoorXRoundNearsP0
import Derived.Test.YtnjfckadjklmfaaDoorXRoundNearsP6
import Derived.Test.YtnjfckadjklmfaaDoorXRoundNearsP19
import Derived.Test.YtnjfckadjklmfaaDoorXRoundNearsP12
import Derived.Test.YtnjfckadjklmfaaDoorXRoundNearsP18
import Derived.Test.YtnjfckadjklmfaaDoorXRoundNearsSh
namespace Go.Proofs.YtnjfckadjklmfaaDoor.PAll
open Go.RowKit Go.Proofs.YtnjfckadjklmfaaDoorW.PrintWords Go.Proofs.YtnjfckadjklmfaaDoorW.PrintLast Go.Proofs.YtnjfckadjklmfaaDoorW.PrintMore Go.Proofs.YtnjfckadjklmfaaDoorW.PrintWords.Kd
attribute [local go_sem] max2_int min2_int max_two min_two max_three min_three max_four min_four   -- for this text's walks alone
set_option linter.unusedVariables false
set_option linter.unusedSimpArgs false
attribute [local go_sem] fld75_0 fld75_1 fld75_2 ext118 ext119
def ulplaw05_power.f (a0 : Int) : Option (Bool × List Int × Int) := some (false, (([1] : List Int)), a0)
set_option maxHeartbeats 8000000 in
set_option maxRecDepth 100000 in
theorem ulplaw05_power.calls (a0 : Int) (r1 : Bool) (r2 : List Int) (r3 : Int) (w : World) (h : ulplaw05_power.f a0 = some (r1, r2, r3)) :
  Calls Tryd.prog 30 #[.int .i64 a0] w fun e w' => ∃ v1_ : Value, e = .returned (.agg #[.bool r1, v1_, .int .i64 r3]) ∧ Kd.R (Kd.int .u64) 26 w' w.heap.size (fun _ => True) v1_ r2 ∧ Below w.heap.size w w' := by
 have hu25 := Tryd.underlying25
 have HB := zA (Below.refl w.heap.size w)
 have H : (some (false, (([1] : List Int)), a0)) = some (r1, r2, r3) := h
 clear h
 obtain ⟨y553, hy553⟩ : ∃ y_ : List Int, y_ = (([1] : List Int)) := ⟨_, rfl⟩
 replace H : (some (false, y553, a0)) = some (r1, r2, r3) := zR hy553 H
 have Ny553 := zA hy553
 clear hy553
 simp only [Option.some.injEq, Prod.mk.injEq] at H
 obtain ⟨rfl, rfl, rfl⟩ := H
 go_enter Tryd.func30, Tryd.ntmps30
 go_wp2_with (first | ((with_reducible refine zD 2 rfl ?_); refine zn (N := 2) (cs := #[.bool false, .slice none 0 0, .int .i64 0]) (t := 25) rfl rfl ?_; intro gb552 hg w2 hbox hb; have BK552 := zA (hbox); have GW552 := zw hg; replace HB := ze hb; clear hb hbox hg) | ((with_reducible refine zD 3 rfl ?_); refine R_lit (Kd.int .u64) _ 26 ?hg (N := 3) ?hd (xs := ([1] : List Int)) (inner := [.int .u64 1]) (ok := fun _ => True) (okp := fun _ => True) ?hr ?hp (fun _ hk => hk) trivial (Below.refl _ _) (Nat.le_refl _) (by simp) ?_; (case hd => rfl); (case hg => rfl); (case hr => first | (go_simp; done) | (go_simp; rfl)); (case hp => exact (Reps.one (show Kd.M (Kd.int .u64) _ _ _ 1 [.int .u64 1] from rfl) (Reps.none _ _))); intro v554 w3 ho4 hb hg_ hnew_; clear hg_ hnew_; (first | rw [← Ny553.out] at ho4 | (simp only [Int.reduceToNat] at ho4; rw [← Ny553.out] at ho4)); have HO555 := zA (R_lower ho4 (below_size zs)); replace BK552 := zb BK552 hb; replace HB := zf hb; clear hb ho4; obtain ⟨Ao5, co5, eo5⟩ := R_slice HO555.out; subst eo5; obtain ⟨_, _, _, _, _, _⟩ := zc BK552))
 refine bodyPost_ret (results_cell_row rfl _ _ gb552 25 #[.bool false, .slice Ao5 y553.length co5, .int .i64 a0] (0, 0) _ rfl (zy BK552) Tryd.underlying25 rfl (by kernel_rfl)) rfl ?_
 exact ⟨_, er, ru (R_mono (zr gb552 (R_types HO555.out BK552.out (by decide)) (fun _ hk => hk.2) _ _ _) (fun _ hk => trivial)), zs⟩
attribute [local go_sem high] eqA29
def ulplaw05_lives.f (k : Nat)  : Option (Bool) := (ulplaw05_power.f (-1075)).bind fun bt556 => ((round_Near.f k bt556.1 bt556.2.1 bt556.2.2).bind fun bt561 => ((ulplaw05_power.f 1024).bind fun bt565 => ((round_Near.f k bt565.1 bt565.2.1 bt565.2.2).bind fun bt570 => ((round_Near.f k false (([3] : List Int)) (-1)).bind fun bt577 => ((round_Decide.f k false (([1152921504606846977] : List Int)) (-60) false (([36028797018963969] : List Int)) (-55)).bind fun bt587 => (if bt561.2.2 = 0 then (if (bt561.1 == 0 && (bt561.2.1 == 24)) = true then (if bt570.2.2 = 0 then (if (bt570.1 == 9218868437227405312 && (bt570.2.1 == 20)) = true then (if bt577.2.2 = 0 then (if (bt577.1 == 4609434218613702656 && (bt577.2.1 == 0)) = true then (if bt587.2.2.1 = true then (if bt587.2.2.2 = 0 then (some (bt587.1 == 4607182418800017408 && (bt587.2.1 == 16))) else (some false)) else (some false)) else (some false)) else (some false)) else (some false)) else (some false)) else (some false)) else (some false)))))))
theorem ulplaw05_lives.mono : ∀ k, LeO (ulplaw05_lives.f k ) (ulplaw05_lives.f (k + 1) ) := by
 intro  k
 unfold ulplaw05_lives.f
 repeat' first
   | (with_reducible exact round_Decide.mono _ _ _ _ _ _ _)
   | (with_reducible exact round_Near.mono _ _ _ _)
   | (with_reducible exact LeO.refl _)
   | (with_reducible exact LeO.none _)
   | (with_reducible refine LeO.ite ?_ ?_)
   | (with_reducible refine LeO.bind ?_ (fun _ => ?_))
   | exact round_Decide.mono _ _ _ _ _ _ _
   | exact round_Near.mono _ _ _ _
   | exact LeO.none _
   | refine LeO.ite ?_ ?_
   | refine LeO.bind ?_ (fun _ => ?_)
theorem ulplaw05_lives.true_ (k : Nat) (r : Bool) (h : ulplaw05_lives.f k = some r) : r = true := by
 have e : ulplaw05_lives.f 3000 = some true := by decide +kernel
 have a := at_rounds ulplaw05_lives.mono (Nat.le_max_left k 3000) h
 have b := at_rounds ulplaw05_lives.mono (Nat.le_max_right k 3000) e
 exact Option.some.inj (a.symm.trans b)
set_option maxHeartbeats 8000000 in
set_option maxRecDepth 100000 in
theorem ulplaw05_lives.calls (k : Nat)  (r : Bool) (w : World) (hT : Laid w) (hr_ : Aside0 (r = true)) (h : ulplaw05_lives.f k  = some r) :
  Calls Tryd.prog 12 #[] w fun e w' => e = .returned (.bool r) ∧ Below w.heap.size w w' := by
 have hu29 := Tryd.underlying29
 have hu25 := Tryd.underlying25
 have hu49 := Tryd.underlying49
 have HB := zA (Below.refl w.heap.size w)
 have H : ((ulplaw05_power.f (-1075)).bind fun bt556 => ((round_Near.f k bt556.1 bt556.2.1 bt556.2.2).bind fun bt561 => ((ulplaw05_power.f 1024).bind fun bt565 => ((round_Near.f k bt565.1 bt565.2.1 bt565.2.2).bind fun bt570 => ((round_Near.f k false (([3] : List Int)) (-1)).bind fun bt577 => ((round_Decide.f k false (([1152921504606846977] : List Int)) (-60) false (([36028797018963969] : List Int)) (-55)).bind fun bt587 => (if bt561.2.2 = 0 then (if (bt561.1 == 0 && (bt561.2.1 == 24)) = true then (if bt570.2.2 = 0 then (if (bt570.1 == 9218868437227405312 && (bt570.2.1 == 20)) = true then (if bt577.2.2 = 0 then (if (bt577.1 == 4609434218613702656 && (bt577.2.1 == 0)) = true then (if bt587.2.2.1 = true then (if bt587.2.2.2 = 0 then (some (bt587.1 == 4607182418800017408 && (bt587.2.1 == 16))) else (some false)) else (some false)) else (some false)) else (some false)) else (some false)) else (some false)) else (some false)) else (some false)))))))) = some r := h
 clear h
 obtain ⟨⟨t556, t557, t560⟩, A1, H⟩ := zh H
 (try dsimp only at H)
 obtain ⟨⟨t561, t562, t563⟩, A2, H⟩ := zh H
 (try dsimp only at H)
 obtain ⟨⟨t565, t566, t569⟩, A3, H⟩ := zh H
 (try dsimp only at H)
 obtain ⟨⟨t570, t571, t572⟩, A4, H⟩ := zh H
 (try dsimp only at H)
 obtain ⟨y574, hy574⟩ : ∃ y_ : List Int, y_ = (([3] : List Int)) := ⟨_, rfl⟩
 replace H : ((round_Near.f k false y574 (-1)).bind fun bt577 => ((round_Decide.f k false (([1152921504606846977] : List Int)) (-60) false (([36028797018963969] : List Int)) (-55)).bind fun bt587 => (if t563 = 0 then (if (t561 == 0 && (t562 == 24)) = true then (if t572 = 0 then (if (t570 == 9218868437227405312 && (t571 == 20)) = true then (if bt577.2.2 = 0 then (if (bt577.1 == 4609434218613702656 && (bt577.2.1 == 0)) = true then (if bt587.2.2.1 = true then (if bt587.2.2.2 = 0 then (some (bt587.1 == 4607182418800017408 && (bt587.2.1 == 16))) else (some false)) else (some false)) else (some false)) else (some false)) else (some false)) else (some false)) else (some false)) else (some false)))) = some r := zR hy574 H
 have Ny574 := zA hy574
 clear hy574
 obtain ⟨⟨t577, t578, t579⟩, A5, H⟩ := zh H
 (try dsimp only at H)
 obtain ⟨y581, hy581⟩ : ∃ y_ : List Int, y_ = (([1152921504606846977] : List Int)) := ⟨_, rfl⟩
 replace H : ((round_Decide.f k false y581 (-60) false (([36028797018963969] : List Int)) (-55)).bind fun bt587 => (if t563 = 0 then (if (t561 == 0 && (t562 == 24)) = true then (if t572 = 0 then (if (t570 == 9218868437227405312 && (t571 == 20)) = true then (if t579 = 0 then (if (t577 == 4609434218613702656 && (t578 == 0)) = true then (if bt587.2.2.1 = true then (if bt587.2.2.2 = 0 then (some (bt587.1 == 4607182418800017408 && (bt587.2.1 == 16))) else (some false)) else (some false)) else (some false)) else (some false)) else (some false)) else (some false)) else (some false)) else (some false))) = some r := zR hy581 H
 have Ny581 := zA hy581
 clear hy581
 obtain ⟨y584, hy584⟩ : ∃ y_ : List Int, y_ = (([36028797018963969] : List Int)) := ⟨_, rfl⟩
 replace H : ((round_Decide.f k false y581 (-60) false y584 (-55)).bind fun bt587 => (if t563 = 0 then (if (t561 == 0 && (t562 == 24)) = true then (if t572 = 0 then (if (t570 == 9218868437227405312 && (t571 == 20)) = true then (if t579 = 0 then (if (t577 == 4609434218613702656 && (t578 == 0)) = true then (if bt587.2.2.1 = true then (if bt587.2.2.2 = 0 then (some (bt587.1 == 4607182418800017408 && (bt587.2.1 == 16))) else (some false)) else (some false)) else (some false)) else (some false)) else (some false)) else (some false)) else (some false)) else (some false))) = some r := zR hy584 H
 have Ny584 := zA hy584
 clear hy584
 obtain ⟨⟨t587, t588, t589, t590⟩, A6, H⟩ := zh H
 (try dsimp only at H)
 by_cases c7 : t563 = 0
 ·rw [if_pos c7] at H
  have c7b0 := beq_iff_eq.mpr c7
  have c7b1 := bne_eq_false_iff_eq.mpr c7
  clear c7
  by_cases c8 : (t561 == 0 && (t562 == 24)) = true
  ·rw [if_pos c8] at H
   have c8b0 : (t561 == 0 && (t562 == 24)) = true := c8
   (try (have c8b1 : decide (t561 = 0 && (t562 == 24)) = true := by simpa using c8))
   (try (have c8b2 : (t561 == 0 && (t562 == 24)) = true := by simpa using c8))
   clear c8
   by_cases c9 : t572 = 0
   ·rw [if_pos c9] at H
    have c9b0 := beq_iff_eq.mpr c9
    have c9b1 := bne_eq_false_iff_eq.mpr c9
    clear c9
    by_cases c10 : (t570 == 9218868437227405312 && (t571 == 20)) = true
    ·rw [if_pos c10] at H
     have c10b0 : (t570 == 9218868437227405312 && (t571 == 20)) = true := c10
     (try (have c10b1 : decide (t570 = 9218868437227405312 && (t571 == 20)) = true := by simpa using c10))
     (try (have c10b2 : (t570 == 9218868437227405312 && (t571 == 20)) = true := by simpa using c10))
     clear c10
     by_cases c11 : t579 = 0
     ·rw [if_pos c11] at H
      have c11b0 := beq_iff_eq.mpr c11
      have c11b1 := bne_eq_false_iff_eq.mpr c11
      clear c11
      by_cases c12 : (t577 == 4609434218613702656 && (t578 == 0)) = true
      ·rw [if_pos c12] at H
       have c12b0 : (t577 == 4609434218613702656 && (t578 == 0)) = true := c12
       (try (have c12b1 : decide (t577 = 4609434218613702656 && (t578 == 0)) = true := by simpa using c12))
       (try (have c12b2 : (t577 == 4609434218613702656 && (t578 == 0)) = true := by simpa using c12))
       clear c12
       by_cases c13 : t589 = true
       ·subst c13
        rw [if_pos rfl] at H
        by_cases c14 : t590 = 0
        ·rw [if_pos c14] at H
         have c14b0 := beq_iff_eq.mpr c14
         have c14b1 := bne_eq_false_iff_eq.mpr c14
         clear c14
         clear hr_
         obtain rfl := Option.some.inj H
         go_enter Tryd.func12, Tryd.ntmps12
         go_wp2_with (first | ((with_reducible refine zG 30 rfl ?_); refine zL (some 11) rfl rfl Tryd.func30 #[.int .i64 (-1075)] rfl ?_; (with_reducible refine (ulplaw05_power.calls (-1075) t556 t557 t560 _ A1.out).mono ?_); rintro e w15 ⟨v558, rfl, ho0, hb⟩; refine ⟨_, rfl, ?_⟩; have HO559 := zA (R_lower ho0 (below_size bq)); replace HB := ze hb; (try clear ho0); obtain ⟨Ao16, co16, eo16⟩ := R_slice HO559.out; subst eo16) | ((with_reducible refine zG 8 rfl ?_); refine zL (some 12) rfl rfl Tryd.func8 #[.agg #[.bool t556, .slice Ao16 t557.length co16, .int .i64 t560]] rfl ?_; (with_reducible refine (round_Near.calls k t556 _ _ t557 t560 t561 t562 t563 _ ?side1 ?side2 (laid_below hT bq) A2.out).mono ?_); (case side1 => exact zk (R_reads' HO559.out).2.2); (case side2 => exact (R_reads' HO559.out).2.1); rintro e w17 ⟨rfl, hb⟩; refine ⟨_, rfl, ?_⟩; replace HO559 := zA (R_below (ru HO559.out) hb); replace HB := ze hb) | ((with_reducible refine zD 1 rfl ?_); refine zn (N := 1) (cs := #[.int .u64 0, .int .u8 0]) (t := 29) rfl rfl ?_; intro gb564 hg w18 hbox hb; replace HO559 := zA (R_below (ru HO559.out) hb); have BK564 := zA (hbox); have GW564 := zw hg; replace HB := ze hb; clear hb hbox hg; have hcz19_0 : w18.cell? ⟨gb564, 0, none⟩ = some (.int .u64 0) := (blk_cell BK564.out 0).trans rfl; have hcz19_1 : w18.cell? ⟨gb564, 1, none⟩ = some (.int .u8 0) := (blk_cell BK564.out 1).trans rfl; have hfz19_0 := blk_frozen BK564.out 0; have hfz19_1 := blk_frozen BK564.out 1) | ((with_reducible refine zG 30 rfl ?_); refine zL (some 16) rfl rfl Tryd.func30 #[.int .i64 1024] rfl ?_; (with_reducible refine (ulplaw05_power.calls 1024 t565 t566 t569 _ A3.out).mono ?_); rintro e w20 ⟨v567, rfl, ho0, hb⟩; refine ⟨_, rfl, ?_⟩; have HO568 := zA (R_lower (R_new' ho0 (R_lt (ru (R_mono (R_far (p := ⟨gb564, 1, none⟩) (R_far (p := ⟨gb564, 0, none⟩) (R_types HO559.out BK564.out (by decide)) (fun _ hk => hk.2) (.int .u64 t561)) (fun _ hk => hk.2) (.int .u8 t562)) (fun _ h_ => h_.1))))) (below_size zs)); replace HO559 := zA (R_elder' (ru (R_mono (R_far (p := ⟨gb564, 1, none⟩) (R_far (p := ⟨gb564, 0, none⟩) (R_types HO559.out BK564.out (by decide)) (fun _ hk => hk.2) (.int .u64 t561)) (fun _ hk => hk.2) (.int .u8 t562)) (fun _ h_ => h_.1))) (R_base ho0) hb); replace BK564 := zA (blk_below (g := gb564) (o := .cells #[.int .u64 t561, .int .u8 t562] 29 (0, 0)) (by (with_reducible repeat (first | refine blk_drewN ?_ _ | refine blk_drew ?_ | refine blk_alloc ?_ _)); refine blk_put (cs := #[.int .u64 t561, .int .u8 0]) ?_ 1 _ rfl; refine blk_put (cs := #[.int .u64 0, .int .u8 0]) ?_ 0 _ rfl; exact BK564.out) hb); replace HB := zf hb; (try clear hk); (try clear ho0); obtain ⟨Ao21, co21, eo21⟩ := R_slice HO568.out; subst eo21) | ((with_reducible refine zG 8 rfl ?_); refine zL (some 17) rfl rfl Tryd.func8 #[.agg #[.bool t565, .slice Ao21 t566.length co21, .int .i64 t569]] rfl ?_; (with_reducible refine (round_Near.calls k t565 _ _ t566 t569 t570 t571 t572 _ ?side1 ?side2 (laid_below hT zs) A4.out).mono ?_); (case side1 => exact zk (R_reads' HO568.out).2.2); (case side2 => exact (R_reads' HO568.out).2.1); rintro e w22 ⟨rfl, hb⟩; refine ⟨_, rfl, ?_⟩; replace HO559 := zA (R_below (ru HO559.out) hb); replace HO568 := zA (R_below (ru HO568.out) hb); replace BK564 := zb BK564 hb; replace HB := zf hb) | ((with_reducible refine zD 3 rfl ?_); refine zn (N := 3) (cs := #[.int .u64 0, .int .u8 0]) (t := 29) rfl rfl ?_; intro gb573 hg w23 hbox hb; replace HO559 := zA (R_below (ru HO559.out) hb); replace HO568 := zA (R_below (ru HO568.out) hb); have BK573 := zA (hbox); have GW573 := zx hg; replace HB := zf hb; have NB564_573 := zl BK564 hg; have NB573_564 := zg BK564 hg; replace BK564 := zb BK564 hb; clear hb hbox hg; have hnb24 := NB573_564.out; have hnc24 := NB564_573.out; have hcz25_0 : w23.cell? ⟨gb573, 0, none⟩ = some (.int .u64 0) := (blk_cell BK573.out 0).trans rfl; have hcz25_1 : w23.cell? ⟨gb573, 1, none⟩ = some (.int .u8 0) := (blk_cell BK573.out 1).trans rfl; have hfz25_0 := blk_frozen BK573.out 0; have hfz25_1 := blk_frozen BK573.out 1) | ((with_reducible refine zD 21 rfl ?_); refine R_lit (Kd.int .u64) _ 26 ?hg (N := 21) ?hd (xs := ([3] : List Int)) (inner := [.int .u64 3]) (ok := fun _ => True) (okp := fun _ => True) ?hr ?hp (fun _ hk => hk) trivial (Below.refl _ _) (Nat.le_refl _) (by simp) ?_; (case hd => rfl); (case hg => rfl); (case hr => first | (go_simp; done) | (go_simp; rfl)); (case hp => exact (Reps.one (show Kd.M (Kd.int .u64) _ _ _ 3 [.int .u64 3] from rfl) (Reps.none _ _))); intro v575 w26 ho27 hb hg_ hnew_; clear hg_ hnew_; (first | rw [← Ny574.out] at ho27 | (simp only [Int.reduceToNat] at ho27; rw [← Ny574.out] at ho27)); have HO576 := zA (R_lower (R_new' (R_new' ho27 (R_lt (ru (R_mono (R_far (p := ⟨gb573, 1, none⟩) (R_far (p := ⟨gb573, 0, none⟩) (R_types HO559.out BK573.out (by decide)) (fun _ hk => hk.2) (.int .u64 t570)) (fun _ hk => hk.2) (.int .u8 t571)) (fun _ h_ => h_.1))))) (R_lt (ru (R_mono (R_far (p := ⟨gb573, 1, none⟩) (R_far (p := ⟨gb573, 0, none⟩) (R_types HO568.out BK573.out (by decide)) (fun _ hk => hk.2) (.int .u64 t570)) (fun _ hk => hk.2) (.int .u8 t571)) (fun _ h_ => h_.1))))) (below_size zs)); replace HO559 := zA (R_elder' (ru (R_mono (R_far (p := ⟨gb573, 1, none⟩) (R_far (p := ⟨gb573, 0, none⟩) (R_types HO559.out BK573.out (by decide)) (fun _ hk => hk.2) (.int .u64 t570)) (fun _ hk => hk.2) (.int .u8 t571)) (fun _ h_ => h_.1))) (R_base ho27) hb); replace HO568 := zA (R_elder' (ru (R_mono (R_far (p := ⟨gb573, 1, none⟩) (R_far (p := ⟨gb573, 0, none⟩) (R_types HO568.out BK573.out (by decide)) (fun _ hk => hk.2) (.int .u64 t570)) (fun _ hk => hk.2) (.int .u8 t571)) (fun _ h_ => h_.1))) (R_base ho27) hb); replace BK564 := zF BK564 hb; replace BK573 := zA (blk_below (g := gb573) (o := .cells #[.int .u64 t570, .int .u8 t571] 29 (0, 0)) (by (with_reducible repeat (first | refine blk_drewN ?_ _ | refine blk_drew ?_ | refine blk_alloc ?_ _)); refine blk_put (cs := #[.int .u64 t570, .int .u8 0]) ?_ 1 _ rfl; refine blk_put (cs := #[.int .u64 0, .int .u8 0]) ?_ 0 _ rfl; exact BK573.out) hb); replace HB := zf hb; clear hb ho27; obtain ⟨Ao28, co28, eo28⟩ := R_slice HO576.out; subst eo28) | ((with_reducible refine zG 8 rfl ?_); refine zL (some 23) rfl rfl Tryd.func8 #[.agg #[.bool false, .slice Ao28 y574.length co28, .int .i64 (-1)]] rfl ?_; (with_reducible refine (round_Near.calls k false _ _ y574 (-1) t577 t578 t579 _ ?side1 ?side2 (laid_below hT zs) A5.out).mono ?_); (case side1 => exact zk (R_reads' HO576.out).2.2); (case side2 => exact (R_reads' HO576.out).2.1); rintro e w29 ⟨rfl, hb⟩; refine ⟨_, rfl, ?_⟩; replace HO559 := zA (R_below (ru HO559.out) hb); replace HO568 := zA (R_below (ru HO568.out) hb); replace HO576 := zA (R_below (ru HO576.out) hb); replace BK564 := zb BK564 hb; replace BK573 := zb BK573 hb; replace HB := zf hb) | ((with_reducible refine zD 5 rfl ?_); refine zn (N := 5) (cs := #[.int .u64 0, .int .u8 0]) (t := 29) rfl rfl ?_; intro gb580 hg w30 hbox hb; replace HO559 := zA (R_below (ru HO559.out) hb); replace HO568 := zA (R_below (ru HO568.out) hb); replace HO576 := zA (R_below (ru HO576.out) hb); have BK580 := zA (hbox); have GW580 := zx hg; replace HB := zf hb; have NB564_580 := zl BK564 hg; have NB580_564 := zg BK564 hg; replace BK564 := zb BK564 hb; have NB573_580 := zl BK573 hg; have NB580_573 := zg BK573 hg; replace BK573 := zb BK573 hb; clear hb hbox hg; have hnb31 := NB580_564.out; have hnc31 := NB564_580.out; have hnb32 := NB580_573.out; have hnc32 := NB573_580.out; have hcz33_0 : w30.cell? ⟨gb580, 0, none⟩ = some (.int .u64 0) := (blk_cell BK580.out 0).trans rfl; have hcz33_1 : w30.cell? ⟨gb580, 1, none⟩ = some (.int .u8 0) := (blk_cell BK580.out 1).trans rfl; have hfz33_0 := blk_frozen BK580.out 0; have hfz33_1 := blk_frozen BK580.out 1) | ((with_reducible refine zD 27 rfl ?_); refine R_lit (Kd.int .u64) _ 26 ?hg (N := 27) ?hd (xs := ([1152921504606846977] : List Int)) (inner := [.int .u64 1152921504606846977]) (ok := fun _ => True) (okp := fun _ => True) ?hr ?hp (fun _ hk => hk) trivial (Below.refl _ _) (Nat.le_refl _) (by simp) ?_; (case hd => rfl); (case hg => rfl); (case hr => first | (go_simp; done) | (go_simp; rfl)); (case hp => exact (Reps.one (show Kd.M (Kd.int .u64) _ _ _ 1152921504606846977 [.int .u64 1152921504606846977] from rfl) (Reps.none _ _))); intro v582 w34 ho35 hb hg_ hnew_; clear hg_ hnew_; (first | rw [← Ny581.out] at ho35 | (simp only [Int.reduceToNat] at ho35; rw [← Ny581.out] at ho35)); have HO583 := zA (R_lower (R_new' (R_new' (R_new' ho35 (R_lt (ru (R_mono (R_far (p := ⟨gb580, 1, none⟩) (R_far (p := ⟨gb580, 0, none⟩) (R_types HO559.out BK580.out (by decide)) (fun _ hk => hk.2) (.int .u64 t577)) (fun _ hk => hk.2) (.int .u8 t578)) (fun _ h_ => h_.1))))) (R_lt (ru (R_mono (R_far (p := ⟨gb580, 1, none⟩) (R_far (p := ⟨gb580, 0, none⟩) (R_types HO568.out BK580.out (by decide)) (fun _ hk => hk.2) (.int .u64 t577)) (fun _ hk => hk.2) (.int .u8 t578)) (fun _ h_ => h_.1))))) (R_lt (ru (R_mono (R_far (p := ⟨gb580, 1, none⟩) (R_far (p := ⟨gb580, 0, none⟩) (R_types HO576.out BK580.out (by decide)) (fun _ hk => hk.2) (.int .u64 t577)) (fun _ hk => hk.2) (.int .u8 t578)) (fun _ h_ => h_.1))))) (below_size zs)); replace HO559 := zA (R_elder' (ru (R_mono (R_far (p := ⟨gb580, 1, none⟩) (R_far (p := ⟨gb580, 0, none⟩) (R_types HO559.out BK580.out (by decide)) (fun _ hk => hk.2) (.int .u64 t577)) (fun _ hk => hk.2) (.int .u8 t578)) (fun _ h_ => h_.1))) (R_base ho35) hb); replace HO568 := zA (R_elder' (ru (R_mono (R_far (p := ⟨gb580, 1, none⟩) (R_far (p := ⟨gb580, 0, none⟩) (R_types HO568.out BK580.out (by decide)) (fun _ hk => hk.2) (.int .u64 t577)) (fun _ hk => hk.2) (.int .u8 t578)) (fun _ h_ => h_.1))) (R_base ho35) hb); replace HO576 := zA (R_elder' (ru (R_mono (R_far (p := ⟨gb580, 1, none⟩) (R_far (p := ⟨gb580, 0, none⟩) (R_types HO576.out BK580.out (by decide)) (fun _ hk => hk.2) (.int .u64 t577)) (fun _ hk => hk.2) (.int .u8 t578)) (fun _ h_ => h_.1))) (R_base ho35) hb); replace BK564 := zF BK564 hb; replace BK573 := zF BK573 hb; replace BK580 := zA (blk_below (g := gb580) (o := .cells #[.int .u64 t577, .int .u8 t578] 29 (0, 0)) (by (with_reducible repeat (first | refine blk_drewN ?_ _ | refine blk_drew ?_ | refine blk_alloc ?_ _)); refine blk_put (cs := #[.int .u64 t577, .int .u8 0]) ?_ 1 _ rfl; refine blk_put (cs := #[.int .u64 0, .int .u8 0]) ?_ 0 _ rfl; exact BK580.out) hb); replace HB := zf hb; clear hb ho35; obtain ⟨Ao36, co36, eo36⟩ := R_slice HO583.out; subst eo36) | ((with_reducible refine zD 29 rfl ?_); refine R_lit (Kd.int .u64) _ 26 ?hg (N := 29) ?hd (xs := ([36028797018963969] : List Int)) (inner := [.int .u64 36028797018963969]) (ok := fun _ => True) (okp := fun _ => True) ?hr ?hp (fun _ hk => hk) trivial (Below.refl _ _) (Nat.le_refl _) (by simp) ?_; (case hd => rfl); (case hg => rfl); (case hr => first | (go_simp; done) | (go_simp; rfl)); (case hp => exact (Reps.one (show Kd.M (Kd.int .u64) _ _ _ 36028797018963969 [.int .u64 36028797018963969] from rfl) (Reps.none _ _))); intro v585 w37 ho38 hb hg_ hnew_; clear hg_ hnew_; (first | rw [← Ny584.out] at ho38 | (simp only [Int.reduceToNat] at ho38; rw [← Ny584.out] at ho38)); have HO586 := zA (R_lower (R_new' (R_new' (R_new' (R_new' ho38 (R_lt (ru HO559.out))) (R_lt (ru HO568.out))) (R_lt (ru HO576.out))) (R_lt (ru HO583.out))) (below_size zs)); replace HO559 := zA (R_elder' (ru HO559.out) (R_base ho38) hb); replace HO568 := zA (R_elder' (ru HO568.out) (R_base ho38) hb); replace HO576 := zA (R_elder' (ru HO576.out) (R_base ho38) hb); replace HO583 := zA (R_elder' (ru HO583.out) (R_base ho38) hb); replace BK564 := zb BK564 hb; replace BK573 := zb BK573 hb; replace BK580 := zb BK580 hb; replace HB := zf hb; clear hb ho38; obtain ⟨Ao39, co39, eo39⟩ := R_slice HO586.out; subst eo39) | ((with_reducible refine zG 23 rfl ?_); refine zL (some 32) rfl rfl Tryd.func23 #[.agg #[.bool false, .slice Ao36 y581.length co36, .int .i64 (-60), .bool false, .slice Ao39 y584.length co39, .int .i64 (-55)]] rfl ?_; (with_reducible refine (round_Decide.calls k false _ _ y581 (-60) false _ _ y584 (-55) t587 t588 true t590 _ ?side1 ?side2 ?side3 ?side4 (laid_below hT zs) A6.out).mono ?_); (case side1 => exact zk (R_reads' HO583.out).2.2); (case side2 => exact (R_reads' HO583.out).2.1); (case side3 => exact zk (R_reads' HO586.out).2.2); (case side4 => exact (R_reads' HO586.out).2.1); rintro e w40 ⟨rfl, hb⟩; refine ⟨_, rfl, ?_⟩; replace HO559 := zA (R_below (ru HO559.out) hb); replace HO568 := zA (R_below (ru HO568.out) hb); replace HO576 := zA (R_below (ru HO576.out) hb); replace HO583 := zA (R_below (ru HO583.out) hb); replace HO586 := zA (R_below (ru HO586.out) hb); replace BK564 := zb BK564 hb; replace BK573 := zb BK573 hb; replace BK580 := zb BK580 hb; replace HB := zf hb) | ((with_reducible refine zD 7 rfl ?_); refine zn (N := 7) (cs := #[.int .u64 0, .int .u8 0]) (t := 29) rfl rfl ?_; intro gb591 hg w41 hbox hb; replace HO559 := zA (R_below (ru HO559.out) hb); replace HO568 := zA (R_below (ru HO568.out) hb); replace HO576 := zA (R_below (ru HO576.out) hb); replace HO583 := zA (R_below (ru HO583.out) hb); replace HO586 := zA (R_below (ru HO586.out) hb); have BK591 := zA (hbox); have GW591 := zx hg; replace HB := zf hb; have NB564_591 := zl BK564 hg; have NB591_564 := zg BK564 hg; replace BK564 := zb BK564 hb; have NB573_591 := zl BK573 hg; have NB591_573 := zg BK573 hg; replace BK573 := zb BK573 hb; have NB580_591 := zl BK580 hg; have NB591_580 := zg BK580 hg; replace BK580 := zb BK580 hb; clear hb hbox hg; have hnb42 := NB591_564.out; have hnc42 := NB564_591.out; have hnb43 := NB591_573.out; have hnc43 := NB573_591.out; have hnb44 := NB591_580.out; have hnc44 := NB580_591.out; have hcz45_0 : w41.cell? ⟨gb591, 0, none⟩ = some (.int .u64 0) := (blk_cell BK591.out 0).trans rfl; have hcz45_1 : w41.cell? ⟨gb591, 1, none⟩ = some (.int .u8 0) := (blk_cell BK591.out 1).trans rfl; have hfz45_0 := blk_frozen BK591.out 0; have hfz45_1 := blk_frozen BK591.out 1; have hcz46_0 : w41.cell? ⟨gb564, 0, none⟩ = some (.int .u64 t561) := (blk_cell BK564.out 0).trans rfl; have hcz46_1 : w41.cell? ⟨gb564, 1, none⟩ = some (.int .u8 t562) := (blk_cell BK564.out 1).trans rfl; have hfz46_0 := blk_frozen BK564.out 0; have hfz46_1 := blk_frozen BK564.out 1; have hcz47_0 : w41.cell? ⟨gb573, 0, none⟩ = some (.int .u64 t570) := (blk_cell BK573.out 0).trans rfl; have hcz47_1 : w41.cell? ⟨gb573, 1, none⟩ = some (.int .u8 t571) := (blk_cell BK573.out 1).trans rfl; have hfz47_0 := blk_frozen BK573.out 0; have hfz47_1 := blk_frozen BK573.out 1; have hcz48_0 : w41.cell? ⟨gb580, 0, none⟩ = some (.int .u64 t577) := (blk_cell BK580.out 0).trans rfl; have hcz48_1 : w41.cell? ⟨gb580, 1, none⟩ = some (.int .u8 t578) := (blk_cell BK580.out 1).trans rfl; have hfz48_0 := blk_frozen BK580.out 0; have hfz48_1 := blk_frozen BK580.out 1))
         go_ret
         exact ⟨er, zs⟩
        rw [if_neg c14] at H
        have c14b0 := beq_eq_false_iff_ne.mpr c14
        have c14b1 := bne_iff_ne.mpr c14
        obtain rfl := Option.some.inj H
        exact absurd hr_.out (by decide)
       replace c13 := Bool.eq_false_iff.mpr c13
       subst c13
       rw [if_neg (show ¬ (false = true) by decide)] at H
       obtain rfl := Option.some.inj H
       exact absurd hr_.out (by decide)
      rw [if_neg c12] at H
      have c12b0 : (t577 == 4609434218613702656 && (t578 == 0)) = false := by simpa using c12
      (try (have c12b1 : decide (t577 = 4609434218613702656 && (t578 == 0)) = false := by simpa using c12))
      (try (have c12b2 : (t577 == 4609434218613702656 && (t578 == 0)) = false := by simpa using c12))
      (try (have c12b3 : ¬ (t577 = 4609434218613702656 && (t578 == 0)) := by simpa using c12))
      clear c12
      obtain rfl := Option.some.inj H
      exact absurd hr_.out (by decide)
     rw [if_neg c11] at H
     have c11b0 := beq_eq_false_iff_ne.mpr c11
     have c11b1 := bne_iff_ne.mpr c11
     obtain rfl := Option.some.inj H
     exact absurd hr_.out (by decide)
    rw [if_neg c10] at H
    have c10b0 : (t570 == 9218868437227405312 && (t571 == 20)) = false := by simpa using c10
    (try (have c10b1 : decide (t570 = 9218868437227405312 && (t571 == 20)) = false := by simpa using c10))
    (try (have c10b2 : (t570 == 9218868437227405312 && (t571 == 20)) = false := by simpa using c10))
    (try (have c10b3 : ¬ (t570 = 9218868437227405312 && (t571 == 20)) := by simpa using c10))
    clear c10
    obtain rfl := Option.some.inj H
    exact absurd hr_.out (by decide)
   rw [if_neg c9] at H
   have c9b0 := beq_eq_false_iff_ne.mpr c9
   have c9b1 := bne_iff_ne.mpr c9
   obtain rfl := Option.some.inj H
   exact absurd hr_.out (by decide)
  rw [if_neg c8] at H
  have c8b0 : (t561 == 0 && (t562 == 24)) = false := by simpa using c8
  (try (have c8b1 : decide (t561 = 0 && (t562 == 24)) = false := by simpa using c8))
  (try (have c8b2 : (t561 == 0 && (t562 == 24)) = false := by simpa using c8))
  (try (have c8b3 : ¬ (t561 = 0 && (t562 == 24)) := by simpa using c8))
  clear c8
  obtain rfl := Option.some.inj H
  exact absurd hr_.out (by decide)
 rw [if_neg c7] at H
 have c7b0 := beq_eq_false_iff_ne.mpr c7
 have c7b1 := bne_iff_ne.mpr c7
 obtain rfl := Option.some.inj H
 exact absurd hr_.out (by decide)
attribute [local go_sem high] eqA29
def ulplaw05_RoundNears.f (k : Nat) (a0_0 : Bool) (l0_1 : List Int) (a0_2 : Int) : Option (Bool) := (round_Near.f k a0_0 l0_1 a0_2).bind fun bt593 => ((ulpref05_Near.f k a0_0 l0_1 a0_2).bind fun bt597 => ((round_Tiny.f k a0_0 l0_1 a0_2).bind fun bt601 => ((ulpref05_Tiny.f k a0_0 l0_1 a0_2).bind fun bt603 => ((ulplaw05_lives.f k).bind fun t605 => (if t605 = true then (if (bt593.1 == bt597.1 && (bt593.2.1 == bt597.2.1)) = true then (if bt593.2.2 = bt597.2.2 then (if (bt601.1 == bt603.1) = true then (some (bt601.2 == bt603.2)) else (some false)) else (some false)) else (some false)) else (some false))))))
set_option maxHeartbeats 8000000 in
set_option maxRecDepth 100000 in
theorem ulplaw05_RoundNears.calls (k : Nat) (a0_0 : Bool) (A0_1 : Option Addr) (c0_1 : Nat) (l0_1 : List Int) (a0_2 : Int) (r : Bool) (w : World) (hr0_1 : Kd.C (Kd.int .u64) w A0_1 l0_1.length l0_1) (hc0_1 : l0_1.length ≤ c0_1) (hT : Laid w) (hr_ : Aside0 (r = true)) (h : ulplaw05_RoundNears.f k a0_0 l0_1 a0_2 = some r) :
  Calls Tryd.prog 3 #[.agg #[.bool a0_0, .slice A0_1 l0_1.length c0_1, .int .i64 a0_2]] w fun e w' => e = .returned (.bool r) ∧ Below w.heap.size w w' := by
 have hu25 := Tryd.underlying25
 have hu29 := Tryd.underlying29
 have HR0_1 := zA hr0_1
 have HC0_1 := zA hc0_1
 clear hr0_1 hc0_1
 have HB := zA (Below.refl w.heap.size w)
 have H : ((round_Near.f k a0_0 l0_1 a0_2).bind fun bt593 => ((ulpref05_Near.f k a0_0 l0_1 a0_2).bind fun bt597 => ((round_Tiny.f k a0_0 l0_1 a0_2).bind fun bt601 => ((ulpref05_Tiny.f k a0_0 l0_1 a0_2).bind fun bt603 => ((ulplaw05_lives.f k).bind fun t605 => (if t605 = true then (if (bt593.1 == bt597.1 && (bt593.2.1 == bt597.2.1)) = true then (if bt593.2.2 = bt597.2.2 then (if (bt601.1 == bt603.1) = true then (some (bt601.2 == bt603.2)) else (some false)) else (some false)) else (some false)) else (some false))))))) = some r := h
 clear h
 obtain ⟨⟨t593, t594, t595⟩, A2, H⟩ := zh H
 (try dsimp only at H)
 obtain ⟨⟨t597, t598, t599⟩, A3, H⟩ := zh H
 (try dsimp only at H)
 obtain ⟨⟨t601, t602⟩, A4, H⟩ := zh H
 (try dsimp only at H)
 obtain ⟨⟨t603, t604⟩, A5, H⟩ := zh H
 (try dsimp only at H)
 obtain ⟨t605, A6, H⟩ := zh H
 by_cases c7 : t605 = true
 ·subst c7
  rw [if_pos rfl] at H
  by_cases c8 : (t593 == t597 && (t594 == t598)) = true
  ·rw [if_pos c8] at H
   have c8b0 : (t593 == t597 && (t594 == t598)) = true := c8
   (try (have c8b1 : decide (t593 = t597 && (t594 == t598)) = true := by simpa using c8))
   (try (have c8b2 : (t593 == t597 && (t594 == t598)) = true := by simpa using c8))
   clear c8
   by_cases c9 : t595 = t599
   ·rw [if_pos c9] at H
    have c9b0 := beq_iff_eq.mpr c9
    have c9b1 := bne_eq_false_iff_eq.mpr c9
    clear c9
    by_cases c10 : (t601 == t603) = true
    ·rw [if_pos c10] at H
     have c10b0 : (t601 == t603) = true := c10
     (try (have c10b1 : decide (t601 = t603) = true := by simpa using c10))
     (try (have c10b2 : (t601 == t603) = true := by simpa using c10))
     clear c10
     clear hr_
     obtain rfl := Option.some.inj H
     go_enter Tryd.func3, Tryd.ntmps3
     go_wp2_with (first | ((with_reducible refine zD 1 rfl ?_); refine zn (N := 1) (cs := #[.bool a0_0, .slice A0_1 l0_1.length c0_1, .int .i64 a0_2]) (t := 25) rfl rfl ?_; intro gb592 hg w11 hbox hb; have BK592 := zA (hbox); have GW592 := zw hg; replace HB := ze hb; clear hb hbox hg; obtain ⟨_, _, _, _, _, _⟩ := zc BK592) | ((with_reducible refine zG 8 rfl ?_); refine zL (some 13) rfl rfl Tryd.func8 #[.agg #[.bool a0_0, .slice A0_1 l0_1.length c0_1, .int .i64 a0_2]] rfl ?_; (with_reducible refine (round_Near.calls k a0_0 _ _ l0_1 a0_2 t593 t594 t595 _ ?side1 ?side2 (laid_below hT zs) A2.out).mono ?_); (case side1 => exact zk (C_below HR0_1.out HB.out)); (case side2 => exact HC0_1.out); rintro e w13 ⟨rfl, hb⟩; refine ⟨_, rfl, ?_⟩; replace BK592 := zb BK592 hb; replace HB := zf hb) | ((with_reducible refine zD 3 rfl ?_); refine zn (N := 3) (cs := #[.int .u64 0, .int .u8 0]) (t := 29) rfl rfl ?_; intro gb596 hg w14 hbox hb; have BK596 := zA (hbox); have GW596 := zx hg; replace HB := zf hb; have NB592_596 := zl BK592 hg; have NB596_592 := zg BK592 hg; replace BK592 := zb BK592 hb; clear hb hbox hg; have hnb15 := NB596_592.out; have hnc15 := NB592_596.out; have hcz16_0 : w14.cell? ⟨gb596, 0, none⟩ = some (.int .u64 0) := (blk_cell BK596.out 0).trans rfl; have hcz16_1 : w14.cell? ⟨gb596, 1, none⟩ = some (.int .u8 0) := (blk_cell BK596.out 1).trans rfl; have hfz16_0 := blk_frozen BK596.out 0; have hfz16_1 := blk_frozen BK596.out 1; obtain ⟨hcz17_0, hcz17_1, hcz17_2, hfz17_0, hfz17_1, hfz17_2⟩ := zc BK592) | ((with_reducible refine zG 9 rfl ?_); refine zL (some 18) rfl rfl Tryd.func9 #[.agg #[.bool a0_0, .slice A0_1 l0_1.length c0_1, .int .i64 a0_2]] rfl ?_; (with_reducible refine (ulpref05_Near.calls k a0_0 _ _ l0_1 a0_2 t597 t598 t599 _ ?side1 ?side2 A3.out).mono ?_); (case side1 => exact C_below HR0_1.out zs); (case side2 => exact HC0_1.out); rintro e w18 ⟨rfl, hb⟩; refine ⟨_, rfl, ?_⟩; replace BK592 := zF BK592 hb; replace BK596 := zA (blk_below (g := gb596) (o := .cells #[.int .u64 t593, .int .u8 t594] 29 (0, 0)) (by (with_reducible repeat (first | refine blk_drewN ?_ _ | refine blk_drew ?_ | refine blk_alloc ?_ _)); refine blk_put (cs := #[.int .u64 t593, .int .u8 0]) ?_ 1 _ rfl; refine blk_put (cs := #[.int .u64 0, .int .u8 0]) ?_ 0 _ rfl; exact BK596.out) hb); replace HB := zf hb) | ((with_reducible refine zD 5 rfl ?_); refine zn (N := 5) (cs := #[.int .u64 0, .int .u8 0]) (t := 29) rfl rfl ?_; intro gb600 hg w19 hbox hb; have BK600 := zA (hbox); have GW600 := zx hg; replace HB := zf hb; have NB592_600 := zl BK592 hg; have NB600_592 := zg BK592 hg; replace BK592 := zb BK592 hb; have NB596_600 := zl BK596 hg; have NB600_596 := zg BK596 hg; replace BK596 := zb BK596 hb; clear hb hbox hg; have hnb20 := NB600_592.out; have hnc20 := NB592_600.out; have hnb21 := NB600_596.out; have hnc21 := NB596_600.out; have hcz22_0 : w19.cell? ⟨gb600, 0, none⟩ = some (.int .u64 0) := (blk_cell BK600.out 0).trans rfl; have hcz22_1 : w19.cell? ⟨gb600, 1, none⟩ = some (.int .u8 0) := (blk_cell BK600.out 1).trans rfl; have hfz22_0 := blk_frozen BK600.out 0; have hfz22_1 := blk_frozen BK600.out 1; obtain ⟨hcz23_0, hcz23_1, hcz23_2, hfz23_0, hfz23_1, hfz23_2⟩ := zc BK592) | ((with_reducible refine zG 10 rfl ?_); refine zL (some 23) rfl rfl Tryd.func10 #[.agg #[.bool a0_0, .slice A0_1 l0_1.length c0_1, .int .i64 a0_2]] rfl ?_; (with_reducible refine (round_Tiny.calls k a0_0 _ _ l0_1 a0_2 t601 t602 _ ?side1 ?side2 (laid_below hT zs) A4.out).mono ?_); (case side1 => exact C_below HR0_1.out zs); (case side2 => exact HC0_1.out); rintro e w24 ⟨rfl, hb⟩; refine ⟨_, rfl, ?_⟩; replace BK592 := zF BK592 hb; replace BK596 := zF BK596 hb; replace BK600 := zA (blk_below (g := gb600) (o := .cells #[.int .u64 t597, .int .u8 t598] 29 (0, 0)) (by (with_reducible repeat (first | refine blk_drewN ?_ _ | refine blk_drew ?_ | refine blk_alloc ?_ _)); refine blk_put (cs := #[.int .u64 t597, .int .u8 0]) ?_ 1 _ rfl; refine blk_put (cs := #[.int .u64 0, .int .u8 0]) ?_ 0 _ rfl; exact BK600.out) hb); replace HB := zf hb; obtain ⟨hcz25_0, hcz25_1, hcz25_2, hfz25_0, hfz25_1, hfz25_2⟩ := zc BK592) | ((with_reducible refine zG 11 rfl ?_); refine zL (some 28) rfl rfl Tryd.func11 #[.agg #[.bool a0_0, .slice A0_1 l0_1.length c0_1, .int .i64 a0_2]] rfl ?_; (with_reducible refine (ulpref05_Tiny.calls k a0_0 _ _ l0_1 a0_2 t603 t604 _ ?side1 ?side2 A5.out).mono ?_); (case side1 => exact zk (C_below HR0_1.out HB.out)); (case side2 => exact HC0_1.out); rintro e w26 ⟨rfl, hb⟩; refine ⟨_, rfl, ?_⟩; replace BK592 := zb BK592 hb; replace BK596 := zb BK596 hb; replace BK600 := zb BK600 hb; replace HB := zf hb) | ((with_reducible refine zG 12 rfl ?_); refine zL (some 31) rfl rfl Tryd.func12 #[] rfl ?_; (with_reducible refine (ulplaw05_lives.calls k  true _ (laid_below hT zs) (zA (ulplaw05_lives.true_ k true A6.out)) A6.out).mono ?_); rintro e w27 ⟨rfl, hb⟩; refine ⟨_, rfl, ?_⟩; replace BK592 := zb BK592 hb; replace BK596 := zb BK596 hb; replace BK600 := zb BK600 hb; replace HB := zf hb; have hcz28_0 : w27.cell? ⟨gb596, 0, none⟩ = some (.int .u64 t593) := (blk_cell BK596.out 0).trans rfl; have hcz28_1 : w27.cell? ⟨gb596, 1, none⟩ = some (.int .u8 t594) := (blk_cell BK596.out 1).trans rfl; have hfz28_0 := blk_frozen BK596.out 0; have hfz28_1 := blk_frozen BK596.out 1; have hcz29_0 : w27.cell? ⟨gb600, 0, none⟩ = some (.int .u64 t597) := (blk_cell BK600.out 0).trans rfl; have hcz29_1 : w27.cell? ⟨gb600, 1, none⟩ = some (.int .u8 t598) := (blk_cell BK600.out 1).trans rfl; have hfz29_0 := blk_frozen BK600.out 0; have hfz29_1 := blk_frozen BK600.out 1))
     go_ret
     exact ⟨er, zs⟩
    rw [if_neg c10] at H
    have c10b0 : (t601 == t603) = false := by simpa using c10
    (try (have c10b1 : decide (t601 = t603) = false := by simpa using c10))
    (try (have c10b2 : (t601 == t603) = false := by simpa using c10))
    (try (have c10b3 : ¬ (t601 = t603) := by simpa using c10))
    clear c10
    obtain rfl := Option.some.inj H
    exact absurd hr_.out (by decide)
   rw [if_neg c9] at H
   have c9b0 := beq_eq_false_iff_ne.mpr c9
   have c9b1 := bne_iff_ne.mpr c9
   obtain rfl := Option.some.inj H
   exact absurd hr_.out (by decide)
  rw [if_neg c8] at H
  have c8b0 : (t593 == t597 && (t594 == t598)) = false := by simpa using c8
  (try (have c8b1 : decide (t593 = t597 && (t594 == t598)) = false := by simpa using c8))
  (try (have c8b2 : (t593 == t597 && (t594 == t598)) = false := by simpa using c8))
  (try (have c8b3 : ¬ (t593 = t597 && (t594 == t598)) := by simpa using c8))
  clear c8
  obtain rfl := Option.some.inj H
  exact absurd hr_.out (by decide)
 replace c7 := Bool.eq_false_iff.mpr c7
 subst c7
 rw [if_neg (show ¬ (false = true) by decide)] at H
 obtain rfl := Option.some.inj H
 exact absurd hr_.out (by decide)
def bits_Split.f (a0 : Int) : Option (Bool × Int × Int) := some (((Go.bits .and .u64 a0 9223372036854775808) != 0), wrap64 (Go.bits .and .u64 (a0 / 4503599627370496) 2047), Go.bits .and .u64 a0 4503599627370495)
def bits_finite.f (a0 : Int) : Option (Bool) := (bits_amount.f a0).bind fun t1079 => (some (decide (t1079 < 9218868437227405312)))
def bits_Last.f (a0 : Int) : Option (Int × Int) := (bits_finite.f a0).bind fun t1080 => (if t1080 = true then ((bits_Split.f a0).bind fun bt1081 => (some (wrap64 ((mx bt1081.2.1 1) - 1075), 0))) else (some (0, 5)))
end Go.Proofs.YtnjfckadjklmfaaDoor.PAll
