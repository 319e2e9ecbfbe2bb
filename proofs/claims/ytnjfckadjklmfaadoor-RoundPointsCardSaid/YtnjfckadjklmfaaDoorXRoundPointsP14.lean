/- Printed functions, merged by a program of this session. -/
import Derived.Test.YtnjfckadjklmfaaDoorXRoundPointsP0
import Derived.Test.YtnjfckadjklmfaaDoorXRoundPointsP7
import Derived.Test.YtnjfckadjklmfaaDoorXRoundPointsP6
import Derived.Test.YtnjfckadjklmfaaDoorXRoundPointsP13
import Derived.Test.YtnjfckadjklmfaaDoorXRoundPointsP12
import Derived.Test.YtnjfckadjklmfaaDoorXRoundPointsSh
namespace Go.Proofs.YtnjfckadjklmfaaDoor.PAll
open Go.RowKit Go.Proofs.YtnjfckadjklmfaaDoorW.PrintWords Go.Proofs.YtnjfckadjklmfaaDoorW.PrintLast Go.Proofs.YtnjfckadjklmfaaDoorW.PrintMore Go.Proofs.YtnjfckadjklmfaaDoorW.PrintWords.Kd
attribute [local go_sem] max2_int min2_int max_two min_two max_three min_three max_four min_four   -- for this text's walks alone
set_option linter.unusedVariables false
set_option linter.unusedSimpArgs false
attribute [local go_sem high] eqA29
attribute [local go_sem] fld75_0 fld75_1 fld75_2 ext118 ext119
def ulplaw05_lives.f (k : Nat)  : Option (Bool) := (ulplaw05_power.f (-1075)).bind fun a2 => ((round_Near.f k a2.1 a2.2.1 a2.2.2).bind fun a3 => ((ulplaw05_power.f 1024).bind fun a4 => ((round_Near.f k a4.1 a4.2.1 a4.2.2).bind fun a5 => ((round_Near.f k false (([3] : List Int)) (-1)).bind fun a6 => ((round_Decide.f k false (([1152921504606846977] : List Int)) (-60) false (([36028797018963969] : List Int)) (-55)).bind fun a1 => (if a3.2.2 = 0 then (if (a3.1 == 0 && (a3.2.1 == 24)) = true then (if a5.2.2 = 0 then (if (a5.1 == 9218868437227405312 && (a5.2.1 == 20)) = true then (if a6.2.2 = 0 then (if (a6.1 == 4609434218613702656 && (a6.2.1 == 0)) = true then (if a1.2.2.1 = true then (if a1.2.2.2 = 0 then (some (a1.1 == 4607182418800017408 && (a1.2.1 == 16))) else (some false)) else (some false)) else (some false)) else (some false)) else (some false)) else (some false)) else (some false)) else (some false)))))))
theorem ulplaw05_lives.mono : ∀ k, LeO (ulplaw05_lives.f k ) (ulplaw05_lives.f (k + 1) ) := by
 intro  k
 unfold ulplaw05_lives.f
 repeat' first
   | (with_reducible exact round_Decide.mono _ _ _ _ _ _ _)
   | (with_reducible exact round_Near.mono _ _ _ _)
   | (with_reducible exact LeO.refl _)
   | (with_reducible exact LeO.none _)
   | (with_reducible refine LeO.ite ?_ ?_)
   | (with_reducible refine LeO.bind ?_ (fun _ => ?_))
   | exact round_Decide.mono _ _ _ _ _ _ _
   | exact round_Near.mono _ _ _ _
   | exact LeO.none _
   | refine LeO.ite ?_ ?_
   | refine LeO.bind ?_ (fun _ => ?_)
theorem ulplaw05_lives.true_ (k : Nat) (r : Bool) (h : ulplaw05_lives.f k = some r) : r = true := by
 have e : ulplaw05_lives.f 3000 = some true := by decide +kernel
 have a := at_rounds ulplaw05_lives.mono (Nat.le_max_left k 3000) h;have b := at_rounds ulplaw05_lives.mono (Nat.le_max_right k 3000) e;exact Option.some.inj (a.symm.trans b)
set_option maxHeartbeats 8000000 in
set_option maxRecDepth 100000 in
theorem ulplaw05_lives.calls (k : Nat)  (r : Bool) (w : World) (hT : Laid w) (hr_ : Aside0 (r = true)) (h : ulplaw05_lives.f k  = some r) :
  Calls Tryd.prog 12 #[] w fun e w' => e = .returned (.bool r) ∧ Below w.heap.size w w' := by
 have hu29 := Tryd.underlying29;have hu25 := Tryd.underlying25;have hu49 := Tryd.underlying49;have HB := zA (Below.refl w.heap.size w);have H : ((ulplaw05_power.f (-1075)).bind fun av => ((round_Near.f k av.1 av.2.1 av.2.2).bind fun aw => ((ulplaw05_power.f 1024).bind fun ax => ((round_Near.f k ax.1 ax.2.1 ax.2.2).bind fun ay => ((round_Near.f k false (([3] : List Int)) (-1)).bind fun ai => ((round_Decide.f k false (([1152921504606846977] : List Int)) (-60) false (([36028797018963969] : List Int)) (-55)).bind fun a6 => (if aw.2.2 = 0 then (if (aw.1 == 0 && (aw.2.1 == 24)) = true then (if ay.2.2 = 0 then (if (ay.1 == 9218868437227405312 && (ay.2.1 == 20)) = true then (if ai.2.2 = 0 then (if (ai.1 == 4609434218613702656 && (ai.2.1 == 0)) = true then (if a6.2.2.1 = true then (if a6.2.2.2 = 0 then (some (a6.1 == 4607182418800017408 && (a6.2.1 == 16))) else (some false)) else (some false)) else (some false)) else (some false)) else (some false)) else (some false)) else (some false)) else (some false)))))))) = some r := h;clear h;obtain ⟨⟨aR, aS, aT⟩, A1, H⟩ := zh H;(try dsimp only at H);obtain ⟨⟨ad, af, aq⟩, A2, H⟩ := zh H;(try dsimp only at H);obtain ⟨⟨aU, aV, aW⟩, A3, H⟩ := zh H;(try dsimp only at H);obtain ⟨⟨aa, ac, ar⟩, A4, H⟩ := zh H;(try dsimp only at H);obtain ⟨aX, aA⟩ : ∃ y_ : List Int, y_ = (([3] : List Int)) := ⟨_, rfl⟩;replace H : ((round_Near.f k false aX (-1)).bind fun ai => ((round_Decide.f k false (([1152921504606846977] : List Int)) (-60) false (([36028797018963969] : List Int)) (-55)).bind fun a6 => (if aq = 0 then (if (ad == 0 && (af == 24)) = true then (if ar = 0 then (if (aa == 9218868437227405312 && (ac == 20)) = true then (if ai.2.2 = 0 then (if (ai.1 == 4609434218613702656 && (ai.2.1 == 0)) = true then (if a6.2.2.1 = true then (if a6.2.2.2 = 0 then (some (a6.1 == 4607182418800017408 && (a6.2.1 == 16))) else (some false)) else (some false)) else (some false)) else (some false)) else (some false)) else (some false)) else (some false)) else (some false)))) = some r := zR aA H;have az := zA aA;clear aA;obtain ⟨⟨a9, ab, aB⟩, A5, H⟩ := zh H;(try dsimp only at H);obtain ⟨aC, aD⟩ : ∃ y_ : List Int, y_ = (([1152921504606846977] : List Int)) := ⟨_, rfl⟩;replace H : ((round_Decide.f k false aC (-60) false (([36028797018963969] : List Int)) (-55)).bind fun a6 => (if aq = 0 then (if (ad == 0 && (af == 24)) = true then (if ar = 0 then (if (aa == 9218868437227405312 && (ac == 20)) = true then (if aB = 0 then (if (a9 == 4609434218613702656 && (ab == 0)) = true then (if a6.2.2.1 = true then (if a6.2.2.2 = 0 then (some (a6.1 == 4607182418800017408 && (a6.2.1 == 16))) else (some false)) else (some false)) else (some false)) else (some false)) else (some false)) else (some false)) else (some false)) else (some false))) = some r := zR aD H;have aZ := zA aD;clear aD;obtain ⟨aY, aE⟩ : ∃ y_ : List Int, y_ = (([36028797018963969] : List Int)) := ⟨_, rfl⟩;replace H : ((round_Decide.f k false aC (-60) false aY (-55)).bind fun a6 => (if aq = 0 then (if (ad == 0 && (af == 24)) = true then (if ar = 0 then (if (aa == 9218868437227405312 && (ac == 20)) = true then (if aB = 0 then (if (a9 == 4609434218613702656 && (ab == 0)) = true then (if a6.2.2.1 = true then (if a6.2.2.2 = 0 then (some (a6.1 == 4607182418800017408 && (a6.2.1 == 16))) else (some false)) else (some false)) else (some false)) else (some false)) else (some false)) else (some false)) else (some false)) else (some false))) = some r := zR aE H;have b1 := zA aE;clear aE;obtain ⟨⟨bg, bh, bi, b3⟩, A6, H⟩ := zh H;(try dsimp only at H)
 by_cases c7 : aq = 0
 ·rw [if_pos c7] at H;have bj := beq_iff_eq.mpr c7;have bk := bne_eq_false_iff_eq.mpr c7;clear c7
  by_cases c8 : (ad == 0 && (af == 24)) = true
  ·rw [if_pos c8] at H;have bl : (ad == 0 && (af == 24)) = true := c8;(try (have bm : decide (ad = 0 && (af == 24)) = true := by simpa using c8));(try (have bn : (ad == 0 && (af == 24)) = true := by simpa using c8));clear c8
   by_cases c9 : ar = 0
   ·rw [if_pos c9] at H;have bo := beq_iff_eq.mpr c9;have bp := bne_eq_false_iff_eq.mpr c9;clear c9
    by_cases c10 : (aa == 9218868437227405312 && (ac == 20)) = true
    ·rw [if_pos c10] at H;have b4 : (aa == 9218868437227405312 && (ac == 20)) = true := c10;(try (have b5 : decide (aa = 9218868437227405312 && (ac == 20)) = true := by simpa using c10));(try (have b6 : (aa == 9218868437227405312 && (ac == 20)) = true := by simpa using c10));clear c10
     by_cases c11 : aB = 0
     ·rw [if_pos c11] at H;have b7 := beq_iff_eq.mpr c11;have b8 := bne_eq_false_iff_eq.mpr c11;clear c11
      by_cases c12 : (a9 == 4609434218613702656 && (ab == 0)) = true
      ·rw [if_pos c12] at H;have b9 : (a9 == 4609434218613702656 && (ab == 0)) = true := c12;(try (have ba : decide (a9 = 4609434218613702656 && (ab == 0)) = true := by simpa using c12));(try (have bb : (a9 == 4609434218613702656 && (ab == 0)) = true := by simpa using c12));clear c12
       by_cases c13 : bi = true
       ·subst c13;rw [if_pos rfl] at H
        by_cases c14 : b3 = 0
        ·rw [if_pos c14] at H;have bc := beq_iff_eq.mpr c14;have bd := bne_eq_false_iff_eq.mpr c14;clear c14;clear hr_;obtain rfl := Option.some.inj H;go_enter Tryd.func12, Tryd.ntmps12
         go_wp2_with (first | ((with_reducible refine zG 30 rfl ?_); refine zL (some 11) rfl rfl Tryd.func30 #[.int .i64 (-1075)] rfl ?_; (with_reducible refine (ulplaw05_power.calls (-1075) aR aS aT _ A1.out).mono ?_); rintro e w15 ⟨v558, rfl, au, hb⟩; refine ⟨_, rfl, ?_⟩; have a2 := zA (R_lower au (below_size bq)); replace HB := ze hb; (try clear au); obtain ⟨br, bs, bt⟩ := R_slice a2.out; subst bt) | ((with_reducible refine zG 8 rfl ?_); refine zL (some 12) rfl rfl Tryd.func8 #[.agg #[.bool aR, .slice br aS.length bs, .int .i64 aT]] rfl ?_; (with_reducible refine (round_Near.calls k aR _ _ aS aT ad af aq _ ?aj ?ak (laid_below hT bq) A2.out).mono ?_); (case aj => exact zk (R_reads' a2.out).2.2); (case ak => exact (R_reads' a2.out).2.1); rintro e w17 ⟨rfl, hb⟩; refine ⟨_, rfl, ?_⟩; replace a2 := zA (R_below (ru a2.out) hb); replace HB := ze hb) | ((with_reducible refine zD 1 rfl ?_); refine zn (N := 1) (cs := #[.int .u64 0, .int .u8 0]) (t := 29) rfl rfl ?_; intro ah hg w18 hbox hb; replace a2 := zA (R_below (ru a2.out) hb); have a1 := zA (hbox); have cd := zw hg; replace HB := ze hb; clear hb hbox hg; have bI : w18.cell? ⟨ah, 0, none⟩ = some (.int .u64 0) := (blk_cell a1.out 0).trans rfl; have bJ : w18.cell? ⟨ah, 1, none⟩ = some (.int .u8 0) := (blk_cell a1.out 1).trans rfl; have bK := blk_frozen a1.out 0; have bL := blk_frozen a1.out 1) | ((with_reducible refine zG 30 rfl ?_); refine zL (some 16) rfl rfl Tryd.func30 #[.int .i64 1024] rfl ?_; (with_reducible refine (ulplaw05_power.calls 1024 aU aV aW _ A3.out).mono ?_); rintro e w20 ⟨v567, rfl, au, hb⟩; refine ⟨_, rfl, ?_⟩; have a4 := zA (R_lower (R_new' au (R_lt (ru (R_mono (R_far (p := ⟨ah, 1, none⟩) (R_far (p := ⟨ah, 0, none⟩) (R_types a2.out a1.out (by decide)) (fun _ hk => hk.2) (.int .u64 ad)) (fun _ hk => hk.2) (.int .u8 af)) (fun _ h_ => h_.1))))) (below_size zs)); replace a2 := zA (R_elder' (ru (R_mono (R_far (p := ⟨ah, 1, none⟩) (R_far (p := ⟨ah, 0, none⟩) (R_types a2.out a1.out (by decide)) (fun _ hk => hk.2) (.int .u64 ad)) (fun _ hk => hk.2) (.int .u8 af)) (fun _ h_ => h_.1))) (R_base au) hb); replace a1 := zA (blk_below (g := ah) (o := .cells #[.int .u64 ad, .int .u8 af] 29 (0, 0)) (by (with_reducible repeat (first | refine blk_drewN ?_ _ | refine blk_drew ?_ | refine blk_alloc ?_ _)); refine blk_put (cs := #[.int .u64 ad, .int .u8 0]) ?_ 1 _ rfl; refine blk_put (cs := #[.int .u64 0, .int .u8 0]) ?_ 0 _ rfl; exact a1.out) hb); replace HB := zf hb; (try clear hk); (try clear au); obtain ⟨bu, bv, bw⟩ := R_slice a4.out; subst bw) | ((with_reducible refine zG 8 rfl ?_); refine zL (some 17) rfl rfl Tryd.func8 #[.agg #[.bool aU, .slice bu aV.length bv, .int .i64 aW]] rfl ?_; (with_reducible refine (round_Near.calls k aU _ _ aV aW aa ac ar _ ?aj ?ak (laid_below hT zs) A4.out).mono ?_); (case aj => exact zk (R_reads' a4.out).2.2); (case ak => exact (R_reads' a4.out).2.1); rintro e w22 ⟨rfl, hb⟩; refine ⟨_, rfl, ?_⟩; replace a2 := zA (R_below (ru a2.out) hb); replace a4 := zA (R_below (ru a4.out) hb); replace a1 := zb a1 hb; replace HB := zf hb) | ((with_reducible refine zD 3 rfl ?_); refine zn (N := 3) (cs := #[.int .u64 0, .int .u8 0]) (t := 29) rfl rfl ?_; intro ae hg w23 hbox hb; replace a2 := zA (R_below (ru a2.out) hb); replace a4 := zA (R_below (ru a4.out) hb); have a3 := zA (hbox); have ce := zx hg; replace HB := zf hb; have aF := zl a1 hg; have aG := zg a1 hg; replace a1 := zb a1 hb; clear hb hbox hg; have cf := aG.out; have cg := aF.out; have bM : w23.cell? ⟨ae, 0, none⟩ = some (.int .u64 0) := (blk_cell a3.out 0).trans rfl; have bN : w23.cell? ⟨ae, 1, none⟩ = some (.int .u8 0) := (blk_cell a3.out 1).trans rfl; have bO := blk_frozen a3.out 0; have bP := blk_frozen a3.out 1) | ((with_reducible refine zD 21 rfl ?_); refine R_lit (Kd.int .u64) _ 26 ?hg (N := 21) ?hd (xs := ([3] : List Int)) (inner := [.int .u64 3]) (ok := fun _ => True) (okp := fun _ => True) ?hr ?hp (fun _ hk => hk) trivial (Below.refl _ _) (Nat.le_refl _) (by simp) ?_; (case hd => rfl); (case hg => rfl); (case hr => first | (go_simp; done) | (go_simp; rfl)); (case hp => exact (Reps.one (show Kd.M (Kd.int .u64) _ _ _ 3 [.int .u64 3] from rfl) (Reps.none _ _))); intro v575 w26 ao hb hg_ hnew_; clear hg_ hnew_; (first | rw [← az.out] at ao | (simp only [Int.reduceToNat] at ao; rw [← az.out] at ao)); have a7 := zA (R_lower (R_new' (R_new' ao (R_lt (ru (R_mono (R_far (p := ⟨ae, 1, none⟩) (R_far (p := ⟨ae, 0, none⟩) (R_types a2.out a3.out (by decide)) (fun _ hk => hk.2) (.int .u64 aa)) (fun _ hk => hk.2) (.int .u8 ac)) (fun _ h_ => h_.1))))) (R_lt (ru (R_mono (R_far (p := ⟨ae, 1, none⟩) (R_far (p := ⟨ae, 0, none⟩) (R_types a4.out a3.out (by decide)) (fun _ hk => hk.2) (.int .u64 aa)) (fun _ hk => hk.2) (.int .u8 ac)) (fun _ h_ => h_.1))))) (below_size zs)); replace a2 := zA (R_elder' (ru (R_mono (R_far (p := ⟨ae, 1, none⟩) (R_far (p := ⟨ae, 0, none⟩) (R_types a2.out a3.out (by decide)) (fun _ hk => hk.2) (.int .u64 aa)) (fun _ hk => hk.2) (.int .u8 ac)) (fun _ h_ => h_.1))) (R_base ao) hb); replace a4 := zA (R_elder' (ru (R_mono (R_far (p := ⟨ae, 1, none⟩) (R_far (p := ⟨ae, 0, none⟩) (R_types a4.out a3.out (by decide)) (fun _ hk => hk.2) (.int .u64 aa)) (fun _ hk => hk.2) (.int .u8 ac)) (fun _ h_ => h_.1))) (R_base ao) hb); replace a1 := zF a1 hb; replace a3 := zA (blk_below (g := ae) (o := .cells #[.int .u64 aa, .int .u8 ac] 29 (0, 0)) (by (with_reducible repeat (first | refine blk_drewN ?_ _ | refine blk_drew ?_ | refine blk_alloc ?_ _)); refine blk_put (cs := #[.int .u64 aa, .int .u8 0]) ?_ 1 _ rfl; refine blk_put (cs := #[.int .u64 0, .int .u8 0]) ?_ 0 _ rfl; exact a3.out) hb); replace HB := zf hb; clear hb ao; obtain ⟨bx, bA, bB⟩ := R_slice a7.out; subst bB) | ((with_reducible refine zG 8 rfl ?_); refine zL (some 23) rfl rfl Tryd.func8 #[.agg #[.bool false, .slice bx aX.length bA, .int .i64 (-1)]] rfl ?_; (with_reducible refine (round_Near.calls k false _ _ aX (-1) a9 ab aB _ ?aj ?ak (laid_below hT zs) A5.out).mono ?_); (case aj => exact zk (R_reads' a7.out).2.2); (case ak => exact (R_reads' a7.out).2.1); rintro e w29 ⟨rfl, hb⟩; refine ⟨_, rfl, ?_⟩; replace a2 := zA (R_below (ru a2.out) hb); replace a4 := zA (R_below (ru a4.out) hb); replace a7 := zA (R_below (ru a7.out) hb); replace a1 := zb a1 hb; replace a3 := zb a3 hb; replace HB := zf hb) | ((with_reducible refine zD 5 rfl ?_); refine zn (N := 5) (cs := #[.int .u64 0, .int .u8 0]) (t := 29) rfl rfl ?_; intro a8 hg w30 hbox hb; replace a2 := zA (R_below (ru a2.out) hb); replace a4 := zA (R_below (ru a4.out) hb); replace a7 := zA (R_below (ru a7.out) hb); have a5 := zA (hbox); have ch := zx hg; replace HB := zf hb; have aH := zl a1 hg; have aI := zg a1 hg; replace a1 := zb a1 hb; have aJ := zl a3 hg; have aK := zg a3 hg; replace a3 := zb a3 hb; clear hb hbox hg; have ci := aI.out; have cj := aH.out; have ck := aK.out; have cl := aJ.out; have bQ : w30.cell? ⟨a8, 0, none⟩ = some (.int .u64 0) := (blk_cell a5.out 0).trans rfl; have bR : w30.cell? ⟨a8, 1, none⟩ = some (.int .u8 0) := (blk_cell a5.out 1).trans rfl; have bS := blk_frozen a5.out 0; have bT := blk_frozen a5.out 1) | ((with_reducible refine zD 27 rfl ?_); refine R_lit (Kd.int .u64) _ 26 ?hg (N := 27) ?hd (xs := ([1152921504606846977] : List Int)) (inner := [.int .u64 1152921504606846977]) (ok := fun _ => True) (okp := fun _ => True) ?hr ?hp (fun _ hk => hk) trivial (Below.refl _ _) (Nat.le_refl _) (by simp) ?_; (case hd => rfl); (case hg => rfl); (case hr => first | (go_simp; done) | (go_simp; rfl)); (case hp => exact (Reps.one (show Kd.M (Kd.int .u64) _ _ _ 1152921504606846977 [.int .u64 1152921504606846977] from rfl) (Reps.none _ _))); intro v582 w34 an hb hg_ hnew_; clear hg_ hnew_; (first | rw [← aZ.out] at an | (simp only [Int.reduceToNat] at an; rw [← aZ.out] at an)); have ag := zA (R_lower (R_new' (R_new' (R_new' an (R_lt (ru (R_mono (R_far (p := ⟨a8, 1, none⟩) (R_far (p := ⟨a8, 0, none⟩) (R_types a2.out a5.out (by decide)) (fun _ hk => hk.2) (.int .u64 a9)) (fun _ hk => hk.2) (.int .u8 ab)) (fun _ h_ => h_.1))))) (R_lt (ru (R_mono (R_far (p := ⟨a8, 1, none⟩) (R_far (p := ⟨a8, 0, none⟩) (R_types a4.out a5.out (by decide)) (fun _ hk => hk.2) (.int .u64 a9)) (fun _ hk => hk.2) (.int .u8 ab)) (fun _ h_ => h_.1))))) (R_lt (ru (R_mono (R_far (p := ⟨a8, 1, none⟩) (R_far (p := ⟨a8, 0, none⟩) (R_types a7.out a5.out (by decide)) (fun _ hk => hk.2) (.int .u64 a9)) (fun _ hk => hk.2) (.int .u8 ab)) (fun _ h_ => h_.1))))) (below_size zs)); replace a2 := zA (R_elder' (ru (R_mono (R_far (p := ⟨a8, 1, none⟩) (R_far (p := ⟨a8, 0, none⟩) (R_types a2.out a5.out (by decide)) (fun _ hk => hk.2) (.int .u64 a9)) (fun _ hk => hk.2) (.int .u8 ab)) (fun _ h_ => h_.1))) (R_base an) hb); replace a4 := zA (R_elder' (ru (R_mono (R_far (p := ⟨a8, 1, none⟩) (R_far (p := ⟨a8, 0, none⟩) (R_types a4.out a5.out (by decide)) (fun _ hk => hk.2) (.int .u64 a9)) (fun _ hk => hk.2) (.int .u8 ab)) (fun _ h_ => h_.1))) (R_base an) hb); replace a7 := zA (R_elder' (ru (R_mono (R_far (p := ⟨a8, 1, none⟩) (R_far (p := ⟨a8, 0, none⟩) (R_types a7.out a5.out (by decide)) (fun _ hk => hk.2) (.int .u64 a9)) (fun _ hk => hk.2) (.int .u8 ab)) (fun _ h_ => h_.1))) (R_base an) hb); replace a1 := zF a1 hb; replace a3 := zF a3 hb; replace a5 := zA (blk_below (g := a8) (o := .cells #[.int .u64 a9, .int .u8 ab] 29 (0, 0)) (by (with_reducible repeat (first | refine blk_drewN ?_ _ | refine blk_drew ?_ | refine blk_alloc ?_ _)); refine blk_put (cs := #[.int .u64 a9, .int .u8 0]) ?_ 1 _ rfl; refine blk_put (cs := #[.int .u64 0, .int .u8 0]) ?_ 0 _ rfl; exact a5.out) hb); replace HB := zf hb; clear hb an; obtain ⟨bC, bD, bE⟩ := R_slice ag.out; subst bE) | ((with_reducible refine zD 29 rfl ?_); refine R_lit (Kd.int .u64) _ 26 ?hg (N := 29) ?hd (xs := ([36028797018963969] : List Int)) (inner := [.int .u64 36028797018963969]) (ok := fun _ => True) (okp := fun _ => True) ?hr ?hp (fun _ hk => hk) trivial (Below.refl _ _) (Nat.le_refl _) (by simp) ?_; (case hd => rfl); (case hg => rfl); (case hr => first | (go_simp; done) | (go_simp; rfl)); (case hp => exact (Reps.one (show Kd.M (Kd.int .u64) _ _ _ 36028797018963969 [.int .u64 36028797018963969] from rfl) (Reps.none _ _))); intro v585 w37 al hb hg_ hnew_; clear hg_ hnew_; (first | rw [← b1.out] at al | (simp only [Int.reduceToNat] at al; rw [← b1.out] at al)); have am := zA (R_lower (R_new' (R_new' (R_new' (R_new' al (R_lt (ru a2.out))) (R_lt (ru a4.out))) (R_lt (ru a7.out))) (R_lt (ru ag.out))) (below_size zs)); replace a2 := zA (R_elder' (ru a2.out) (R_base al) hb); replace a4 := zA (R_elder' (ru a4.out) (R_base al) hb); replace a7 := zA (R_elder' (ru a7.out) (R_base al) hb); replace ag := zA (R_elder' (ru ag.out) (R_base al) hb); replace a1 := zb a1 hb; replace a3 := zb a3 hb; replace a5 := zb a5 hb; replace HB := zf hb; clear hb al; obtain ⟨bF, bG, bH⟩ := R_slice am.out; subst bH) | ((with_reducible refine zG 23 rfl ?_); refine zL (some 32) rfl rfl Tryd.func23 #[.agg #[.bool false, .slice bC aC.length bD, .int .i64 (-60), .bool false, .slice bF aY.length bG, .int .i64 (-55)]] rfl ?_; (with_reducible refine (round_Decide.calls k false _ _ aC (-60) false _ _ aY (-55) bg bh true b3 _ ?aj ?ak ?be ?bf (laid_below hT zs) A6.out).mono ?_); (case aj => exact zk (R_reads' ag.out).2.2); (case ak => exact (R_reads' ag.out).2.1); (case be => exact zk (R_reads' am.out).2.2); (case bf => exact (R_reads' am.out).2.1); rintro e w40 ⟨rfl, hb⟩; refine ⟨_, rfl, ?_⟩; replace a2 := zA (R_below (ru a2.out) hb); replace a4 := zA (R_below (ru a4.out) hb); replace a7 := zA (R_below (ru a7.out) hb); replace ag := zA (R_below (ru ag.out) hb); replace am := zA (R_below (ru am.out) hb); replace a1 := zb a1 hb; replace a3 := zb a3 hb; replace a5 := zb a5 hb; replace HB := zf hb) | ((with_reducible refine zD 7 rfl ?_); refine zn (N := 7) (cs := #[.int .u64 0, .int .u8 0]) (t := 29) rfl rfl ?_; intro b2 hg w41 hbox hb; replace a2 := zA (R_below (ru a2.out) hb); replace a4 := zA (R_below (ru a4.out) hb); replace a7 := zA (R_below (ru a7.out) hb); replace ag := zA (R_below (ru ag.out) hb); replace am := zA (R_below (ru am.out) hb); have ap := zA (hbox); have cm := zx hg; replace HB := zf hb; have aL := zl a1 hg; have aM := zg a1 hg; replace a1 := zb a1 hb; have aN := zl a3 hg; have aO := zg a3 hg; replace a3 := zb a3 hb; have aP := zl a5 hg; have aQ := zg a5 hg; replace a5 := zb a5 hb; clear hb hbox hg; have cn := aM.out; have co := aL.out; have cp := aO.out; have cq := aN.out; have cr := aQ.out; have ct := aP.out; have bU : w41.cell? ⟨b2, 0, none⟩ = some (.int .u64 0) := (blk_cell ap.out 0).trans rfl; have bV : w41.cell? ⟨b2, 1, none⟩ = some (.int .u8 0) := (blk_cell ap.out 1).trans rfl; have bW := blk_frozen ap.out 0; have bX := blk_frozen ap.out 1; have bY : w41.cell? ⟨ah, 0, none⟩ = some (.int .u64 ad) := (blk_cell a1.out 0).trans rfl; have bz : w41.cell? ⟨ah, 1, none⟩ = some (.int .u8 af) := (blk_cell a1.out 1).trans rfl; have bZ := blk_frozen a1.out 0; have c1 := blk_frozen a1.out 1; have c2 : w41.cell? ⟨ae, 0, none⟩ = some (.int .u64 aa) := (blk_cell a3.out 0).trans rfl; have c3 : w41.cell? ⟨ae, 1, none⟩ = some (.int .u8 ac) := (blk_cell a3.out 1).trans rfl; have c4 := blk_frozen a3.out 0; have c5 := blk_frozen a3.out 1; have c6 : w41.cell? ⟨a8, 0, none⟩ = some (.int .u64 a9) := (blk_cell a5.out 0).trans rfl; have ca : w41.cell? ⟨a8, 1, none⟩ = some (.int .u8 ab) := (blk_cell a5.out 1).trans rfl; have cb := blk_frozen a5.out 0; have cc := blk_frozen a5.out 1))
         go_ret;exact ⟨er, zs⟩
        rw [if_neg c14] at H;have bc := beq_eq_false_iff_ne.mpr c14;have bd := bne_iff_ne.mpr c14;obtain rfl := Option.some.inj H;exact absurd hr_.out (by decide)
       replace c13 := Bool.eq_false_iff.mpr c13;subst c13;rw [if_neg (show ¬ (false = true) by decide)] at H;obtain rfl := Option.some.inj H;exact absurd hr_.out (by decide)
      rw [if_neg c12] at H
      have b9 : (a9 == 4609434218613702656 && (ab == 0)) = false := by simpa using c12
      (try (have ba : decide (a9 = 4609434218613702656 && (ab == 0)) = false := by simpa using c12));(try (have bb : (a9 == 4609434218613702656 && (ab == 0)) = false := by simpa using c12));(try (have cu : ¬ (a9 = 4609434218613702656 && (ab == 0)) := by simpa using c12));clear c12;obtain rfl := Option.some.inj H;exact absurd hr_.out (by decide)
     rw [if_neg c11] at H;have b7 := beq_eq_false_iff_ne.mpr c11;have b8 := bne_iff_ne.mpr c11;obtain rfl := Option.some.inj H;exact absurd hr_.out (by decide)
    rw [if_neg c10] at H
    have b4 : (aa == 9218868437227405312 && (ac == 20)) = false := by simpa using c10
    (try (have b5 : decide (aa = 9218868437227405312 && (ac == 20)) = false := by simpa using c10));(try (have b6 : (aa == 9218868437227405312 && (ac == 20)) = false := by simpa using c10));(try (have cv : ¬ (aa = 9218868437227405312 && (ac == 20)) := by simpa using c10));clear c10;obtain rfl := Option.some.inj H;exact absurd hr_.out (by decide)
   rw [if_neg c9] at H;have bo := beq_eq_false_iff_ne.mpr c9;have bp := bne_iff_ne.mpr c9;obtain rfl := Option.some.inj H;exact absurd hr_.out (by decide)
  rw [if_neg c8] at H
  have bl : (ad == 0 && (af == 24)) = false := by simpa using c8
  (try (have bm : decide (ad = 0 && (af == 24)) = false := by simpa using c8));(try (have bn : (ad == 0 && (af == 24)) = false := by simpa using c8));(try (have cw : ¬ (ad = 0 && (af == 24)) := by simpa using c8));clear c8;obtain rfl := Option.some.inj H;exact absurd hr_.out (by decide)
 rw [if_neg c7] at H;have bj := beq_eq_false_iff_ne.mpr c7;have bk := bne_iff_ne.mpr c7;obtain rfl := Option.some.inj H;exact absurd hr_.out (by decide)
def bits_Split.f (a0 : Int) : Option (Bool × Int × Int) := some (((Go.bits .and .u64 a0 9223372036854775808) != 0), wrap64 (Go.bits .and .u64 (a0 / 4503599627370496) 2047), Go.bits .and .u64 a0 4503599627370495)
set_option maxHeartbeats 8000000 in
set_option maxRecDepth 100000 in
theorem bits_Split.calls (a0 : Int) (r1 : Bool) (r2 : Int) (r3 : Int) (w : World) (h : bits_Split.f a0 = some (r1, r2, r3)) :
  Calls Tryd.prog 47 #[.int .u64 a0] w fun e w' => e = .returned (.agg #[.bool r1, .int .i64 r2, .int .u64 r3]) ∧ Below w.heap.size w w' := by
 have hu75 := Tryd.underlying75;have HB := zA (Below.refl w.heap.size w);have H : (some (((Go.bits .and .u64 a0 9223372036854775808) != 0), wrap64 (Go.bits .and .u64 (a0 / 4503599627370496) 2047), Go.bits .and .u64 a0 4503599627370495)) = some (r1, r2, r3) := h;clear h;simp only [Option.some.injEq, Prod.mk.injEq] at H;obtain ⟨rfl, rfl, rfl⟩ := H;go_enter Tryd.func47, Tryd.ntmps47
 go_wp2_with (first | ((with_reducible refine zD 2 rfl ?_); refine zn (N := 2) (cs := #[.bool false, .int .i64 0, .int .u64 0]) (t := 75) rfl rfl ?_; intro a2 hg w2 hbox hb; have a1 := zA (hbox); have a3 := zw hg; replace HB := ze hb; clear hb hbox hg; obtain ⟨_, _, _, _, _, _⟩ := zc a1))
 refine bodyPost_ret (results_cell_row rfl _ _ a2 75 #[.bool ((Go.bits .and .u64 a0 9223372036854775808) != 0), .int .i64 (wrap64 (Go.bits .and .u64 (a0 / 4503599627370496) 2047)), .int .u64 (Go.bits .and .u64 a0 4503599627370495)] (0, 0) _ rfl (zy a1) Tryd.underlying75 rfl (by kernel_rfl)) rfl ?_;exact ⟨er, zs⟩
mutual
def bits_Class.j0 : Nat → Bool → Bool → Int → Int → Option (Int)
 | 0, _, _, _, _ => none
 | k + 1, x6, a3, a1, a2 => if x6 = true then (some 4) else (if a1 = 2047 then (bits_Class.j1 k ((Go.bits .and .u64 a2 2251799813685248) != 0) a3 a1 a2) else (bits_Class.j1 k false a3 a1 a2))
def bits_Class.j1 : Nat → Bool → Bool → Int → Int → Option (Int)
 | 0, _, _, _, _ => none
 | k + 1, x15, a3, a1, a2 => if x15 = true then (some 5) else (if a1 = 2047 then (some 6) else (if a1 > 0 then (some 3) else (if a2 > 0 then (some 2) else (some 1))))
end
def bits_Class.f (k : Nat) (a0 : Int) : Option (Int) := (bits_Split.f a0).bind fun a1 => (if a1.2.1 = 2047 then (bits_Class.j0 k (a1.2.2 == 0) a1.1 a1.2.1 a1.2.2) else (bits_Class.j0 k false a1.1 a1.2.1 a1.2.2))
set_option maxHeartbeats 8000000 in
set_option maxRecDepth 100000 in
theorem bits_Class.calls (k : Nat) (a0 : Int) (r : Int) (w : World) (h : bits_Class.f k a0 = some r) :
  Calls Tryd.prog 19 #[.int .u64 a0] w fun e w' => e = .returned (.int .u8 r) ∧ Below w.heap.size w w' := by
 have hu75 := Tryd.underlying75;have HB := zA (Below.refl w.heap.size w);have H : ((bits_Split.f a0).bind fun a2 => (if a2.2.1 = 2047 then (bits_Class.j0 k (a2.2.2 == 0) a2.1 a2.2.1 a2.2.2) else (bits_Class.j0 k false a2.1 a2.2.1 a2.2.2))) = some r := h;clear h;obtain ⟨⟨a8, a3, a4⟩, A2, H⟩ := zh H;(try dsimp only at H);have ak := zA H;clear H;go_enter Tryd.func19, Tryd.ntmps19
 go_upto_region 2 with (first | ((with_reducible refine zG 47 rfl ?_); refine zL (some 5) rfl rfl Tryd.func47 #[.int .u64 a0] rfl ?_; (with_reducible refine (bits_Split.calls a0 a8 a3 a4 _ A2.out).mono ?_); rintro e w4 ⟨rfl, hb⟩; refine ⟨_, rfl, ?_⟩; replace HB := ze hb) | ((with_reducible refine zD 3 rfl ?_); refine zn (N := 3) (cs := #[.bool false, .int .i64 0, .int .u64 0]) (t := 75) rfl rfl ?_; intro ai hg w5 hbox hb; have a1 := zA (hbox); have ar := zw hg; replace HB := ze hb; clear hb hbox hg; obtain ⟨aa, ab, ac, ad, ae, af⟩ := zc a1))
 (try simp only [Act.put, List.setIfInBounds_toArray, List.set_cons_zero, List.set_cons_succ])
 go_cut [6] (fun v6 wc => ∃ (kq : Nat) (a9 : Bool), v6 = .bool a9 ∧ Aside0 (bits_Class.j0 kq a9 a8 a3 a4 = some r) ∧ Aside0 (kq ≤ k) ∧ Aside0 (wc.heap[ai]? = some (.cells #[.bool a8, .int .i64 a3, .int .u64 a4] 75 (0, 0))) ∧ Aside0 (Below w.heap.size w wc))
 case first =>
  have H := ak.out;clear ak
  by_cases c7 : a3 = 2047
  ·rw [if_pos c7] at H;have a6 := beq_iff_eq.mpr c7;have ag := bne_eq_false_iff_eq.mpr c7;clear c7
   (first | rw [a6] | (simp only [i64_w, i32_w]; rw [a6]) | skip)
   have H' := zA H;clear H;obtain ⟨_, _, _, _, _, _⟩ := zc a1
   go_wp2
   go_meet
   case rel => exact ⟨_, ((a4 == 0)), zi, H', ⟨by first | omega | exact Nat.le_refl _⟩, ⟨by (with_reducible repeat (first | refine blk_drewN ?_ _ | refine blk_drew ?_ | refine blk_alloc ?_ _)); exact zp (zu a1)⟩, ⟨zs⟩⟩
  rw [if_neg c7] at H;have a6 := beq_eq_false_iff_ne.mpr c7;have ag := bne_iff_ne.mpr c7
  (first | rw [a6] | (simp only [i64_w, i32_w]; rw [a6]) | skip)
  have H' := zA H;clear H;obtain ⟨_, _, _, _, _, _⟩ := zc a1
  go_wp2
  go_meet
  case rel => exact ⟨_, (false), zi, H', ⟨by first | omega | exact Nat.le_refl _⟩, ⟨by (with_reducible repeat (first | refine blk_drewN ?_ _ | refine blk_drew ?_ | refine blk_alloc ?_ _)); exact zp (zu a1)⟩, ⟨zs⟩⟩
 case rest =>
  clear ak
  try clear c4
  try clear c7
  try clear a6
  try clear ag
  try clear aa ab ac ad ae af
  obtain ⟨kq, a9, rfl, HA, ap, a1, HB⟩ := hcut
  cases kq with
  | zero => exact absurd HA.out (by simp [bits_Class.j0])
  | succ aq =>
   have H := HA.out;clear HA;simp only [bits_Class.j0] at H
   by_cases c10 : a9 = true
   ·subst c10;rw [if_pos rfl] at H;obtain rfl := Option.some.inj H
    go_wp2
    go_ret;exact ⟨er, zs⟩
   replace c10 := Bool.eq_false_iff.mpr c10;subst c10;rw [if_neg (show ¬ (false = true) by decide)] at H;have ah := zA H;clear H
   go_upto_region 4 with (fail)
   go_cut [15] (fun v15 wc => ∃ (kq : Nat) (a7 : Bool), v15 = .bool a7 ∧ Aside0 (bits_Class.j1 kq a7 a8 a3 a4 = some r) ∧ Aside0 (kq ≤ aq) ∧ Aside0 (wc.heap[ai]? = some (.cells #[.bool a8, .int .i64 a3, .int .u64 a4] 75 (0, 0))) ∧ Aside0 (Below w.heap.size w wc))
   case first =>
    have H := ah.out;clear ah
    by_cases c12 : a3 = 2047
    ·rw [if_pos c12] at H;have a5 := beq_iff_eq.mpr c12;have aj := bne_eq_false_iff_eq.mpr c12;clear c12
     (first | rw [a5] | (simp only [i64_w, i32_w]; rw [a5]) | skip)
     have H' := zA H;clear H;obtain ⟨_, _, _, _, _, _⟩ := zc a1
     go_wp2
     go_meet
     case rel => exact ⟨_, (((Go.bits .and .u64 a4 2251799813685248) != 0)), zi, H', ⟨by have := ap.out; first | omega | exact Nat.le_refl _⟩, ⟨zu a1⟩, ⟨zs⟩⟩
    rw [if_neg c12] at H;have a5 := beq_eq_false_iff_ne.mpr c12;have aj := bne_iff_ne.mpr c12
    (first | rw [a5] | (simp only [i64_w, i32_w]; rw [a5]) | skip)
    have H' := zA H;clear H;obtain ⟨_, _, _, _, _, _⟩ := zc a1
    go_wp2
    go_meet
    case rel => exact ⟨_, (false), zi, H', ⟨by have := ap.out; first | omega | exact Nat.le_refl _⟩, ⟨zu a1⟩, ⟨zs⟩⟩
   case rest =>
    clear ah
    try clear c4
    try clear c7
    try clear a6
    try clear ag
    try clear c10
    try clear c12
    try clear a5
    try clear aj
    try clear aa ab ac ad ae af
    obtain ⟨kq, a7, rfl, HA, au, a1, HB⟩ := hcut
    cases kq with
    | zero => exact absurd HA.out (by simp [bits_Class.j1])
    | succ av =>
     have H := HA.out;clear HA;simp only [bits_Class.j1] at H
     by_cases c15 : a7 = true
     ·subst c15;rw [if_pos rfl] at H;obtain rfl := Option.some.inj H
      go_wp2
      go_ret;exact ⟨er, zs⟩
     replace c15 := Bool.eq_false_iff.mpr c15;subst c15;rw [if_neg (show ¬ (false = true) by decide)] at H
     by_cases c16 : a3 = 2047
     ·rw [if_pos c16] at H;have al := beq_iff_eq.mpr c16;have am := bne_eq_false_iff_eq.mpr c16;clear c16;obtain rfl := Option.some.inj H;obtain ⟨_, _, _, _, _, _⟩ := zc a1
      go_wp2
      go_ret;exact ⟨er, zs⟩
     rw [if_neg c16] at H;have al := beq_eq_false_iff_ne.mpr c16;have am := bne_iff_ne.mpr c16
     by_cases c18 : a3 > 0
     ·rw [if_pos c18] at H;have an := decide_eq_true c18;clear c18;obtain rfl := Option.some.inj H;obtain ⟨_, _, _, _, _, _⟩ := zc a1
      go_wp2
      go_ret;exact ⟨er, zs⟩
     rw [if_neg c18] at H;have an := decide_eq_false c18;clear c18
     by_cases c20 : a4 > 0
     ·rw [if_pos c20] at H;have ao := decide_eq_true c20;clear c20;obtain rfl := Option.some.inj H;obtain ⟨_, _, _, _, _, _⟩ := zc a1
      go_wp2
      go_ret;exact ⟨er, zs⟩
     rw [if_neg c20] at H;have ao := decide_eq_false c20;clear c20;obtain rfl := Option.some.inj H;obtain ⟨_, _, _, _, _, _⟩ := zc a1
     go_wp2
     go_ret;exact ⟨er, zs⟩
def bits_number.f (a0 : Int) : Option (Bool) := (bits_amount.f a0).bind fun a1 => (some (decide (a1 ≤ 9218868437227405312)))
set_option maxHeartbeats 8000000 in
set_option maxRecDepth 100000 in
theorem bits_number.calls (a0 : Int) (r : Bool) (w : World) (h : bits_number.f a0 = some r) :
  Calls Tryd.prog 41 #[.int .u64 a0] w fun e w' => e = .returned (.bool r) ∧ Drawn0 w w' := by
 have H : ((bits_amount.f a0).bind fun a1 => (some (decide (a1 ≤ 9218868437227405312)))) = some r := h;clear h;obtain ⟨a1, A2, H⟩ := zh H;obtain rfl := Option.some.inj H;go_enter Tryd.func41, Tryd.ntmps41
 go_wp2_with (first | ((with_reducible refine zG 48 rfl ?_); refine zL (some 4) rfl rfl Tryd.func48 #[.int .u64 a0] rfl ?_; (with_reducible refine (bits_amount.calls a0 a1 _ A2.out).mono ?_); rintro e w' ⟨rfl, ⟨nd, rfl⟩⟩; refine ⟨_, rfl, ?_⟩))
 go_ret;exact ⟨by first | rfl | (simp; done) | (simp [*]; done), by repeat (first | exact Drawn0.refl _ | apply Drawn0.step)⟩
def bits_Up.j0 : Nat → Int → Bool → Option (Int)
 | 0, _, _ => none
 | k + 1, x0, x3 => if x3 = true then (some x0) else ((bits_amount.f x0).bind fun a1 => (if a1 = 0 then (some 1) else (if (Go.bits .and .u64 x0 9223372036854775808) = 0 then (some (IntKind.u64.wrap (x0 + 1))) else (some (IntKind.u64.wrap (x0 - 1))))))
def bits_Up.f (k : Nat) (a0 : Int) : Option (Int) := (bits_number.f a0).bind fun a1 => (if a1 = true then (bits_Up.j0 k a0 (a0 == 9218868437227405312)) else (bits_Up.j0 k a0 true))
set_option maxHeartbeats 8000000 in
set_option maxRecDepth 100000 in
theorem bits_Up.calls (k : Nat) (a0 : Int) (r : Int) (w : World) (h : bits_Up.f k a0 = some r) :
  Calls Tryd.prog 21 #[.int .u64 a0] w fun e w' => e = .returned (.int .u64 r) ∧ Drawn0 w w' := by
 have H : ((bits_number.f a0).bind fun a3 => (if a3 = true then (bits_Up.j0 k a0 (a0 == 9218868437227405312)) else (bits_Up.j0 k a0 true))) = some r := h;clear h;have a4 := zA H;clear H;go_enter Tryd.func21, Tryd.ntmps21
 go_upto_region 1 with (fail)
 go_cut [3] (fun v3 wc => ∃ (kq : Nat) (a1 : Bool), v3 = .bool a1 ∧ Aside0 (bits_Up.j0 kq a0 a1 = some r) ∧ Aside0 (kq ≤ k) ∧ Drawn0 w wc)
 case first =>
  have H := a4.out;clear a4;obtain ⟨a3, A3, H⟩ := zh H
  by_cases c4 : a3 = true
  ·subst c4;rw [if_pos rfl] at H;have H' := zA H;clear H
   go_wp2_with (first | ((with_reducible refine zG 41 rfl ?_); refine zL (some 5) rfl rfl Tryd.func41 #[.int .u64 a0] rfl ?_; (with_reducible refine (bits_number.calls a0 true _ A3.out).mono ?_); rintro e w' ⟨rfl, ⟨nd, rfl⟩⟩; refine ⟨_, rfl, ?_⟩))
   go_meet
   case rel => exact ⟨_, ((a0 == 9218868437227405312)), zi, H', ⟨by first | omega | exact Nat.le_refl _⟩, by repeat (first | exact Drawn0.refl _ | apply Drawn0.step)⟩
  replace c4 := Bool.eq_false_iff.mpr c4;subst c4;rw [if_neg (show ¬ (false = true) by decide)] at H;have H' := zA H;clear H
  go_wp2_with (first | ((with_reducible refine zG 41 rfl ?_); refine zL (some 5) rfl rfl Tryd.func41 #[.int .u64 a0] rfl ?_; (with_reducible refine (bits_number.calls a0 false _ A3.out).mono ?_); rintro e w' ⟨rfl, ⟨nd, rfl⟩⟩; refine ⟨_, rfl, ?_⟩))
  go_meet
  case rel => exact ⟨_, (true), zi, H', ⟨by first | omega | exact Nat.le_refl _⟩, by repeat (first | exact Drawn0.refl _ | apply Drawn0.step)⟩
 case rest =>
  clear a4
  try clear c2
  try clear c4
  obtain ⟨kq, a1, rfl, HA, a9, ⟨mc1, rfl⟩⟩ := hcut
  cases kq with
  | zero => exact absurd HA.out (by simp [bits_Up.j0])
  | succ aa =>
   have H := HA.out;clear HA;simp only [bits_Up.j0] at H
   by_cases c5 : a1 = true
   ·subst c5;rw [if_pos rfl] at H;obtain rfl := Option.some.inj H
    go_wp2
    go_ret;exact ⟨by first | rfl | (simp; done) | (simp [*]; done), by repeat (first | exact Drawn0.refl _ | apply Drawn0.step)⟩
   replace c5 := Bool.eq_false_iff.mpr c5;subst c5;rw [if_neg (show ¬ (false = true) by decide)] at H;obtain ⟨a2, A6, H⟩ := zh H
   by_cases c7 : a2 = 0
   ·rw [if_pos c7] at H;have a5 := beq_iff_eq.mpr c7;have a6 := bne_eq_false_iff_eq.mpr c7;clear c7;obtain rfl := Option.some.inj H
    go_wp2_with (first | ((with_reducible refine zG 48 rfl ?_); refine zL (some 14) rfl rfl Tryd.func48 #[.int .u64 a0] rfl ?_; (with_reducible refine (bits_amount.calls a0 a2 _ A6.out).mono ?_); rintro e w' ⟨rfl, ⟨nd, rfl⟩⟩; refine ⟨_, rfl, ?_⟩))
    go_ret;exact ⟨by first | rfl | (simp; done) | (simp [*]; done), by repeat (first | exact Drawn0.refl _ | apply Drawn0.step)⟩
   rw [if_neg c7] at H;have a5 := beq_eq_false_iff_ne.mpr c7;have a6 := bne_iff_ne.mpr c7
   by_cases c8 : (Go.bits .and .u64 a0 9223372036854775808) = 0
   ·rw [if_pos c8] at H;have a7 := beq_iff_eq.mpr c8;have a8 := bne_eq_false_iff_eq.mpr c8;clear c8;obtain rfl := Option.some.inj H
    go_wp2_with (first | ((with_reducible refine zG 48 rfl ?_); refine zL (some 14) rfl rfl Tryd.func48 #[.int .u64 a0] rfl ?_; (with_reducible refine (bits_amount.calls a0 a2 _ A6.out).mono ?_); rintro e w' ⟨rfl, ⟨nd, rfl⟩⟩; refine ⟨_, rfl, ?_⟩))
    go_ret;exact ⟨by first | rfl | (simp; done) | (simp [*]; done), by repeat (first | exact Drawn0.refl _ | apply Drawn0.step)⟩
   rw [if_neg c8] at H;have a7 := beq_eq_false_iff_ne.mpr c8;have a8 := bne_iff_ne.mpr c8;obtain rfl := Option.some.inj H
   go_wp2_with (first | ((with_reducible refine zG 48 rfl ?_); refine zL (some 14) rfl rfl Tryd.func48 #[.int .u64 a0] rfl ?_; (with_reducible refine (bits_amount.calls a0 a2 _ A6.out).mono ?_); rintro e w' ⟨rfl, ⟨nd, rfl⟩⟩; refine ⟨_, rfl, ?_⟩))
   go_ret;exact ⟨by first | rfl | (simp; done) | (simp [*]; done), by repeat (first | exact Drawn0.refl _ | apply Drawn0.step)⟩
def bits_place.f (a0 : Int) : Option (Int) := if (Go.bits .and .u64 a0 9223372036854775808) = 0 then (some (wrap64 (a0))) else ((bits_amount.f a0).bind fun a1 => (some (wrap64 (-(wrap64 (a1))))))
set_option maxHeartbeats 8000000 in
set_option maxRecDepth 100000 in
theorem bits_place.calls (a0 : Int) (r : Int) (w : World) (h : bits_place.f a0 = some r) :
  Calls Tryd.prog 42 #[.int .u64 a0] w fun e w' => e = .returned (.int .i64 r) ∧ Drawn0 w w' := by
 have H : (if (Go.bits .and .u64 a0 9223372036854775808) = 0 then (some (wrap64 (a0))) else ((bits_amount.f a0).bind fun a1 => (some (wrap64 (-(wrap64 (a1))))))) = some r := h;clear h
 by_cases c2 : (Go.bits .and .u64 a0 9223372036854775808) = 0
 ·rw [if_pos c2] at H;have a2 := beq_iff_eq.mpr c2;have a3 := bne_eq_false_iff_eq.mpr c2;clear c2;obtain rfl := Option.some.inj H;go_enter Tryd.func42, Tryd.ntmps42
  go_wp2
  go_ret;exact ⟨by first | rfl | (simp; done) | (simp [*]; done), by repeat (first | exact Drawn0.refl _ | apply Drawn0.step)⟩
 rw [if_neg c2] at H;have a2 := beq_eq_false_iff_ne.mpr c2;have a3 := bne_iff_ne.mpr c2;obtain ⟨a1, A3, H⟩ := zh H;obtain rfl := Option.some.inj H;go_enter Tryd.func42, Tryd.ntmps42
 go_wp2_with (first | ((with_reducible refine zG 48 rfl ?_); refine zL (some 7) rfl rfl Tryd.func48 #[.int .u64 a0] rfl ?_; (with_reducible refine (bits_amount.calls a0 a1 _ A3.out).mono ?_); rintro e w' ⟨rfl, ⟨nd, rfl⟩⟩; refine ⟨_, rfl, ?_⟩))
 go_ret;exact ⟨by first | rfl | (simp; done) | (simp [*]; done), by repeat (first | exact Drawn0.refl _ | apply Drawn0.step)⟩
end Go.Proofs.YtnjfckadjklmfaaDoor.PAll
