/- Printed functions, merged by a program of this session. -/
import Derived.Test.YtnjfckadjklmfaaDoorXRoundPointsP0
import Derived.Test.YtnjfckadjklmfaaDoorXRoundPointsP1
import Derived.Test.YtnjfckadjklmfaaDoorXRoundPointsP4
import Derived.Test.YtnjfckadjklmfaaDoorXRoundPointsSh
namespace Go.Proofs.YtnjfckadjklmfaaDoor.PAll
open Go.RowKit Go.Proofs.YtnjfckadjklmfaaDoorW.PrintWords Go.Proofs.YtnjfckadjklmfaaDoorW.PrintLast Go.Proofs.YtnjfckadjklmfaaDoorW.PrintMore Go.Proofs.YtnjfckadjklmfaaDoorW.PrintWords.Kd
attribute [local go_sem] max2_int min2_int max_two min_two max_three min_three max_four min_four   -- for this text's walks alone
set_option linter.unusedVariables false
set_option linter.unusedSimpArgs false
attribute [local go_sem] fld75_0 fld75_1 fld75_2 ext118 ext119
def round_amount_nearest.j0 : Nat → Int → Int → Bool → Option (Int × Bool)
 | 0, _, _, _ => none
 | k + 1, x5, x6, x7 => if x6 < 4503599627370496 then (some (x6, x7)) else (if x5 > 971 then (some (9218868437227405312, true)) else (some (IntKind.u64.wrap ((IntKind.u64.wrap ((IntKind.u64.wrap ((IntKind.u64.wrap (wrap64 (x5 + 1075))) * 4503599627370496)) + x6)) - 4503599627370496), x7)))
def round_amount_nearest.f (k : Nat) (a3 : List Int) (a4 : Int) : Option (Int × Bool) := (round_amount_top.f k a3 a4).bind fun a2 => ((round_amount_zero.f a3 a4).bind fun a5 => (if a5 = true then (some (0, false)) else (if a2 > 1024 then (some (9218868437227405312, true)) else (if a2 < (-1074) then (some (0, true)) else ((round_amount_at.f k a3 a4 (mx (wrap64 (a2 - 53)) (-1074))).bind fun a1 => (if a1.1 = 9007199254740992 then (round_amount_nearest.j0 k (wrap64 ((mx (wrap64 (a2 - 53)) (-1074)) + 1)) (a1.1 / 2) a1.2) else (round_amount_nearest.j0 k (mx (wrap64 (a2 - 53)) (-1074)) a1.1 a1.2)))))))
theorem round_amount_nearest.mono_l : ∀ k, (∀ y0 y1 y2, LeO (round_amount_nearest.j0 k y0 y1 y2) (round_amount_nearest.j0 (k + 1) y0 y1 y2))
 | 0 => fun _ _ _ r h => by simp [round_amount_nearest.j0] at h
 | k + 1 => by
  have ih0 := round_amount_nearest.mono_l k;intro y0 y1 y2
  unfold round_amount_nearest.j0
  repeat' first
  | (with_reducible exact ih0 _ _ _)
  | (with_reducible exact round_amount_at.mono _ _ _ _)
  | (with_reducible exact round_amount_top.mono _ _ _)
  | (with_reducible exact LeO.refl _)
  | (with_reducible exact LeO.none _)
  | (with_reducible refine LeO.ite ?_ ?_)
  | (with_reducible refine LeO.bind ?_ (fun _ => ?_))
  | exact ih0 _ _ _
  | exact round_amount_at.mono _ _ _ _
  | exact round_amount_top.mono _ _ _
  | exact LeO.none _
  | refine LeO.ite ?_ ?_
  | refine LeO.bind ?_ (fun _ => ?_)
theorem round_amount_nearest.mono : ∀ a0 a1 k, LeO (round_amount_nearest.f k a0 a1) (round_amount_nearest.f (k + 1) a0 a1) := by
 intro a0 a1 k;have ih0 := round_amount_nearest.mono_l k
 unfold round_amount_nearest.f
 repeat' first
   | (with_reducible exact ih0 _ _ _)
   | (with_reducible exact round_amount_at.mono _ _ _ _)
   | (with_reducible exact round_amount_top.mono _ _ _)
   | (with_reducible exact LeO.refl _)
   | (with_reducible exact LeO.none _)
   | (with_reducible refine LeO.ite ?_ ?_)
   | (with_reducible refine LeO.bind ?_ (fun _ => ?_))
   | exact ih0 _ _ _
   | exact round_amount_at.mono _ _ _ _
   | exact round_amount_top.mono _ _ _
   | exact LeO.none _
   | refine LeO.ite ?_ ?_
   | refine LeO.bind ?_ (fun _ => ?_)
set_option maxHeartbeats 8000000 in
set_option maxRecDepth 100000 in
theorem round_amount_nearest.calls (k : Nat) (a5 : Option Addr) (a6 : Nat) (a2 : List Int) (a3 : Int) (r1 : Int) (r2 : Bool) (w : World) (am : Kd.C (Kd.int .u64) w a5 a2.length a2) (an : a2.length ≤ a6) (hT : Laid w) (h : round_amount_nearest.f k a2 a3 = some (r1, r2)) :
  Calls Tryd.prog 68 #[.agg #[.slice a5 a2.length a6, .int .i64 a3]] w fun e w' => e = .returned (.tuple #[.int .u64 r1, .bool r2]) ∧ Below w.heap.size w w' := by
 have hu64 := Tryd.underlying64;have ac := zA am;have ad := zA an;clear am an;have HB := zA (Below.refl w.heap.size w);have H : ((round_amount_top.f k a2 a3).bind fun aa => ((round_amount_zero.f a2 a3).bind fun ak => (if ak = true then (some (0, false)) else (if aa > 1024 then (some (9218868437227405312, true)) else (if aa < (-1074) then (some (0, true)) else ((round_amount_at.f k a2 a3 (mx (wrap64 (aa - 53)) (-1074))).bind fun ab => (if ab.1 = 9007199254740992 then (round_amount_nearest.j0 k (wrap64 ((mx (wrap64 (aa - 53)) (-1074)) + 1)) (ab.1 / 2) ab.2) else (round_amount_nearest.j0 k (mx (wrap64 (aa - 53)) (-1074)) ab.1 ab.2)))))))) = some (r1, r2) := h;clear h;obtain ⟨aa, A2, H⟩ := zh H;obtain ⟨ak, A3, H⟩ := zh H
 by_cases c4 : ak = true
 ·subst c4;rw [if_pos rfl] at H;simp only [Option.some.injEq, Prod.mk.injEq] at H;obtain ⟨rfl, rfl⟩ := H;go_enter Tryd.func68, Tryd.ntmps68
  go_wp2_with (first | ((with_reducible refine zD 1 rfl ?_); refine zn (N := 1) (cs := #[.slice a5 a2.length a6, .int .i64 a3]) (t := 64) rfl rfl ?_; intro a4 hg w5 hbox hb; have a1 := zA (hbox); have ai := zw hg; replace HB := ze hb; clear hb hbox hg; have aW : w5.cell? ⟨a4, 0, none⟩ = some (.slice a5 a2.length a6) := (blk_cell a1.out 0).trans rfl; have aX : w5.cell? ⟨a4, 1, none⟩ = some (.int .i64 a3) := (blk_cell a1.out 1).trans rfl; have aY := blk_frozen a1.out 0; have az := blk_frozen a1.out 1) | ((with_reducible refine zG 76 rfl ?_); refine zL (some 9) rfl rfl Tryd.func76 #[.agg #[.slice a5 a2.length a6, .int .i64 a3]] rfl ?_; (with_reducible refine (round_amount_top.calls k _ _ a2 a3 aa _ ?a7 ?a8 A2.out).mono ?_); (case a7 => exact zk (C_below ac.out HB.out)); (case a8 => exact ad.out); rintro e w7 ⟨rfl, hb⟩; refine ⟨_, rfl, ?_⟩; replace a1 := zb a1 hb; replace HB := zf hb; have aZ : w7.cell? ⟨a4, 0, none⟩ = some (.slice a5 a2.length a6) := (blk_cell a1.out 0).trans rfl; have b1 : w7.cell? ⟨a4, 1, none⟩ = some (.int .i64 a3) := (blk_cell a1.out 1).trans rfl; have b2 := blk_frozen a1.out 0; have b3 := blk_frozen a1.out 1) | ((with_reducible refine zG 50 rfl ?_); refine zL (some 12) rfl rfl Tryd.func50 #[.agg #[.slice a5 a2.length a6, .int .i64 a3]] rfl ?_; (with_reducible refine (round_amount_zero.calls _ _ a2 a3 true _ ?a7 ?a8 A3.out).mono ?_); (case a7 => exact zk (C_below ac.out HB.out)); (case a8 => exact ad.out); rintro e w9 ⟨rfl, hb⟩; refine ⟨_, rfl, ?_⟩; replace a1 := zb a1 hb; replace HB := zf hb))
  go_ret2
  exact ⟨er, zs⟩
 replace c4 := Bool.eq_false_iff.mpr c4;subst c4;rw [if_neg (show ¬ (false = true) by decide)] at H
 by_cases c10 : aa > 1024
 ·rw [if_pos c10] at H;have ao := decide_eq_true c10;clear c10;simp only [Option.some.injEq, Prod.mk.injEq] at H;obtain ⟨rfl, rfl⟩ := H;go_enter Tryd.func68, Tryd.ntmps68
  go_wp2_with (first | ((with_reducible refine zD 1 rfl ?_); refine zn (N := 1) (cs := #[.slice a5 a2.length a6, .int .i64 a3]) (t := 64) rfl rfl ?_; intro a4 hg w11 hbox hb; have a1 := zA (hbox); have ai := zw hg; replace HB := ze hb; clear hb hbox hg; have ar : w11.cell? ⟨a4, 0, none⟩ = some (.slice a5 a2.length a6) := (blk_cell a1.out 0).trans rfl; have au : w11.cell? ⟨a4, 1, none⟩ = some (.int .i64 a3) := (blk_cell a1.out 1).trans rfl; have av := blk_frozen a1.out 0; have aw := blk_frozen a1.out 1) | ((with_reducible refine zG 76 rfl ?_); refine zL (some 9) rfl rfl Tryd.func76 #[.agg #[.slice a5 a2.length a6, .int .i64 a3]] rfl ?_; (with_reducible refine (round_amount_top.calls k _ _ a2 a3 aa _ ?a7 ?a8 A2.out).mono ?_); (case a7 => exact zk (C_below ac.out HB.out)); (case a8 => exact ad.out); rintro e w13 ⟨rfl, hb⟩; refine ⟨_, rfl, ?_⟩; replace a1 := zb a1 hb; replace HB := zf hb; have ax : w13.cell? ⟨a4, 0, none⟩ = some (.slice a5 a2.length a6) := (blk_cell a1.out 0).trans rfl; have ay : w13.cell? ⟨a4, 1, none⟩ = some (.int .i64 a3) := (blk_cell a1.out 1).trans rfl; have aA := blk_frozen a1.out 0; have aB := blk_frozen a1.out 1) | ((with_reducible refine zG 50 rfl ?_); refine zL (some 12) rfl rfl Tryd.func50 #[.agg #[.slice a5 a2.length a6, .int .i64 a3]] rfl ?_; (with_reducible refine (round_amount_zero.calls _ _ a2 a3 false _ ?a7 ?a8 A3.out).mono ?_); (case a7 => exact zk (C_below ac.out HB.out)); (case a8 => exact ad.out); rintro e w15 ⟨rfl, hb⟩; refine ⟨_, rfl, ?_⟩; replace a1 := zb a1 hb; replace HB := zf hb))
  go_ret2
  exact ⟨er, zs⟩
 rw [if_neg c10] at H;have ao := decide_eq_false c10;clear c10
 by_cases c16 : aa < (-1074)
 ·rw [if_pos c16] at H;have ap := decide_eq_true c16;clear c16;simp only [Option.some.injEq, Prod.mk.injEq] at H;obtain ⟨rfl, rfl⟩ := H;go_enter Tryd.func68, Tryd.ntmps68
  go_wp2_with (first | ((with_reducible refine zD 1 rfl ?_); refine zn (N := 1) (cs := #[.slice a5 a2.length a6, .int .i64 a3]) (t := 64) rfl rfl ?_; intro a4 hg w17 hbox hb; have a1 := zA (hbox); have ai := zw hg; replace HB := ze hb; clear hb hbox hg; have aC : w17.cell? ⟨a4, 0, none⟩ = some (.slice a5 a2.length a6) := (blk_cell a1.out 0).trans rfl; have aD : w17.cell? ⟨a4, 1, none⟩ = some (.int .i64 a3) := (blk_cell a1.out 1).trans rfl; have aE := blk_frozen a1.out 0; have aF := blk_frozen a1.out 1) | ((with_reducible refine zG 76 rfl ?_); refine zL (some 9) rfl rfl Tryd.func76 #[.agg #[.slice a5 a2.length a6, .int .i64 a3]] rfl ?_; (with_reducible refine (round_amount_top.calls k _ _ a2 a3 aa _ ?a7 ?a8 A2.out).mono ?_); (case a7 => exact zk (C_below ac.out HB.out)); (case a8 => exact ad.out); rintro e w19 ⟨rfl, hb⟩; refine ⟨_, rfl, ?_⟩; replace a1 := zb a1 hb; replace HB := zf hb; have aG : w19.cell? ⟨a4, 0, none⟩ = some (.slice a5 a2.length a6) := (blk_cell a1.out 0).trans rfl; have aH : w19.cell? ⟨a4, 1, none⟩ = some (.int .i64 a3) := (blk_cell a1.out 1).trans rfl; have aI := blk_frozen a1.out 0; have aJ := blk_frozen a1.out 1) | ((with_reducible refine zG 50 rfl ?_); refine zL (some 12) rfl rfl Tryd.func50 #[.agg #[.slice a5 a2.length a6, .int .i64 a3]] rfl ?_; (with_reducible refine (round_amount_zero.calls _ _ a2 a3 false _ ?a7 ?a8 A3.out).mono ?_); (case a7 => exact zk (C_below ac.out HB.out)); (case a8 => exact ad.out); rintro e w21 ⟨rfl, hb⟩; refine ⟨_, rfl, ?_⟩; replace a1 := zb a1 hb; replace HB := zf hb))
  go_ret2
  exact ⟨er, zs⟩
 rw [if_neg c16] at H;have ap := decide_eq_false c16;clear c16;obtain ⟨ae, a9⟩ : ∃ j_ : Int, (mx (wrap64 (aa - 53)) (-1074)) = j_ := ⟨_, rfl⟩;replace H : ((round_amount_at.f k a2 a3 (ae)).bind fun ab => (if ab.1 = 9007199254740992 then (round_amount_nearest.j0 k (wrap64 ((ae) + 1)) (ab.1 / 2) ab.2) else (round_amount_nearest.j0 k ae ab.1 ab.2))) = some (r1, r2) := zQ a9 H;(try rw [a9] at A2);(try rw [a9] at A3);have hji22_ : (if (wrap64 (aa - 53)) < (-1074) then (-1074) else (wrap64 (aa - 53))) = ae := a9;obtain ⟨⟨aj, b4⟩, b7, H⟩ := zh H;(try dsimp only at H);have al := zA H;clear H;go_enter Tryd.func68, Tryd.ntmps68
 go_upto_if 29 with (first | ((with_reducible refine zD 1 rfl ?_); refine zn (N := 1) (cs := #[.slice a5 a2.length a6, .int .i64 a3]) (t := 64) rfl rfl ?_; intro a4 hg w25 hbox hb; have a1 := zA (hbox); have ai := zw hg; replace HB := ze hb; clear hb hbox hg; have aK : w25.cell? ⟨a4, 0, none⟩ = some (.slice a5 a2.length a6) := (blk_cell a1.out 0).trans rfl; have aL : w25.cell? ⟨a4, 1, none⟩ = some (.int .i64 a3) := (blk_cell a1.out 1).trans rfl; have aM := blk_frozen a1.out 0; have aN := blk_frozen a1.out 1) | ((with_reducible refine zG 76 rfl ?_); refine zL (some 9) rfl rfl Tryd.func76 #[.agg #[.slice a5 a2.length a6, .int .i64 a3]] rfl ?_; (with_reducible refine (round_amount_top.calls k _ _ a2 a3 aa _ ?a7 ?a8 A2.out).mono ?_); (case a7 => exact zk (C_below ac.out HB.out)); (case a8 => exact ad.out); rintro e w27 ⟨rfl, hb⟩; refine ⟨_, rfl, ?_⟩; replace a1 := zb a1 hb; replace HB := zf hb; have aO : w27.cell? ⟨a4, 0, none⟩ = some (.slice a5 a2.length a6) := (blk_cell a1.out 0).trans rfl; have aP : w27.cell? ⟨a4, 1, none⟩ = some (.int .i64 a3) := (blk_cell a1.out 1).trans rfl; have aQ := blk_frozen a1.out 0; have aR := blk_frozen a1.out 1) | ((with_reducible refine zG 50 rfl ?_); refine zL (some 12) rfl rfl Tryd.func50 #[.agg #[.slice a5 a2.length a6, .int .i64 a3]] rfl ?_; (with_reducible refine (round_amount_zero.calls _ _ a2 a3 false _ ?a7 ?a8 A3.out).mono ?_); (case a7 => exact zk (C_below ac.out HB.out)); (case a8 => exact ad.out); rintro e w29 ⟨rfl, hb⟩; refine ⟨_, rfl, ?_⟩; replace a1 := zb a1 hb; replace HB := zf hb; have aS : w29.cell? ⟨a4, 0, none⟩ = some (.slice a5 a2.length a6) := (blk_cell a1.out 0).trans rfl; have aT : w29.cell? ⟨a4, 1, none⟩ = some (.int .i64 a3) := (blk_cell a1.out 1).trans rfl; have aU := blk_frozen a1.out 0; have aV := blk_frozen a1.out 1) | ((with_reducible refine zG 77 rfl ?_); refine goesL_ (some 25) rfl rfl Tryd.func77 (by kernel_rfl) rfl #[.agg #[.slice a5 a2.length a6, .int .i64 a3], .int .i64 ae] rfl (by (try simp only [List.map_toArray, List.map_cons, List.map_nil]); first | done | (simp only [a9]; rfl) | rfl | (simp only [List.length_drop, List.length_take]; rfl)) ?_; (with_reducible refine (round_amount_at.calls k _ _ a2 a3 ae aj b4 _ ?a7 ?a8 (laid_below hT zs) b7.out).mono ?_); (case a7 => exact zk (C_below ac.out HB.out)); (case a8 => exact ad.out); rintro e w31 ⟨rfl, hb⟩; refine ⟨_, rfl, ?_⟩; replace a1 := zb a1 hb; replace HB := zf hb))
 (try simp only [Act.put, List.setIfInBounds_toArray, List.set_cons_zero, List.set_cons_succ])
 go_cut [5, 6] (fun v5 v6 wc => ∃ (kq : Nat) (ag : Int) (ah : Int), v5 = .int .i64 ag ∧ v6 = .int .u64 ah ∧ Aside0 (round_amount_nearest.j0 kq ag ah b4 = some (r1, r2)) ∧ Aside0 (kq ≤ k) ∧ Aside0 (wc.heap[a4]? = some (.cells #[(.slice a5 a2.length a6), .int .i64 a3] 64 (0, 0))) ∧ Aside0 (Below w.heap.size w wc))
 case first =>
  have H := al.out;clear al
  by_cases c32 : aj = 9007199254740992
  ·rw [if_pos c32] at H;have af := beq_iff_eq.mpr c32;have aq := bne_eq_false_iff_eq.mpr c32;clear c32
   (first | rw [af] | (simp only [i64_w, i32_w]; rw [af]) | skip)
   have H' := zA H;clear H
   go_wp2
   go_meet
   case rel => exact ⟨_, (wrap64 ((ae) + 1)), (aj / 2), (by first | rfl | (simp; done) | (simp only [← a9] <;> (first | rfl | simp)) | (simp [*]; done)), zi, (by first | exact H' | (simp only [a9]; exact H') | (simp only [a9] at H' ⊢; exact H')), ⟨by first | omega | exact Nat.le_refl _⟩, ⟨zu a1⟩, ⟨zs⟩⟩
  rw [if_neg c32] at H;have af := beq_eq_false_iff_ne.mpr c32;have aq := bne_iff_ne.mpr c32
  (first | rw [af] | (simp only [i64_w, i32_w]; rw [af]) | skip)
  have H' := zA H;clear H
  go_wp2
  go_meet
  case rel => exact ⟨_, (ae), (aj), (by first | rfl | (simp; done) | (simp only [← a9] <;> (first | rfl | simp)) | (simp [*]; done)), zi, (by first | exact H' | (simp only [a9]; exact H') | (simp only [a9] at H' ⊢; exact H')), ⟨by first | omega | exact Nat.le_refl _⟩, ⟨zu a1⟩, ⟨zs⟩⟩
 case rest =>
  clear al
  try clear c4
  try clear c10
  try clear ao
  try clear c16
  try clear ap
  try clear c32
  try clear af
  try clear aq
  try clear ar au av aw
  try clear ax ay aA aB
  try clear aC aD aE aF
  try clear aG aH aI aJ
  try clear aK aL aM aN
  try clear aO aP aQ aR
  try clear aS aT aU aV
  try clear aW aX aY az
  try clear aZ b1 b2 b3
  obtain ⟨kq, ag, ah, rfl, rfl, HA, b8, a1, HB⟩ := hcut
  cases kq with
  | zero => exact absurd HA.out (by simp [round_amount_nearest.j0])
  | succ b9 =>
   have H := HA.out;clear HA;simp only [round_amount_nearest.j0] at H
   by_cases c33 : ah < 4503599627370496
   ·rw [if_pos c33] at H;have b5 := decide_eq_true c33;clear c33;simp only [Option.some.injEq, Prod.mk.injEq] at H;obtain ⟨rfl, rfl⟩ := H
    go_wp2
    go_ret2
    exact ⟨by first | rfl | (simp [errW_none, errW_some] <;> rfl) | (simp only [← a9]; first | rfl | (simp [errW_none, errW_some] <;> rfl)) | (simp [*, errW_none, errW_some] <;> rfl), zs⟩
   rw [if_neg c33] at H;have b5 := decide_eq_false c33;clear c33
   by_cases c34 : ag > 971
   ·rw [if_pos c34] at H;have b6 := decide_eq_true c34;clear c34;simp only [Option.some.injEq, Prod.mk.injEq] at H;obtain ⟨rfl, rfl⟩ := H
    go_wp2
    go_ret2
    exact ⟨by first | rfl | (simp [errW_none, errW_some] <;> rfl) | (simp only [← a9]; first | rfl | (simp [errW_none, errW_some] <;> rfl)) | (simp [*, errW_none, errW_some] <;> rfl), zs⟩
   rw [if_neg c34] at H;have b6 := decide_eq_false c34;clear c34;simp only [Option.some.injEq, Prod.mk.injEq] at H;obtain ⟨rfl, rfl⟩ := H
   go_wp2
   go_ret2
   exact ⟨by first | rfl | (simp [errW_none, errW_some] <;> rfl) | (simp only [← a9]; first | rfl | (simp [errW_none, errW_some] <;> rfl)) | (simp [*, errW_none, errW_some] <;> rfl), zs⟩
end Go.Proofs.YtnjfckadjklmfaaDoor.PAll
