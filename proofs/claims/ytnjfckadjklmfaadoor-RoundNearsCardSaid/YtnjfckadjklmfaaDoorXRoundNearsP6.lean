/- Printed functions, merged by a program of this session. -/
import Derived.Test.YtnjfckadjklmfaaDoorXRoundNearsP0
import Derived.Test.YtnjfckadjklmfaaDoorXRoundNearsP1
import Derived.Test.YtnjfckadjklmfaaDoorXRoundNearsP4
import Derived.Test.YtnjfckadjklmfaaDoorXRoundNearsP5
import Derived.Test.YtnjfckadjklmfaaDoorXRoundNearsSh
namespace Go.Proofs.YtnjfckadjklmfaaDoor.PAll
open Go.RowKit Go.Proofs.YtnjfckadjklmfaaDoorW.PrintWords Go.Proofs.YtnjfckadjklmfaaDoorW.PrintLast Go.Proofs.YtnjfckadjklmfaaDoorW.PrintMore Go.Proofs.YtnjfckadjklmfaaDoorW.PrintWords.Kd
attribute [local go_sem] max2_int min2_int max_two min_two max_three min_three max_four min_four   -- for this text's walks alone
set_option linter.unusedVariables false
set_option linter.unusedSimpArgs false
attribute [local go_sem] fld75_0 fld75_1 fld75_2 ext118 ext119
def round_near.j0 : Nat → Bool → List Int → Int → List Int → Int → Int → Int → Option (Int × Int)
 | 0, _, _, _, _, _, _, _ => none
 | k + 1, x246000, x246001, x246002, x252000, x252001, x255000, x255001 => if x246000 = true then ((round_amount_zero.f x252000 x252001).bind fun t256 => (if t256 = true then (some (x255000, x255001)) else ((bits_Neg.f x255000).bind fun t257 => (some (t257, x255001))))) else (some (x255000, x255001))
def round_near.f (k : Nat) (a0_0 : Bool) (l0_1 : List Int) (a0_2 : Int) : Option (Int × Int) := (round_of.f k a0_0 l0_1 a0_2).bind fun bt247 => ((round_amount_nearest.f k bt247.1 bt247.2).bind fun bt252 => (if bt252.2 = true then (if bt252.1 = 9218868437227405312 then (round_near.j0 k a0_0 l0_1 a0_2 bt247.1 bt247.2 bt252.1 (Go.bits .or .u8 16 4)) else ((round_amount_tiny.f k bt247.1 bt247.2).bind fun t255 => (if t255 = true then (round_near.j0 k a0_0 l0_1 a0_2 bt247.1 bt247.2 bt252.1 (Go.bits .or .u8 16 8)) else (round_near.j0 k a0_0 l0_1 a0_2 bt247.1 bt247.2 bt252.1 16)))) else (round_near.j0 k a0_0 l0_1 a0_2 bt247.1 bt247.2 bt252.1 0)))
theorem round_near.mono_l : ∀ k, (∀ y0 y1 y2 y3 y4 y5 y6, LeO (round_near.j0 k y0 y1 y2 y3 y4 y5 y6) (round_near.j0 (k + 1) y0 y1 y2 y3 y4 y5 y6))
 | 0 => fun _ _ _ _ _ _ _ r h => by simp [round_near.j0] at h
 | k + 1 => by
  have ih0 := round_near.mono_l k
  intro y0 y1 y2 y3 y4 y5 y6
  unfold round_near.j0
  repeat' first
  | (with_reducible exact ih0 _ _ _ _ _ _ _)
  | (with_reducible exact round_amount_nearest.mono _ _ _)
  | (with_reducible exact round_amount_tiny.mono _ _ _)
  | (with_reducible exact round_of.mono _ _ _ _)
  | (with_reducible exact LeO.refl _)
  | (with_reducible exact LeO.none _)
  | (with_reducible refine LeO.ite ?_ ?_)
  | (with_reducible refine LeO.bind ?_ (fun _ => ?_))
  | exact ih0 _ _ _ _ _ _ _
  | exact round_amount_nearest.mono _ _ _
  | exact round_amount_tiny.mono _ _ _
  | exact round_of.mono _ _ _ _
  | exact LeO.none _
  | refine LeO.ite ?_ ?_
  | refine LeO.bind ?_ (fun _ => ?_)
theorem round_near.mono : ∀ a0 a1 a2 k, LeO (round_near.f k a0 a1 a2) (round_near.f (k + 1) a0 a1 a2) := by
 intro a0 a1 a2 k
 have ih0 := round_near.mono_l k
 unfold round_near.f
 repeat' first
   | (with_reducible exact ih0 _ _ _ _ _ _ _)
   | (with_reducible exact round_amount_nearest.mono _ _ _)
   | (with_reducible exact round_amount_tiny.mono _ _ _)
   | (with_reducible exact round_of.mono _ _ _ _)
   | (with_reducible exact LeO.refl _)
   | (with_reducible exact LeO.none _)
   | (with_reducible refine LeO.ite ?_ ?_)
   | (with_reducible refine LeO.bind ?_ (fun _ => ?_))
   | exact ih0 _ _ _ _ _ _ _
   | exact round_amount_nearest.mono _ _ _
   | exact round_amount_tiny.mono _ _ _
   | exact round_of.mono _ _ _ _
   | exact LeO.none _
   | refine LeO.ite ?_ ?_
   | refine LeO.bind ?_ (fun _ => ?_)
theorem cells2_ {P : Program} {ops : Array Oper} {Q : Exit → Act → World → Prop} {W : World} {o : Oper} {rest : List Oper} {a : Act} {g : Nat} {t : TypeId} {cs : Array Value} (hb : W.heap[g]? = some (.cells cs t (0, 0)))
  (h : W.cell? ⟨g, 0, none⟩ = cs[0]? → W.cell? ⟨g, 1, none⟩ = cs[1]? → wpList P ops Q (o :: rest) a W) : wpList P ops Q (o :: rest) a W := h (blk_cell hb 0) (blk_cell hb 1)
set_option maxHeartbeats 8000000 in
set_option maxRecDepth 100000 in
theorem round_near.calls (k : Nat) (a0_0 : Bool) (A0_1 : Option Addr) (c0_1 : Nat) (l0_1 : List Int) (a0_2 : Int) (r1 : Int) (r2 : Int) (w : World) (hr0_1 : Kd.C (Kd.int .u64) w A0_1 l0_1.length l0_1) (hc0_1 : l0_1.length ≤ c0_1) (hT : Laid w) (h : round_near.f k a0_0 l0_1 a0_2 = some (r1, r2)) :
  Calls Tryd.prog 33 #[.agg #[.bool a0_0, .slice A0_1 l0_1.length c0_1, .int .i64 a0_2]] w fun e w' => e = .returned (.agg #[.int .u64 r1, .int .u8 r2]) ∧ Below w.heap.size w w' := by
 have hu25 := Tryd.underlying25
 have hu29 := Tryd.underlying29
 have hu64 := Tryd.underlying64
 have HR0_1 := zA hr0_1
 have HC0_1 := zA hc0_1
 clear hr0_1 hc0_1
 have HB := zA (Below.refl w.heap.size w)
 have H : ((round_of.f k a0_0 l0_1 a0_2).bind fun bt247 => ((round_amount_nearest.f k bt247.1 bt247.2).bind fun bt252 => (if bt252.2 = true then (if bt252.1 = 9218868437227405312 then (round_near.j0 k a0_0 l0_1 a0_2 bt247.1 bt247.2 bt252.1 (Go.bits .or .u8 16 4)) else ((round_amount_tiny.f k bt247.1 bt247.2).bind fun t255 => (if t255 = true then (round_near.j0 k a0_0 l0_1 a0_2 bt247.1 bt247.2 bt252.1 (Go.bits .or .u8 16 8)) else (round_near.j0 k a0_0 l0_1 a0_2 bt247.1 bt247.2 bt252.1 16)))) else (round_near.j0 k a0_0 l0_1 a0_2 bt247.1 bt247.2 bt252.1 0)))) = some (r1, r2) := h
 clear h
 obtain ⟨⟨t247, t250⟩, A2, H⟩ := zh H
 (try dsimp only at H)
 obtain ⟨⟨t252, t253⟩, A3, H⟩ := zh H
 (try dsimp only at H)
 have HC4 := zA H
 clear H
 go_enter Tryd.func33, Tryd.ntmps33
 go_upto_if 16 with (first | ((with_reducible refine zD 1 rfl ?_); refine zn (N := 1) (cs := #[.bool a0_0, .slice A0_1 l0_1.length c0_1, .int .i64 a0_2]) (t := 25) rfl rfl ?_; intro gb245 hg w5 hbox hb; have BK245 := zA (hbox); have GW245 := zw hg; replace HB := ze hb; clear hb hbox hg) | ((with_reducible refine zD 2 rfl ?_); refine zn (N := 2) (cs := #[.int .u64 0, .int .u8 0]) (t := 29) rfl rfl ?_; intro gb246 hg w6 hbox hb; have BK246 := zA (hbox); have GW246 := zx hg; replace HB := zf hb; have NB245_246 := zl BK245 hg; have NB246_245 := zg BK245 hg; replace BK245 := zb BK245 hb; clear hb hbox hg; have hnb7 := NB245_246.out; have hnc7 := NB246_245.out; obtain ⟨_, _, _, _, _, _⟩ := zc BK245) | ((with_reducible refine zG 35 rfl ?_); refine zL (some 8) rfl rfl Tryd.func35 #[.agg #[.bool a0_0, .slice A0_1 l0_1.length c0_1, .int .i64 a0_2]] rfl ?_; (with_reducible refine (round_of.calls k a0_0 _ _ l0_1 a0_2 t247 t250 _ ?side1 ?side2 A2.out).mono ?_); (case side1 => exact zk (C_below HR0_1.out HB.out)); (case side2 => exact HC0_1.out); rintro e w9 ⟨v248, rfl, ho0, hb⟩; refine ⟨_, rfl, ?_⟩; have HO249 := zA (R_lower ho0 (below_size zs)); replace BK245 := zb BK245 hb; replace BK246 := zb BK246 hb; replace HB := zf hb; (try clear ho0)) | ((with_reducible refine zD 3 rfl ?_); refine zn (N := 3) (cs := #[.slice none 0 0, .int .i64 0]) (t := 64) rfl rfl ?_; intro gb251 hg w10 hbox hb; replace HO249 := zA (R_below (ru HO249.out) hb); have BK251 := zA (hbox); have GW251 := zx hg; replace HB := zf hb; have NB245_251 := zl BK245 hg; have NB251_245 := zg BK245 hg; replace BK245 := zb BK245 hb; have NB246_251 := zl BK246 hg; have NB251_246 := zg BK246 hg; replace BK246 := zb BK246 hb; clear hb hbox hg; obtain ⟨Ao11, co11, eo11⟩ := R_slice HO249.out; subst eo11; have hnb12 := NB251_245.out; have hnc12 := NB245_251.out; have hnb13 := NB251_246.out; have hnc13 := NB246_251.out; have hcz14_0 : w10.cell? ⟨gb251, 0, none⟩ = some (.slice none 0 0) := (blk_cell BK251.out 0).trans rfl; have hcz14_1 : w10.cell? ⟨gb251, 1, none⟩ = some (.int .i64 0) := (blk_cell BK251.out 1).trans rfl; have hfz14_0 := blk_frozen BK251.out 0; have hfz14_1 := blk_frozen BK251.out 1) | ((with_reducible refine zG 68 rfl ?_); refine zL (some 11) rfl rfl Tryd.func68 #[.agg #[.slice Ao11 t247.length co11, .int .i64 t250]] rfl ?_; (with_reducible refine (round_amount_nearest.calls k _ _ t247 t250 t252 t253 _ ?side1 ?side2 (laid_below hT zs) A3.out).mono ?_); (case side1 => refine (R_reads' (e := 26) (base := w.heap.size) (ok := fun k_ => True) (n := t247.length) (c := co11) ?_).2.2; exact (ru (R_mono (R_far (p := ⟨gb251, 1, none⟩) (R_far (p := ⟨gb251, 0, none⟩) (R_types HO249.out BK251.out (by decide)) (fun _ hk => hk.2) (.slice Ao11 t247.length co11)) (fun _ hk => hk.2) (.int .i64 t250)) (fun _ h_ => h_.1)))); (case side2 => exact (R_reads' HO249.out).2.1); rintro e w15 ⟨rfl, hb⟩; refine ⟨_, rfl, ?_⟩; replace HO249 := zA (R_below (ru (R_mono (R_far (p := ⟨gb251, 1, none⟩) (R_far (p := ⟨gb251, 0, none⟩) (R_types HO249.out BK251.out (by decide)) (fun _ hk => hk.2) (.slice Ao11 t247.length co11)) (fun _ hk => hk.2) (.int .i64 t250)) (fun _ h_ => h_.1))) hb); replace BK245 := zF BK245 hb; replace BK246 := zF BK246 hb; replace BK251 := zA (blk_below (g := gb251) (o := .cells #[.slice Ao11 t247.length co11, .int .i64 t250] 64 (0, 0)) (by (with_reducible repeat (first | refine blk_drewN ?_ _ | refine blk_drew ?_ | refine blk_alloc ?_ _)); refine blk_put (cs := #[.slice Ao11 t247.length co11, .int .i64 0]) ?_ 1 _ rfl; refine blk_put (cs := #[.slice none 0 0, .int .i64 0]) ?_ 0 _ rfl; exact BK251.out) hb); replace HB := zf hb; (try clear hk)) | ((with_reducible refine zD 6 rfl ?_); refine zn (N := 6) (cs := #[.int .u64 0, .int .u8 0]) (t := 29) rfl rfl ?_; intro gb254 hg w16 hbox hb; replace HO249 := zA (R_below (ru HO249.out) hb); have BK254 := zA (hbox); have GW254 := zx hg; replace HB := zf hb; have NB245_254 := zl BK245 hg; have NB254_245 := zg BK245 hg; replace BK245 := zb BK245 hb; have NB246_254 := zl BK246 hg; have NB254_246 := zg BK246 hg; replace BK246 := zb BK246 hb; have NB251_254 := zl BK251 hg; have NB254_251 := zg BK251 hg; replace BK251 := zb BK251 hb; clear hb hbox hg; have hnb17 := NB254_245.out; have hnc17 := NB245_254.out; have hnb18 := NB254_246.out; have hnc18 := NB246_254.out; have hnb19 := NB254_251.out; have hnc19 := NB251_254.out; have hcz20_0 : w16.cell? ⟨gb254, 0, none⟩ = some (.int .u64 0) := (blk_cell BK254.out 0).trans rfl; have hcz20_1 : w16.cell? ⟨gb254, 1, none⟩ = some (.int .u8 0) := (blk_cell BK254.out 1).trans rfl; have hfz20_0 := blk_frozen BK254.out 0; have hfz20_1 := blk_frozen BK254.out 1))
 (try simp only [Act.put, List.setIfInBounds_toArray, List.set_cons_zero, List.set_cons_succ])
 go_cut [] (fun wc => ∃ (kq : Nat) (x255001_3 : Int), Aside0 (round_near.j0 kq a0_0 l0_1 a0_2 t247 t250 t252 x255001_3 = some (r1, r2)) ∧ Aside0 (kq ≤ k) ∧ Aside0 (Kd.R (Kd.int .u64) 26 wc w.heap.size (fun _ => True) (.slice Ao11 t247.length co11) t247) ∧ Aside0 (wc.heap[gb245]? = some (.cells #[.bool a0_0, (.slice A0_1 l0_1.length c0_1), .int .i64 a0_2] 25 (0, 0))) ∧ Aside0 (wc.heap[gb246]? = some (.cells #[.int .u64 0, .int .u8 0] 29 (0, 0))) ∧ Aside0 (wc.heap[gb251]? = some (.cells #[(.slice Ao11 t247.length co11), .int .i64 t250] 64 (0, 0))) ∧ Aside0 (wc.heap[gb254]? = some (.cells #[.int .u64 t252, .int .u8 x255001_3] 29 (0, 0))) ∧ Aside0 (Below w.heap.size w wc))
 case first =>
  have H := HC4.out
  clear HC4
  by_cases c21 : t253 = true
  ·subst c21
   rw [if_pos rfl] at H
   by_cases c22 : t252 = 9218868437227405312
   ·rw [if_pos c22] at H
    have c22b0 := beq_iff_eq.mpr c22
    have c22b1 := bne_eq_false_iff_eq.mpr c22
    clear c22
    (first | rw [c22b0] | (simp only [i64_w, i32_w]; rw [c22b0]) | skip)
    have H' := zA H
    clear H
    have hnb23 := NB254_245.out
    have hnc23 := NB245_254.out
    have hnb24 := NB254_246.out
    have hnc24 := NB246_254.out
    have hnb25 := NB254_251.out
    have hnc25 := NB251_254.out
    have hcz26_0 : w16.cell? ⟨gb254, 0, none⟩ = some (.int .u64 0) := (blk_cell BK254.out 0).trans rfl
    have hcz26_1 : w16.cell? ⟨gb254, 1, none⟩ = some (.int .u8 0) := (blk_cell BK254.out 1).trans rfl
    have hfz26_0 := blk_frozen BK254.out 0
    have hfz26_1 := blk_frozen BK254.out 1
    go_wp2_with ((with_reducible refine zD 21 rfl ?_); refine cells2_ (g := gb254) (t := 29) (cs := #[.int .u64 t252, .int .u8 16]) ?hb ?_; (case hb => refine blk_put (cs := #[.int .u64 t252, .int .u8 0]) ?_ 1 _ rfl; refine blk_put (cs := #[.int .u64 t252, .int .u8 0]) ?_ 1 _ rfl; refine blk_put (cs := #[.int .u64 0, .int .u8 0]) ?_ 0 _ rfl; exact BK254.out); intro q0_ q1_; replace q0_ := q0_.trans rfl; replace q1_ := q1_.trans rfl; go_step)
    go_meet
    case rel => exact ⟨_, (Go.bits .or .u8 16 4), H', ⟨by first | omega | exact Nat.le_refl _⟩, ⟨ru (R_mono (R_far (p := ⟨gb254, 1, none⟩) (R_far (p := ⟨gb254, 1, none⟩) (R_far (p := ⟨gb254, 1, none⟩) (R_far (p := ⟨gb254, 0, none⟩) (R_types HO249.out BK254.out (by decide)) (fun _ hk => hk.2) (.int .u64 t252)) (fun _ hk => hk.2) (.int .u8 0)) (fun _ hk => hk.2) (.int .u8 16)) (fun _ hk => hk.2) (.int .u8 (Go.bits .or .u8 16 4))) (fun _ hk => trivial))⟩, ⟨by (with_reducible repeat (first | refine blk_drewN ?_ _ | refine blk_drew ?_ | refine blk_alloc ?_ _)); refine blk_far ?_ NB245_254.out _; refine blk_far ?_ NB245_254.out _; refine blk_far ?_ NB245_254.out _; refine blk_far ?_ NB245_254.out _; exact BK245.out⟩, ⟨by (with_reducible repeat (first | refine blk_drewN ?_ _ | refine blk_drew ?_ | refine blk_alloc ?_ _)); refine blk_far ?_ NB246_254.out _; refine blk_far ?_ NB246_254.out _; refine blk_far ?_ NB246_254.out _; refine blk_far ?_ NB246_254.out _; exact BK246.out⟩, ⟨by (with_reducible repeat (first | refine blk_drewN ?_ _ | refine blk_drew ?_ | refine blk_alloc ?_ _)); refine blk_far ?_ NB251_254.out _; refine blk_far ?_ NB251_254.out _; refine blk_far ?_ NB251_254.out _; refine blk_far ?_ NB251_254.out _; exact BK251.out⟩, ⟨by (with_reducible repeat (first | refine blk_drewN ?_ _ | refine blk_drew ?_ | refine blk_alloc ?_ _)); refine blk_put (cs := #[.int .u64 t252, .int .u8 16]) ?_ 1 _ rfl; refine blk_put (cs := #[.int .u64 t252, .int .u8 0]) ?_ 1 _ rfl; refine blk_put (cs := #[.int .u64 t252, .int .u8 0]) ?_ 1 _ rfl; refine blk_put (cs := #[.int .u64 0, .int .u8 0]) ?_ 0 _ rfl; exact BK254.out⟩, ⟨zs⟩⟩
   rw [if_neg c22] at H
   have c22b0 := beq_eq_false_iff_ne.mpr c22
   have c22b1 := bne_iff_ne.mpr c22
   (first | rw [c22b0] | (simp only [i64_w, i32_w]; rw [c22b0]) | skip)
   obtain ⟨t255, A27, H⟩ := zh H
   by_cases c28 : t255 = true
   ·subst c28
    rw [if_pos rfl] at H
    have H' := zA H
    clear H
    have hnb29 := NB254_245.out
    have hnc29 := NB245_254.out
    have hnb30 := NB254_246.out
    have hnc30 := NB246_254.out
    have hnb31 := NB254_251.out
    have hnc31 := NB251_254.out
    have hcz32_0 : w16.cell? ⟨gb254, 0, none⟩ = some (.int .u64 0) := (blk_cell BK254.out 0).trans rfl
    have hcz32_1 : w16.cell? ⟨gb254, 1, none⟩ = some (.int .u8 0) := (blk_cell BK254.out 1).trans rfl
    have hfz32_0 := blk_frozen BK254.out 0
    have hfz32_1 := blk_frozen BK254.out 1
    have hnb33 := NB251_245.out
    have hnc33 := NB245_251.out
    have hnb34 := NB251_246.out
    have hnc34 := NB246_251.out
    have hcz35_0 : w16.cell? ⟨gb251, 0, none⟩ = some (.slice Ao11 t247.length co11) := (blk_cell BK251.out 0).trans rfl
    have hcz35_1 : w16.cell? ⟨gb251, 1, none⟩ = some (.int .i64 t250) := (blk_cell BK251.out 1).trans rfl
    have hfz35_0 := blk_frozen BK251.out 0
    have hfz35_1 := blk_frozen BK251.out 1
    go_wp2_with (first | ((with_reducible refine zG 36 rfl ?_); refine zL (some 27) rfl rfl Tryd.func36 #[.agg #[.slice Ao11 t247.length co11, .int .i64 t250]] rfl ?_; (with_reducible refine (round_amount_tiny.calls k _ _ t247 t250 true _ ?side1 ?side2 (laid_below hT zs) A27.out).mono ?_); (case side1 => refine (R_reads' (e := 26) (base := w.heap.size) (ok := fun k_ => True) (n := t247.length) (c := co11) ?_).2.2; exact (ru (R_mono (R_far (p := ⟨gb254, 1, none⟩) (R_far (p := ⟨gb254, 1, none⟩) (R_far (p := ⟨gb254, 0, none⟩) (R_types HO249.out BK254.out (by decide)) (fun _ hk => hk.2) (.int .u64 t252)) (fun _ hk => hk.2) (.int .u8 0)) (fun _ hk => hk.2) (.int .u8 16)) (fun _ h_ => h_.1)))); (case side2 => exact (R_reads' HO249.out).2.1); rintro e w36 ⟨rfl, hb⟩; refine ⟨_, rfl, ?_⟩; replace HO249 := zA (R_below (ru (R_mono (R_far (p := ⟨gb254, 1, none⟩) (R_far (p := ⟨gb254, 1, none⟩) (R_far (p := ⟨gb254, 0, none⟩) (R_types HO249.out BK254.out (by decide)) (fun _ hk => hk.2) (.int .u64 t252)) (fun _ hk => hk.2) (.int .u8 0)) (fun _ hk => hk.2) (.int .u8 16)) (fun _ h_ => h_.1))) hb); replace BK245 := zF BK245 hb; replace BK246 := zF BK246 hb; replace BK251 := zF BK251 hb; replace BK254 := zA (blk_below (g := gb254) (o := .cells #[.int .u64 t252, .int .u8 16] 29 (0, 0)) (by (with_reducible repeat (first | refine blk_drewN ?_ _ | refine blk_drew ?_ | refine blk_alloc ?_ _)); refine blk_put (cs := #[.int .u64 t252, .int .u8 0]) ?_ 1 _ rfl; refine blk_put (cs := #[.int .u64 t252, .int .u8 0]) ?_ 1 _ rfl; refine blk_put (cs := #[.int .u64 0, .int .u8 0]) ?_ 0 _ rfl; exact BK254.out) hb); replace HB := zf hb; (try clear hk); have hcz37_0 : w36.cell? ⟨gb254, 0, none⟩ = some (.int .u64 t252) := (blk_cell BK254.out 0).trans rfl; have hcz37_1 : w36.cell? ⟨gb254, 1, none⟩ = some (.int .u8 16) := (blk_cell BK254.out 1).trans rfl; have hfz37_0 := blk_frozen BK254.out 0; have hfz37_1 := blk_frozen BK254.out 1))
    go_meet
    case rel => exact ⟨_, (Go.bits .or .u8 16 8), H', ⟨by first | omega | exact Nat.le_refl _⟩, ⟨ru (R_mono (R_far (p := ⟨gb254, 1, none⟩) (R_types HO249.out BK254.out (by decide)) (fun _ hk => hk.2) (.int .u8 (Go.bits .or .u8 16 8))) (fun _ hk => trivial))⟩, ⟨by (with_reducible repeat (first | refine blk_drewN ?_ _ | refine blk_drew ?_ | refine blk_alloc ?_ _)); refine blk_far ?_ NB245_254.out _; exact BK245.out⟩, ⟨by (with_reducible repeat (first | refine blk_drewN ?_ _ | refine blk_drew ?_ | refine blk_alloc ?_ _)); refine blk_far ?_ NB246_254.out _; exact BK246.out⟩, ⟨by (with_reducible repeat (first | refine blk_drewN ?_ _ | refine blk_drew ?_ | refine blk_alloc ?_ _)); refine blk_far ?_ NB251_254.out _; exact BK251.out⟩, ⟨by (with_reducible repeat (first | refine blk_drewN ?_ _ | refine blk_drew ?_ | refine blk_alloc ?_ _)); refine blk_put (cs := #[.int .u64 t252, .int .u8 16]) ?_ 1 _ rfl; exact BK254.out⟩, ⟨zs⟩⟩
   replace c28 := Bool.eq_false_iff.mpr c28
   subst c28
   rw [if_neg (show ¬ (false = true) by decide)] at H
   have H' := zA H
   clear H
   have hnb38 := NB254_245.out
   have hnc38 := NB245_254.out
   have hnb39 := NB254_246.out
   have hnc39 := NB246_254.out
   have hnb40 := NB254_251.out
   have hnc40 := NB251_254.out
   have hcz41_0 : w16.cell? ⟨gb254, 0, none⟩ = some (.int .u64 0) := (blk_cell BK254.out 0).trans rfl
   have hcz41_1 : w16.cell? ⟨gb254, 1, none⟩ = some (.int .u8 0) := (blk_cell BK254.out 1).trans rfl
   have hfz41_0 := blk_frozen BK254.out 0
   have hfz41_1 := blk_frozen BK254.out 1
   have hnb42 := NB251_245.out
   have hnc42 := NB245_251.out
   have hnb43 := NB251_246.out
   have hnc43 := NB246_251.out
   have hcz44_0 : w16.cell? ⟨gb251, 0, none⟩ = some (.slice Ao11 t247.length co11) := (blk_cell BK251.out 0).trans rfl
   have hcz44_1 : w16.cell? ⟨gb251, 1, none⟩ = some (.int .i64 t250) := (blk_cell BK251.out 1).trans rfl
   have hfz44_0 := blk_frozen BK251.out 0
   have hfz44_1 := blk_frozen BK251.out 1
   go_wp2_with (first | ((with_reducible refine zG 36 rfl ?_); refine zL (some 27) rfl rfl Tryd.func36 #[.agg #[.slice Ao11 t247.length co11, .int .i64 t250]] rfl ?_; (with_reducible refine (round_amount_tiny.calls k _ _ t247 t250 false _ ?side1 ?side2 (laid_below hT zs) A27.out).mono ?_); (case side1 => refine (R_reads' (e := 26) (base := w.heap.size) (ok := fun k_ => True) (n := t247.length) (c := co11) ?_).2.2; exact (ru (R_mono (R_far (p := ⟨gb254, 1, none⟩) (R_far (p := ⟨gb254, 1, none⟩) (R_far (p := ⟨gb254, 0, none⟩) (R_types HO249.out BK254.out (by decide)) (fun _ hk => hk.2) (.int .u64 t252)) (fun _ hk => hk.2) (.int .u8 0)) (fun _ hk => hk.2) (.int .u8 16)) (fun _ h_ => h_.1)))); (case side2 => exact (R_reads' HO249.out).2.1); rintro e w45 ⟨rfl, hb⟩; refine ⟨_, rfl, ?_⟩; replace HO249 := zA (R_below (ru (R_mono (R_far (p := ⟨gb254, 1, none⟩) (R_far (p := ⟨gb254, 1, none⟩) (R_far (p := ⟨gb254, 0, none⟩) (R_types HO249.out BK254.out (by decide)) (fun _ hk => hk.2) (.int .u64 t252)) (fun _ hk => hk.2) (.int .u8 0)) (fun _ hk => hk.2) (.int .u8 16)) (fun _ h_ => h_.1))) hb); replace BK245 := zF BK245 hb; replace BK246 := zF BK246 hb; replace BK251 := zF BK251 hb; replace BK254 := zA (blk_below (g := gb254) (o := .cells #[.int .u64 t252, .int .u8 16] 29 (0, 0)) (by (with_reducible repeat (first | refine blk_drewN ?_ _ | refine blk_drew ?_ | refine blk_alloc ?_ _)); refine blk_put (cs := #[.int .u64 t252, .int .u8 0]) ?_ 1 _ rfl; refine blk_put (cs := #[.int .u64 t252, .int .u8 0]) ?_ 1 _ rfl; refine blk_put (cs := #[.int .u64 0, .int .u8 0]) ?_ 0 _ rfl; exact BK254.out) hb); replace HB := zf hb; (try clear hk)))
   go_meet
   case rel => exact ⟨_, (16), H', ⟨by first | omega | exact Nat.le_refl _⟩, ⟨ru HO249.out⟩, ⟨zu BK245⟩, ⟨zu BK246⟩, ⟨zu BK251⟩, ⟨zu BK254⟩, ⟨zs⟩⟩
  replace c21 := Bool.eq_false_iff.mpr c21
  subst c21
  rw [if_neg (show ¬ (false = true) by decide)] at H
  have H' := zA H
  clear H
  go_wp2
  go_meet
  case rel => exact ⟨_, (0), H', ⟨by first | omega | exact Nat.le_refl _⟩, ⟨ru (R_mono (R_far (p := ⟨gb254, 1, none⟩) (R_far (p := ⟨gb254, 0, none⟩) (R_types HO249.out BK254.out (by decide)) (fun _ hk => hk.2) (.int .u64 t252)) (fun _ hk => hk.2) (.int .u8 0)) (fun _ hk => trivial))⟩, ⟨by (with_reducible repeat (first | refine blk_drewN ?_ _ | refine blk_drew ?_ | refine blk_alloc ?_ _)); refine blk_far ?_ NB245_254.out _; refine blk_far ?_ NB245_254.out _; exact BK245.out⟩, ⟨by (with_reducible repeat (first | refine blk_drewN ?_ _ | refine blk_drew ?_ | refine blk_alloc ?_ _)); refine blk_far ?_ NB246_254.out _; refine blk_far ?_ NB246_254.out _; exact BK246.out⟩, ⟨by (with_reducible repeat (first | refine blk_drewN ?_ _ | refine blk_drew ?_ | refine blk_alloc ?_ _)); refine blk_far ?_ NB251_254.out _; refine blk_far ?_ NB251_254.out _; exact BK251.out⟩, ⟨by (with_reducible repeat (first | refine blk_drewN ?_ _ | refine blk_drew ?_ | refine blk_alloc ?_ _)); refine blk_put (cs := #[.int .u64 t252, .int .u8 0]) ?_ 1 _ rfl; refine blk_put (cs := #[.int .u64 0, .int .u8 0]) ?_ 0 _ rfl; exact BK254.out⟩, ⟨zs⟩⟩
 case rest =>
  clear HC4
  try clear c3
  try clear c21
  try clear c22
  try clear c22b0
  try clear c22b1
  try clear c28
  try clear hcz14_0 hcz14_1 hfz14_0 hfz14_1
  try clear hcz20_0 hcz20_1 hfz20_0 hfz20_1
  try clear hcz26_0 hcz26_1 hfz26_0 hfz26_1
  try clear hcz32_0 hcz32_1 hfz32_0 hfz32_1
  try clear hcz35_0 hcz35_1 hfz35_0 hfz35_1
  try clear hcz37_0 hcz37_1 hfz37_0 hfz37_1
  try clear hcz41_0 hcz41_1 hfz41_0 hfz41_1
  try clear hcz44_0 hcz44_1 hfz44_0 hfz44_1
  obtain ⟨kq, x255001_3, HA, HJ3, HO_252000, BK245, BK246, BK251, BK254, HB⟩ := hcut
  cases kq with
  | zero => exact absurd HA.out (by simp [round_near.j0])
  | succ kj3 =>
   have H := HA.out
   clear HA
   simp only [round_near.j0] at H
   by_cases c46 : a0_0 = true
   ·subst c46
    rw [if_pos rfl] at H
    obtain ⟨t256, A47, H⟩ := zh H
    by_cases c48 : t256 = true
    ·subst c48
     rw [if_pos rfl] at H
     simp only [Option.some.injEq, Prod.mk.injEq] at H
     obtain ⟨rfl, rfl⟩ := H
     have hnb49 := NB245_246.out
     have hnc49 := NB246_245.out
     have hnb50 := NB245_251.out
     have hnc50 := NB251_245.out
     have hnb51 := NB245_254.out
     have hnc51 := NB254_245.out
     obtain ⟨_, _, _, _, _, _⟩ := zc BK245
     have hnb53 := NB251_246.out
     have hnc53 := NB246_251.out
     have hnb54 := NB251_254.out
     have hnc54 := NB254_251.out
     have hcz55_0 : wc.cell? ⟨gb251, 0, none⟩ = some (.slice Ao11 t247.length co11) := (blk_cell BK251.out 0).trans rfl
     have hcz55_1 : wc.cell? ⟨gb251, 1, none⟩ = some (.int .i64 t250) := (blk_cell BK251.out 1).trans rfl
     have hfz55_0 := blk_frozen BK251.out 0
     have hfz55_1 := blk_frozen BK251.out 1
     go_wp2_with (first | (go_at_call 50; (with_reducible refine (round_amount_zero.calls _ _ t247 t250 true _ ?side1 ?side2 A47.out).mono ?_); (case side1 => exact zk (R_reads' HO_252000.out).2.2); (case side2 => exact (R_reads' HO_252000.out).2.1); rintro e w56 ⟨rfl, hb⟩; replace HO_252000 := zA (R_below (ru HO_252000.out) hb); replace BK245 := zb BK245 hb; replace BK246 := zb BK246 hb; replace BK251 := zb BK251 hb; replace BK254 := zb BK254 hb; replace HB := zf hb; have hnb57 := NB254_246.out; have hnc57 := NB246_254.out; have hcz58_0 : w56.cell? ⟨gb254, 0, none⟩ = some (.int .u64 t252) := (blk_cell BK254.out 0).trans rfl; have hcz58_1 : w56.cell? ⟨gb254, 1, none⟩ = some (.int .u8 x255001_3) := (blk_cell BK254.out 1).trans rfl; have hfz58_0 := blk_frozen BK254.out 0; have hfz58_1 := blk_frozen BK254.out 1; have hcz59_0 : w56.cell? ⟨gb246, 0, none⟩ = some (.int .u64 0) := (blk_cell BK246.out 0).trans rfl; have hcz59_1 : w56.cell? ⟨gb246, 1, none⟩ = some (.int .u8 0) := (blk_cell BK246.out 1).trans rfl; have hfz59_0 := blk_frozen BK246.out 0; have hfz59_1 := blk_frozen BK246.out 1))
     refine bodyPost_ret (results_cell_row rfl _ _ gb246 29 #[.int .u64 t252, .int .u8 x255001_3] (0, 0) _ rfl (by (with_reducible repeat (first | refine blk_drewN ?_ _ | refine blk_drew ?_ | refine blk_alloc ?_ _)); refine blk_put (cs := #[.int .u64 t252, .int .u8 0]) ?_ 1 _ rfl; refine blk_put (cs := #[.int .u64 0, .int .u8 0]) ?_ 0 _ rfl; exact BK246.out) Tryd.underlying29 rfl (by kernel_rfl)) rfl ?_
     exact ⟨er, zs⟩
    replace c48 := Bool.eq_false_iff.mpr c48
    subst c48
    rw [if_neg (show ¬ (false = true) by decide)] at H
    obtain ⟨t257, A60, H⟩ := zh H
    simp only [Option.some.injEq, Prod.mk.injEq] at H
    obtain ⟨rfl, rfl⟩ := H
    have hnb61 := NB245_246.out
    have hnc61 := NB246_245.out
    have hnb62 := NB245_251.out
    have hnc62 := NB251_245.out
    have hnb63 := NB245_254.out
    have hnc63 := NB254_245.out
    obtain ⟨_, _, _, _, _, _⟩ := zc BK245
    have hnb65 := NB251_246.out
    have hnc65 := NB246_251.out
    have hnb66 := NB251_254.out
    have hnc66 := NB254_251.out
    have hcz67_0 : wc.cell? ⟨gb251, 0, none⟩ = some (.slice Ao11 t247.length co11) := (blk_cell BK251.out 0).trans rfl
    have hcz67_1 : wc.cell? ⟨gb251, 1, none⟩ = some (.int .i64 t250) := (blk_cell BK251.out 1).trans rfl
    have hfz67_0 := blk_frozen BK251.out 0
    have hfz67_1 := blk_frozen BK251.out 1
    go_wp2_with (first | (go_at_call 50; (with_reducible refine (round_amount_zero.calls _ _ t247 t250 false _ ?side1 ?side2 A47.out).mono ?_); (case side1 => exact zk (R_reads' HO_252000.out).2.2); (case side2 => exact (R_reads' HO_252000.out).2.1); rintro e w68 ⟨rfl, hb⟩; replace HO_252000 := zA (R_below (ru HO_252000.out) hb); replace BK245 := zb BK245 hb; replace BK246 := zb BK246 hb; replace BK251 := zb BK251 hb; replace BK254 := zb BK254 hb; replace HB := zf hb; have hnb69 := NB254_246.out; have hnc69 := NB246_254.out; have hcz70_0 : w68.cell? ⟨gb254, 0, none⟩ = some (.int .u64 t252) := (blk_cell BK254.out 0).trans rfl; have hcz70_1 : w68.cell? ⟨gb254, 1, none⟩ = some (.int .u8 x255001_3) := (blk_cell BK254.out 1).trans rfl; have hfz70_0 := blk_frozen BK254.out 0; have hfz70_1 := blk_frozen BK254.out 1) | ((with_reducible refine zG 17 rfl ?_); refine zL (some 41) rfl rfl Tryd.func17 #[.int .u64 t252] rfl ?_; (with_reducible refine (bits_Neg.calls t252 t257 _ A60.out).mono ?_); rintro e w' ⟨rfl, ⟨nd, rfl⟩⟩; refine ⟨_, rfl, ?_⟩; (try (rw [drewN_self w68]; generalize hq_ : World.drewN w68 _ = w68; have n0_ : Aside0 (Kd.R (Kd.int .u64) 26 w68 w.heap.size (fun _ => True) (.slice Ao11 t247.length co11) t247) := ⟨by rw [← hq_]; exact (ru HO_252000.out)⟩; have n1_ : Aside0 (w68.heap[gb245]? = some (.cells #[.bool true, .slice A0_1 l0_1.length c0_1, .int .i64 a0_2] 25 (0, 0))) := ⟨by rw [← hq_]; exact (zu BK245)⟩; have n2_ : Aside0 (w68.heap[gb246]? = some (.cells #[.int .u64 0, .int .u8 0] 29 (0, 0))) := ⟨by rw [← hq_]; exact (zu BK246)⟩; have n3_ : Aside0 (w68.heap[gb251]? = some (.cells #[.slice Ao11 t247.length co11, .int .i64 t250] 64 (0, 0))) := ⟨by rw [← hq_]; exact (zu BK251)⟩; have n4_ : Aside0 (w68.heap[gb254]? = some (.cells #[.int .u64 t252, .int .u8 x255001_3] 29 (0, 0))) := ⟨by rw [← hq_]; exact (zu BK254)⟩; have n5_ : Aside0 (Below w.heap.size w w68) := ⟨by rw [← hq_]; exact zs⟩; clear HO_252000 BK245 BK246 BK251 BK254 HB hq_; have HO_252000 := n0_; have BK245 := n1_; have BK246 := n2_; have BK251 := n3_; have BK254 := n4_; have HB := n5_; clear n0_ n1_ n2_ n3_ n4_ n5_)); have hcz71_0 : w68.cell? ⟨gb246, 0, none⟩ = some (.int .u64 0) := (blk_cell BK246.out 0).trans rfl; have hcz71_1 : w68.cell? ⟨gb246, 1, none⟩ = some (.int .u8 0) := (blk_cell BK246.out 1).trans rfl; have hfz71_0 := blk_frozen BK246.out 0; have hfz71_1 := blk_frozen BK246.out 1; have hcy0_ : w68.cell? ⟨gb254, 0, none⟩ = some (.int .u64 t252) := (blk_cell BK254.out 0).trans rfl; have hcy1_ : w68.cell? ⟨gb254, 1, none⟩ = some (.int .u8 x255001_3) := (blk_cell BK254.out 1).trans rfl; have hfy0_ := blk_frozen BK254.out 0; have hfy1_ := blk_frozen BK254.out 1))
    refine bodyPost_ret (results_cell_row rfl _ _ gb246 29 #[.int .u64 t257, .int .u8 x255001_3] (0, 0) _ rfl (by (with_reducible repeat (first | refine blk_drewN ?_ _ | refine blk_drew ?_ | refine blk_alloc ?_ _)); refine blk_put (cs := #[.int .u64 t257, .int .u8 0]) ?_ 1 _ rfl; refine blk_put (cs := #[.int .u64 0, .int .u8 0]) ?_ 0 _ rfl; refine blk_far ?_ NB246_254.out _; exact BK246.out) Tryd.underlying29 rfl (by kernel_rfl)) rfl ?_
    exact ⟨er, zs⟩
   replace c46 := Bool.eq_false_iff.mpr c46
   subst c46
   rw [if_neg (show ¬ (false = true) by decide)] at H
   simp only [Option.some.injEq, Prod.mk.injEq] at H
   obtain ⟨rfl, rfl⟩ := H
   have hnb72 := NB245_246.out
   have hnc72 := NB246_245.out
   have hnb73 := NB245_251.out
   have hnc73 := NB251_245.out
   have hnb74 := NB245_254.out
   have hnc74 := NB254_245.out
   obtain ⟨_, _, _, _, _, _⟩ := zc BK245
   have hnb76 := NB254_246.out
   have hnc76 := NB246_254.out
   have hnb77 := NB254_251.out
   have hnc77 := NB251_254.out
   have hcz78_0 : wc.cell? ⟨gb254, 0, none⟩ = some (.int .u64 t252) := (blk_cell BK254.out 0).trans rfl
   have hcz78_1 : wc.cell? ⟨gb254, 1, none⟩ = some (.int .u8 x255001_3) := (blk_cell BK254.out 1).trans rfl
   have hfz78_0 := blk_frozen BK254.out 0
   have hfz78_1 := blk_frozen BK254.out 1
   have hnb79 := NB246_251.out
   have hnc79 := NB251_246.out
   have hcz80_0 : wc.cell? ⟨gb246, 0, none⟩ = some (.int .u64 0) := (blk_cell BK246.out 0).trans rfl
   have hcz80_1 : wc.cell? ⟨gb246, 1, none⟩ = some (.int .u8 0) := (blk_cell BK246.out 1).trans rfl
   have hfz80_0 := blk_frozen BK246.out 0
   have hfz80_1 := blk_frozen BK246.out 1
   go_wp2
   refine bodyPost_ret (results_cell_row rfl _ _ gb246 29 #[.int .u64 t252, .int .u8 x255001_3] (0, 0) _ rfl (by (with_reducible repeat (first | refine blk_drewN ?_ _ | refine blk_drew ?_ | refine blk_alloc ?_ _)); refine blk_put (cs := #[.int .u64 t252, .int .u8 0]) ?_ 1 _ rfl; refine blk_put (cs := #[.int .u64 0, .int .u8 0]) ?_ 0 _ rfl; exact BK246.out) Tryd.underlying29 rfl (by kernel_rfl)) rfl ?_
   exact ⟨er, zs⟩
def round_Near.f (k : Nat) (a0_0 : Bool) (l0_1 : List Int) (a0_2 : Int) : Option (Int × Int × Int) := (dyad_Check.f k a0_0 l0_1 a0_2).bind fun t260 => (if t260 = 0 then ((round_near.f k a0_0 l0_1 a0_2).bind fun bt261 => (some (bt261.1, bt261.2, 0))) else (some (0, 0, t260)))
theorem round_Near.mono : ∀ a0 a1 a2 k, LeO (round_Near.f k a0 a1 a2) (round_Near.f (k + 1) a0 a1 a2) := by
 intro a0 a1 a2 k
 unfold round_Near.f
 repeat' first
   | (with_reducible exact dyad_Check.mono _ _ _ _)
   | (with_reducible exact round_near.mono _ _ _ _)
   | (with_reducible exact LeO.refl _)
   | (with_reducible exact LeO.none _)
   | (with_reducible refine LeO.ite ?_ ?_)
   | (with_reducible refine LeO.bind ?_ (fun _ => ?_))
   | exact dyad_Check.mono _ _ _ _
   | exact round_near.mono _ _ _ _
   | exact LeO.none _
   | refine LeO.ite ?_ ?_
   | refine LeO.bind ?_ (fun _ => ?_)
set_option maxHeartbeats 8000000 in
set_option maxRecDepth 100000 in
theorem round_Near.calls (k : Nat) (a0_0 : Bool) (A0_1 : Option Addr) (c0_1 : Nat) (l0_1 : List Int) (a0_2 : Int) (r1 : Int) (r2 : Int) (r3 : Int) (w : World) (hr0_1 : Kd.C (Kd.int .u64) w A0_1 l0_1.length l0_1) (hc0_1 : l0_1.length ≤ c0_1) (hT : Laid w) (h : round_Near.f k a0_0 l0_1 a0_2 = some (r1, r2, r3)) :
  Calls Tryd.prog 8 #[.agg #[.bool a0_0, .slice A0_1 l0_1.length c0_1, .int .i64 a0_2]] w fun e w' => e = .returned (.tuple #[.agg #[.int .u64 r1, .int .u8 r2], .int .i64 r3]) ∧ Below w.heap.size w w' := by
 have hu25 := Tryd.underlying25
 have hu29 := Tryd.underlying29
 have HR0_1 := zA hr0_1
 have HC0_1 := zA hc0_1
 clear hr0_1 hc0_1
 have HB := zA (Below.refl w.heap.size w)
 have H : ((dyad_Check.f k a0_0 l0_1 a0_2).bind fun t260 => (if t260 = 0 then ((round_near.f k a0_0 l0_1 a0_2).bind fun bt261 => (some (bt261.1, bt261.2, 0))) else (some (0, 0, t260)))) = some (r1, r2, r3) := h
 clear h
 obtain ⟨t260, A2, H⟩ := zh H
 by_cases c3 : t260 = 0
 ·rw [if_pos c3] at H
  have c3b0 := beq_iff_eq.mpr c3
  have c3b1 := bne_eq_false_iff_eq.mpr c3
  clear c3
  obtain ⟨⟨t261, t262⟩, A4, H⟩ := zh H
  (try dsimp only at H)
  simp only [Option.some.injEq, Prod.mk.injEq] at H
  obtain ⟨rfl, rfl, rfl⟩ := H
  go_enter Tryd.func8, Tryd.ntmps8
  go_wp2_with (first | ((with_reducible refine zD 1 rfl ?_); refine zn (N := 1) (cs := #[.bool a0_0, .slice A0_1 l0_1.length c0_1, .int .i64 a0_2]) (t := 25) rfl rfl ?_; intro gb258 hg w5 hbox hb; have BK258 := zA (hbox); have GW258 := zw hg; replace HB := ze hb; clear hb hbox hg) | ((with_reducible refine zD 2 rfl ?_); refine zn (N := 2) (cs := #[.int .u64 0, .int .u8 0]) (t := 29) rfl rfl ?_; intro gb259 hg w6 hbox hb; have BK259 := zA (hbox); have GW259 := zx hg; replace HB := zf hb; have NB258_259 := zl BK258 hg; have NB259_258 := zg BK258 hg; replace BK258 := zb BK258 hb; clear hb hbox hg; have hnb7 := NB258_259.out; have hnc7 := NB259_258.out; obtain ⟨_, _, _, _, _, _⟩ := zc BK258) | ((with_reducible refine zG 32 rfl ?_); refine zL (some 6) rfl rfl Tryd.func32 #[.agg #[.bool a0_0, .slice A0_1 l0_1.length c0_1, .int .i64 a0_2]] rfl ?_; (with_reducible refine (dyad_Check.calls k a0_0 _ _ l0_1 a0_2 t260 _ ?side1 ?side2 A2.out).mono ?_); (case side1 => exact zk (C_below HR0_1.out HB.out)); (case side2 => exact HC0_1.out); rintro e w9 ⟨rfl, hb⟩; refine ⟨_, rfl, ?_⟩; replace BK258 := zb BK258 hb; replace BK259 := zb BK259 hb; replace HB := zf hb; obtain ⟨hcz10_0, hcz10_1, hcz10_2, hfz10_0, hfz10_1, hfz10_2⟩ := zc BK258) | ((with_reducible refine zG 33 rfl ?_); refine zL (some 12) rfl rfl Tryd.func33 #[.agg #[.bool a0_0, .slice A0_1 l0_1.length c0_1, .int .i64 a0_2]] rfl ?_; (with_reducible refine (round_near.calls k a0_0 _ _ l0_1 a0_2 t261 t262 _ ?side1 ?side2 (laid_below hT zs) A4.out).mono ?_); (case side1 => exact zk (C_below HR0_1.out HB.out)); (case side2 => exact HC0_1.out); rintro e w11 ⟨rfl, hb⟩; refine ⟨_, rfl, ?_⟩; replace BK258 := zb BK258 hb; replace BK259 := zb BK259 hb; replace HB := zf hb; have hcz12_0 : w11.cell? ⟨gb259, 0, none⟩ = some (.int .u64 0) := (blk_cell BK259.out 0).trans rfl; have hcz12_1 : w11.cell? ⟨gb259, 1, none⟩ = some (.int .u8 0) := (blk_cell BK259.out 1).trans rfl; have hfz12_0 := blk_frozen BK259.out 0; have hfz12_1 := blk_frozen BK259.out 1))
  refine bodyPost_ret (results_ct rfl _ _ gb259 29 #[.int .u64 t261, .int .u8 t262] (0, 0) _ rfl (by (with_reducible repeat (first | refine blk_drewN ?_ _ | refine blk_drew ?_ | refine blk_alloc ?_ _)); refine blk_put (cs := #[.int .u64 t261, .int .u8 0]) ?_ 1 _ rfl; refine blk_put (cs := #[.int .u64 0, .int .u8 0]) ?_ 0 _ rfl; exact BK259.out) Tryd.underlying29 rfl (by kernel_rfl)) rfl ?_
  exact ⟨er, zs⟩
 rw [if_neg c3] at H
 have c3b0 := beq_eq_false_iff_ne.mpr c3
 have c3b1 := bne_iff_ne.mpr c3
 simp only [Option.some.injEq, Prod.mk.injEq] at H
 obtain ⟨rfl, rfl, rfl⟩ := H
 go_enter Tryd.func8, Tryd.ntmps8
 go_wp2_with (first | ((with_reducible refine zD 1 rfl ?_); refine zn (N := 1) (cs := #[.bool a0_0, .slice A0_1 l0_1.length c0_1, .int .i64 a0_2]) (t := 25) rfl rfl ?_; intro gb258 hg w13 hbox hb; have BK258 := zA (hbox); have GW258 := zw hg; replace HB := ze hb; clear hb hbox hg) | ((with_reducible refine zD 2 rfl ?_); refine zn (N := 2) (cs := #[.int .u64 0, .int .u8 0]) (t := 29) rfl rfl ?_; intro gb259 hg w14 hbox hb; have BK259 := zA (hbox); have GW259 := zx hg; replace HB := zf hb; have NB258_259 := zl BK258 hg; have NB259_258 := zg BK258 hg; replace BK258 := zb BK258 hb; clear hb hbox hg; have hnb15 := NB258_259.out; have hnc15 := NB259_258.out; obtain ⟨_, _, _, _, _, _⟩ := zc BK258) | ((with_reducible refine zG 32 rfl ?_); refine zL (some 6) rfl rfl Tryd.func32 #[.agg #[.bool a0_0, .slice A0_1 l0_1.length c0_1, .int .i64 a0_2]] rfl ?_; (with_reducible refine (dyad_Check.calls k a0_0 _ _ l0_1 a0_2 t260 _ ?side1 ?side2 A2.out).mono ?_); (case side1 => exact zk (C_below HR0_1.out HB.out)); (case side2 => exact HC0_1.out); rintro e w17 ⟨rfl, hb⟩; refine ⟨_, rfl, ?_⟩; replace BK258 := zb BK258 hb; replace BK259 := zb BK259 hb; replace HB := zf hb; have hcz18_0 : w17.cell? ⟨gb259, 0, none⟩ = some (.int .u64 0) := (blk_cell BK259.out 0).trans rfl; have hcz18_1 : w17.cell? ⟨gb259, 1, none⟩ = some (.int .u8 0) := (blk_cell BK259.out 1).trans rfl; have hfz18_0 := blk_frozen BK259.out 0; have hfz18_1 := blk_frozen BK259.out 1))
 refine bodyPost_ret (results_ct rfl _ _ gb259 29 #[.int .u64 0, .int .u8 0] (0, 0) _ rfl (by (with_reducible repeat (first | refine blk_drewN ?_ _ | refine blk_drew ?_ | refine blk_alloc ?_ _)); refine blk_put (cs := #[.int .u64 0, .int .u8 0]) ?_ 1 _ rfl; refine blk_put (cs := #[.int .u64 0, .int .u8 0]) ?_ 0 _ rfl; exact BK259.out) Tryd.underlying29 rfl (by kernel_rfl)) rfl ?_
 exact ⟨er, zs⟩
end Go.Proofs.YtnjfckadjklmfaaDoor.PAll
