/- Printed functions, merged by a program of this session. -/
import Derived.Test.YtnjfckadjklmfaaDoorXRoundNearsP0
import Derived.Test.YtnjfckadjklmfaaDoorXRoundNearsP1
import Derived.Test.YtnjfckadjklmfaaDoorXRoundNearsP4
import Derived.Test.YtnjfckadjklmfaaDoorXRoundNearsP6
import Derived.Test.YtnjfckadjklmfaaDoorXRoundNearsP18
import Derived.Test.YtnjfckadjklmfaaDoorXRoundNearsSh
namespace Go.Proofs.YtnjfckadjklmfaaDoor.PAll
open Go.RowKit Go.Proofs.YtnjfckadjklmfaaDoorW.PrintWords Go.Proofs.YtnjfckadjklmfaaDoorW.PrintLast Go.Proofs.YtnjfckadjklmfaaDoorW.PrintMore Go.Proofs.YtnjfckadjklmfaaDoorW.PrintWords.Kd
attribute [local go_sem] max2_int min2_int max_two min_two max_three min_three max_four min_four   -- for this text's walks alone
set_option linter.unusedVariables false
set_option linter.unusedSimpArgs false
attribute [local go_sem] fld75_0 fld75_1 fld75_2 ext118 ext119
mutual
def round_Decide.j0 : Nat → Bool → List Int → Int → Bool → List Int → Int → Option (Int × Int × Bool × Int)
 | 0, _, _, _, _, _, _ => none
 | k + 1, x528000, x528001, x528002, x528003, x528004, x528005 => (round_near.f k x528000 x528001 x528002).bind fun bt530 => ((round_near.f k x528003 x528004 x528005).bind fun bt532 => ((round_of.f k x528000 x528001 x528002).bind fun bt536 => ((round_of.f k x528003 x528004 x528005).bind fun bt540 => ((round_amount_tiny.f k bt536.1 bt536.2).bind fun t546 => (if t546 = true then (round_Decide.j1 k true bt530.1 bt530.2 bt532.1 bt532.2 bt540.1 bt540.2) else ((round_amount_zero.f bt536.1 bt536.2).bind fun t547 => (round_Decide.j1 k t547 bt530.1 bt530.2 bt532.1 bt532.2 bt540.1 bt540.2)))))))
def round_Decide.j1 : Nat → Bool → Int → Int → Int → Int → List Int → Int → Option (Int × Int × Bool × Int)
 | 0, _, _, _, _, _, _, _ => none
 | k + 1, x10, x535000, x535001, x536000, x536001, x546000, x546001 => if x535000 = x536000 then ((round_amount_tiny.f k x546000 x546001).bind fun t548 => (if t548 = true then (round_Decide.j2 k x10 (x10 != true) x535000 x535001) else ((round_amount_zero.f x546000 x546001).bind fun t549 => (round_Decide.j2 k x10 (x10 != t549) x535000 x535001)))) else (round_Decide.j2 k x10 true x535000 x535001)
def round_Decide.j2 : Nat → Bool → Bool → Int → Int → Option (Int × Int × Bool × Int)
 | 0, _, _, _, _ => none
 | k + 1, x10, x50, x535000, x535001 => if x50 = true then (some (0, 0, false, 0)) else (round_Decide.j3 k x10 x535000 x535001)
def round_Decide.j3 : Nat → Bool → Int → Int → Option (Int × Int × Bool × Int)
 | 0, _, _, _ => none
 | k + 1, x10, x535000, x535001 => (bits_Abs.f x535000).bind fun t551 => (if t551 = 9218868437227405312 then (some (x535000, Go.bits .or .u8 16 4, true, 0)) else (if x10 = true then (some (x535000, Go.bits .or .u8 16 8, true, 0)) else (some (x535000, 16, true, 0))))
end
def round_Decide.f (k : Nat) (a0_0 : Bool) (l0_1 : List Int) (a0_2 : Int) (a0_3 : Bool) (l0_4 : List Int) (a0_5 : Int) : Option (Int × Int × Bool × Int) := (round_fault.f k a0_0 l0_1 a0_2 a0_3 l0_4 a0_5).bind fun t529 => (if t529 = 0 then (round_Decide.j0 k a0_0 l0_1 a0_2 a0_3 l0_4 a0_5) else (some (0, 0, false, t529)))
theorem round_Decide.mono_l : ∀ k, (∀ y0 y1 y2 y3 y4 y5, LeO (round_Decide.j0 k y0 y1 y2 y3 y4 y5) (round_Decide.j0 (k + 1) y0 y1 y2 y3 y4 y5)) ∧ (∀ y0 y1 y2 y3 y4 y5 y6, LeO (round_Decide.j1 k y0 y1 y2 y3 y4 y5 y6) (round_Decide.j1 (k + 1) y0 y1 y2 y3 y4 y5 y6)) ∧ (∀ y0 y1 y2 y3, LeO (round_Decide.j2 k y0 y1 y2 y3) (round_Decide.j2 (k + 1) y0 y1 y2 y3)) ∧ (∀ y0 y1 y2, LeO (round_Decide.j3 k y0 y1 y2) (round_Decide.j3 (k + 1) y0 y1 y2))
 | 0 => ⟨fun _ _ _ _ _ _ r h => by simp [round_Decide.j0] at h, fun _ _ _ _ _ _ _ r h => by simp [round_Decide.j1] at h, fun _ _ _ _ r h => by simp [round_Decide.j2] at h, fun _ _ _ r h => by simp [round_Decide.j3] at h⟩
 | k + 1 => by
  obtain ⟨ih0, ih1, ih2, ih3⟩ := round_Decide.mono_l k
  refine ⟨?_, ?_, ?_, ?_⟩
  ·intro y0 y1 y2 y3 y4 y5
   unfold round_Decide.j0
   repeat' first
   | (with_reducible exact ih0 _ _ _ _ _ _)
   | (with_reducible exact ih1 _ _ _ _ _ _ _)
   | (with_reducible exact ih2 _ _ _ _)
   | (with_reducible exact ih3 _ _ _)
   | (with_reducible exact round_amount_tiny.mono _ _ _)
   | (with_reducible exact round_fault.mono _ _ _ _ _ _ _)
   | (with_reducible exact round_near.mono _ _ _ _)
   | (with_reducible exact round_of.mono _ _ _ _)
   | (with_reducible exact LeO.refl _)
   | (with_reducible exact LeO.none _)
   | (with_reducible refine LeO.ite ?_ ?_)
   | (with_reducible refine LeO.bind ?_ (fun _ => ?_))
   | exact ih0 _ _ _ _ _ _
   | exact ih1 _ _ _ _ _ _ _
   | exact ih2 _ _ _ _
   | exact ih3 _ _ _
   | exact round_amount_tiny.mono _ _ _
   | exact round_fault.mono _ _ _ _ _ _ _
   | exact round_near.mono _ _ _ _
   | exact round_of.mono _ _ _ _
   | exact LeO.none _
   | refine LeO.ite ?_ ?_
   | refine LeO.bind ?_ (fun _ => ?_)
  ·intro y0 y1 y2 y3 y4 y5 y6
   unfold round_Decide.j1
   repeat' first
   | (with_reducible exact ih0 _ _ _ _ _ _)
   | (with_reducible exact ih1 _ _ _ _ _ _ _)
   | (with_reducible exact ih2 _ _ _ _)
   | (with_reducible exact ih3 _ _ _)
   | (with_reducible exact round_amount_tiny.mono _ _ _)
   | (with_reducible exact round_fault.mono _ _ _ _ _ _ _)
   | (with_reducible exact round_near.mono _ _ _ _)
   | (with_reducible exact round_of.mono _ _ _ _)
   | (with_reducible exact LeO.refl _)
   | (with_reducible exact LeO.none _)
   | (with_reducible refine LeO.ite ?_ ?_)
   | (with_reducible refine LeO.bind ?_ (fun _ => ?_))
   | exact ih0 _ _ _ _ _ _
   | exact ih1 _ _ _ _ _ _ _
   | exact ih2 _ _ _ _
   | exact ih3 _ _ _
   | exact round_amount_tiny.mono _ _ _
   | exact round_fault.mono _ _ _ _ _ _ _
   | exact round_near.mono _ _ _ _
   | exact round_of.mono _ _ _ _
   | exact LeO.none _
   | refine LeO.ite ?_ ?_
   | refine LeO.bind ?_ (fun _ => ?_)
  ·intro y0 y1 y2 y3
   unfold round_Decide.j2
   repeat' first
   | (with_reducible exact ih0 _ _ _ _ _ _)
   | (with_reducible exact ih1 _ _ _ _ _ _ _)
   | (with_reducible exact ih2 _ _ _ _)
   | (with_reducible exact ih3 _ _ _)
   | (with_reducible exact round_amount_tiny.mono _ _ _)
   | (with_reducible exact round_fault.mono _ _ _ _ _ _ _)
   | (with_reducible exact round_near.mono _ _ _ _)
   | (with_reducible exact round_of.mono _ _ _ _)
   | (with_reducible exact LeO.refl _)
   | (with_reducible exact LeO.none _)
   | (with_reducible refine LeO.ite ?_ ?_)
   | (with_reducible refine LeO.bind ?_ (fun _ => ?_))
   | exact ih0 _ _ _ _ _ _
   | exact ih1 _ _ _ _ _ _ _
   | exact ih2 _ _ _ _
   | exact ih3 _ _ _
   | exact round_amount_tiny.mono _ _ _
   | exact round_fault.mono _ _ _ _ _ _ _
   | exact round_near.mono _ _ _ _
   | exact round_of.mono _ _ _ _
   | exact LeO.none _
   | refine LeO.ite ?_ ?_
   | refine LeO.bind ?_ (fun _ => ?_)
  intro y0 y1 y2
  unfold round_Decide.j3
  repeat' first
  | (with_reducible exact ih0 _ _ _ _ _ _)
  | (with_reducible exact ih1 _ _ _ _ _ _ _)
  | (with_reducible exact ih2 _ _ _ _)
  | (with_reducible exact ih3 _ _ _)
  | (with_reducible exact round_amount_tiny.mono _ _ _)
  | (with_reducible exact round_fault.mono _ _ _ _ _ _ _)
  | (with_reducible exact round_near.mono _ _ _ _)
  | (with_reducible exact round_of.mono _ _ _ _)
  | (with_reducible exact LeO.refl _)
  | (with_reducible exact LeO.none _)
  | (with_reducible refine LeO.ite ?_ ?_)
  | (with_reducible refine LeO.bind ?_ (fun _ => ?_))
  | exact ih0 _ _ _ _ _ _
  | exact ih1 _ _ _ _ _ _ _
  | exact ih2 _ _ _ _
  | exact ih3 _ _ _
  | exact round_amount_tiny.mono _ _ _
  | exact round_fault.mono _ _ _ _ _ _ _
  | exact round_near.mono _ _ _ _
  | exact round_of.mono _ _ _ _
  | exact LeO.none _
  | refine LeO.ite ?_ ?_
  | refine LeO.bind ?_ (fun _ => ?_)
theorem round_Decide.mono : ∀ a0 a1 a2 a3 a4 a5 k, LeO (round_Decide.f k a0 a1 a2 a3 a4 a5) (round_Decide.f (k + 1) a0 a1 a2 a3 a4 a5) := by
 intro a0 a1 a2 a3 a4 a5 k
 obtain ⟨ih0, ih1, ih2, ih3⟩ := round_Decide.mono_l k
 unfold round_Decide.f
 repeat' first
   | (with_reducible exact ih0 _ _ _ _ _ _)
   | (with_reducible exact ih1 _ _ _ _ _ _ _)
   | (with_reducible exact ih2 _ _ _ _)
   | (with_reducible exact ih3 _ _ _)
   | (with_reducible exact round_amount_tiny.mono _ _ _)
   | (with_reducible exact round_fault.mono _ _ _ _ _ _ _)
   | (with_reducible exact round_near.mono _ _ _ _)
   | (with_reducible exact round_of.mono _ _ _ _)
   | (with_reducible exact LeO.refl _)
   | (with_reducible exact LeO.none _)
   | (with_reducible refine LeO.ite ?_ ?_)
   | (with_reducible refine LeO.bind ?_ (fun _ => ?_))
   | exact ih0 _ _ _ _ _ _
   | exact ih1 _ _ _ _ _ _ _
   | exact ih2 _ _ _ _
   | exact ih3 _ _ _
   | exact round_amount_tiny.mono _ _ _
   | exact round_fault.mono _ _ _ _ _ _ _
   | exact round_near.mono _ _ _ _
   | exact round_of.mono _ _ _ _
   | exact LeO.none _
   | refine LeO.ite ?_ ?_
   | refine LeO.bind ?_ (fun _ => ?_)
def round_Decide.T4 : Bool × List (List Nat × List Nat) := (true, [([], []), ([0], [0]), ([1], [1]), ([], []), ([3], [3]), ([4, 2], [4]), ([], []), ([], []), ([6, 2, 5, 0, 1, 2, 6, 7], [2, 6]), ([7, 5, 8, 0, 1, 2, 3, 4, 5, 6, 7, 8], [5, 7])])
def round_Decide.B4 : List Nat := [0, 1, 3, 0, 8, 31, 0, 0, 255, 511]
theorem round_Decide.tab4 : rtab .any (opsOf Tryd.f23 4) = round_Decide.T4 := by kernel_rfl
theorem round_Decide.bits4 : waitsOk round_Decide.T4.2 round_Decide.B4 = true := by kernel_rfl
def round_Decide.T5 : Bool × List (List Nat × List Nat) := (true, [([], []), ([0], [0]), ([1], [1]), ([], []), ([3], [3]), ([4, 2], [4]), ([], []), ([], []), ([6, 2, 5, 0, 1, 2, 6, 7], [2, 6]), ([7, 5, 8, 0, 1, 2, 3, 4, 5, 6, 7, 8], [5, 7])])
def round_Decide.B5 : List Nat := [0, 1, 3, 0, 8, 31, 0, 0, 255, 511]
theorem round_Decide.tab5 : rtab .any (opsOf Tryd.f23 5) = round_Decide.T5 := by kernel_rfl
theorem round_Decide.bits5 : waitsOk round_Decide.T5.2 round_Decide.B5 = true := by kernel_rfl
set_option maxHeartbeats 8000000 in
set_option maxRecDepth 100000 in
theorem round_Decide.calls (k : Nat) (a0_0 : Bool) (A0_1 : Option Addr) (c0_1 : Nat) (l0_1 : List Int) (a0_2 : Int) (a0_3 : Bool) (A0_4 : Option Addr) (c0_4 : Nat) (l0_4 : List Int) (a0_5 : Int) (r1 : Int) (r2 : Int) (r3 : Bool) (r4 : Int) (w : World) (hr0_1 : Kd.C (Kd.int .u64) w A0_1 l0_1.length l0_1) (hc0_1 : l0_1.length ≤ c0_1) (hr0_4 : Kd.C (Kd.int .u64) w A0_4 l0_4.length l0_4) (hc0_4 : l0_4.length ≤ c0_4) (hT : Laid w) (h : round_Decide.f k a0_0 l0_1 a0_2 a0_3 l0_4 a0_5 = some (r1, r2, r3, r4)) :
  Calls Tryd.prog 23 #[.agg #[.bool a0_0, .slice A0_1 l0_1.length c0_1, .int .i64 a0_2, .bool a0_3, .slice A0_4 l0_4.length c0_4, .int .i64 a0_5]] w fun e w' => e = .returned (.tuple #[.agg #[.int .u64 r1, .int .u8 r2], .bool r3, .int .i64 r4]) ∧ Below w.heap.size w w' := by
 have hu49 := Tryd.underlying49
 have hu29 := Tryd.underlying29
 have hu25 := Tryd.underlying25
 have hu64 := Tryd.underlying64
 have HR0_1 := zA hr0_1
 have HC0_1 := zA hc0_1
 clear hr0_1 hc0_1
 have HR0_4 := zA hr0_4
 have HC0_4 := zA hc0_4
 clear hr0_4 hc0_4
 have HB := zA (Below.refl w.heap.size w)
 have H : ((round_fault.f k a0_0 l0_1 a0_2 a0_3 l0_4 a0_5).bind fun t529 => (if t529 = 0 then (round_Decide.j0 k a0_0 l0_1 a0_2 a0_3 l0_4 a0_5) else (some (0, 0, false, t529)))) = some (r1, r2, r3, r4) := h
 clear h
 obtain ⟨t529, A2, H⟩ := zh H
 have HC3 := zA H
 clear H
 go_enter Tryd.func23, Tryd.ntmps23
 go_upto_if 15 with (first | ((with_reducible refine zD 1 rfl ?_); refine zn (N := 1) (cs := #[.bool a0_0, .slice A0_1 l0_1.length c0_1, .int .i64 a0_2, .bool a0_3, .slice A0_4 l0_4.length c0_4, .int .i64 a0_5]) (t := 49) rfl rfl ?_; intro gb527 hg w4 hbox hb; have BK527 := zA (hbox); have GW527 := zw hg; have GE527 := zw hg; replace HB := ze hb; clear hb hbox hg) | ((with_reducible refine zD 2 rfl ?_); refine zn (N := 2) (cs := #[.int .u64 0, .int .u8 0]) (t := 29) rfl rfl ?_; intro gb528 hg w5 hbox hb; have BK528 := zA (hbox); have GW528 := zx hg; have GE528 := zx hg; replace HB := zf hb; have NB527_528 := zl BK527 hg; have NB528_527 := zg BK527 hg; replace BK527 := zb BK527 hb; clear hb hbox hg; have hnb6 := NB527_528.out; have hnc6 := NB528_527.out; have hcz7_0 : w5.cell? ⟨gb527, 0, none⟩ = some (.bool a0_0) := (blk_cell BK527.out 0).trans rfl; have hcz7_1 : w5.cell? ⟨gb527, 1, none⟩ = some (.slice A0_1 l0_1.length c0_1) := (blk_cell BK527.out 1).trans rfl; have hcz7_2 : w5.cell? ⟨gb527, 2, none⟩ = some (.int .i64 a0_2) := (blk_cell BK527.out 2).trans rfl; have hcz7_3 : w5.cell? ⟨gb527, 3, none⟩ = some (.bool a0_3) := (blk_cell BK527.out 3).trans rfl; have hcz7_4 : w5.cell? ⟨gb527, 4, none⟩ = some (.slice A0_4 l0_4.length c0_4) := (blk_cell BK527.out 4).trans rfl; have hcz7_5 : w5.cell? ⟨gb527, 5, none⟩ = some (.int .i64 a0_5) := (blk_cell BK527.out 5).trans rfl; have hfz7_0 := blk_frozen BK527.out 0; have hfz7_1 := blk_frozen BK527.out 1; have hfz7_2 := blk_frozen BK527.out 2; have hfz7_3 := blk_frozen BK527.out 3; have hfz7_4 := blk_frozen BK527.out 4; have hfz7_5 := blk_frozen BK527.out 5) | ((with_reducible refine zG 49 rfl ?_); refine zL (some 13) rfl rfl Tryd.func49 #[.agg #[.bool a0_0, .slice A0_1 l0_1.length c0_1, .int .i64 a0_2, .bool a0_3, .slice A0_4 l0_4.length c0_4, .int .i64 a0_5]] rfl ?_; (with_reducible refine (round_fault.calls k a0_0 _ _ l0_1 a0_2 a0_3 _ _ l0_4 a0_5 t529 _ ?side1 ?side2 ?side3 ?side4 (laid_below hT zs) A2.out).mono ?_); (case side1 => exact zk (C_below HR0_1.out HB.out)); (case side2 => exact HC0_1.out); (case side3 => exact zk (C_below HR0_4.out HB.out)); (case side4 => exact HC0_4.out); rintro e w8 ⟨rfl, hb⟩; refine ⟨_, rfl, ?_⟩; replace BK527 := zb BK527 hb; replace BK528 := zb BK528 hb; replace HB := zf hb))
 (try simp only [Act.put, List.setIfInBounds_toArray, List.set_cons_zero, List.set_cons_succ])
 go_cut [] (fun wc => ∃ (kq : Nat) (x529000_2 : Int) (x529001_2 : Int), Aside0 (round_Decide.j0 kq a0_0 l0_1 a0_2 a0_3 l0_4 a0_5 = some (r1, r2, r3, r4)) ∧ Aside0 (kq ≤ k) ∧ Aside0 (wc.heap[gb527]? = some (.cells #[.bool a0_0, (.slice A0_1 l0_1.length c0_1), .int .i64 a0_2, .bool a0_3, (.slice A0_4 l0_4.length c0_4), .int .i64 a0_5] 49 (0, 0))) ∧ Aside0 (wc.heap[gb528]? = some (.cells #[.int .u64 x529000_2, .int .u8 x529001_2] 29 (0, 0))) ∧ Aside0 (Below w.heap.size w wc))
 case first =>
  have H := HC3.out
  clear HC3
  by_cases c9 : t529 = 0
  ·rw [if_pos c9] at H
   have c9b0 := beq_iff_eq.mpr c9
   have c9b1 := bne_eq_false_iff_eq.mpr c9
   clear c9
   (first | rw [c9b0] | (simp only [i64_w, i32_w]; rw [c9b0]) | skip)
   have H' := zA H
   clear H
   go_wp2
   go_meet
   case rel => exact ⟨_, (0), (0), H', ⟨by first | omega | exact Nat.le_refl _⟩, ⟨zu BK527⟩, ⟨zu BK528⟩, ⟨zs⟩⟩
  rw [if_neg c9] at H
  have c9b0 := beq_eq_false_iff_ne.mpr c9
  have c9b1 := bne_iff_ne.mpr c9
  (first | rw [c9b0] | (simp only [i64_w, i32_w]; rw [c9b0]) | skip)
  simp only [Option.some.injEq, Prod.mk.injEq] at H
  obtain ⟨rfl, rfl, rfl, rfl⟩ := H
  have hnb10 := NB528_527.out
  have hnc10 := NB527_528.out
  have hcz11_0 : w8.cell? ⟨gb528, 0, none⟩ = some (.int .u64 0) := (blk_cell BK528.out 0).trans rfl
  have hcz11_1 : w8.cell? ⟨gb528, 1, none⟩ = some (.int .u8 0) := (blk_cell BK528.out 1).trans rfl
  have hfz11_0 := blk_frozen BK528.out 0
  have hfz11_1 := blk_frozen BK528.out 1
  go_wp2
  refine bodyPost_ret (results_ctt rfl _ _ gb528 29 #[.int .u64 0, .int .u8 0] (0, 0) _ rfl (by (with_reducible repeat (first | refine blk_drewN ?_ _ | refine blk_drew ?_ | refine blk_alloc ?_ _)); refine blk_put (cs := #[.int .u64 0, .int .u8 0]) ?_ 1 _ rfl; refine blk_put (cs := #[.int .u64 0, .int .u8 0]) ?_ 0 _ rfl; exact BK528.out) Tryd.underlying29 rfl (by kernel_rfl)) rfl ?_
  exact ⟨er, zs⟩
 case rest =>
  clear HC3
  try clear c9
  try clear c9b0
  try clear c9b1
  try clear hcz11_0 hcz11_1 hfz11_0 hfz11_1
  try clear hcz7_0 hcz7_1 hcz7_2 hcz7_3 hcz7_4 hcz7_5 hfz7_0 hfz7_1 hfz7_2 hfz7_3 hfz7_4 hfz7_5
  obtain ⟨kq, x529000_2, x529001_2, HA, HJ2, BK527, BK528, HB⟩ := hcut
  cases kq with
  | zero => exact absurd HA.out (by simp [round_Decide.j0])
  | succ kj2 =>
   have H := HA.out
   clear HA
   simp only [round_Decide.j0] at H
   obtain ⟨⟨t530, t531⟩, A12, H⟩ := zh H
   (try dsimp only at H)
   obtain ⟨⟨t532, t533⟩, A13, H⟩ := zh H
   (try dsimp only at H)
   obtain ⟨⟨t536, t539⟩, A14, H⟩ := zh H
   (try dsimp only at H)
   obtain ⟨⟨t540, t543⟩, A15, H⟩ := zh H
   (try dsimp only at H)
   have HC16 := zA H
   clear H
   try go_wp2
   replace BK527 := zA (blk_drew BK527.out)
   replace BK528 := zA (blk_drew BK528.out)
   replace HB := zA (below_drew1 HB.out)
   refine start_ (n := 10) (S := fun w' => z4 w' gb527 (.bool a0_0) (.slice A0_1 l0_1.length c0_1) (.int .i64 a0_2) (w'.cell? ⟨gb527, 3, none⟩ = some (.bool a0_3) ∧ w'.cell? ⟨gb527, 4, none⟩ = some (.slice A0_4 l0_4.length c0_4) ∧ w'.cell? ⟨gb527, 5, none⟩ = some (.int .i64 a0_5))) (ds := []) #[false, false, false, false, false, false, false, false, false, false] (by kernel_rfl) rfl rfl (za BK527 ⟨(blk_cell BK527.out 3).trans rfl, (blk_cell BK527.out 4).trans rfl, (blk_cell BK527.out 5).trans rfl⟩) (fun hHeld => ?_); refine with_tabW round_Decide.tab4 round_Decide.bits4 (fun HT_ HW_ => ?_)
   generalize wc.drew = w17 at BK527 BK528 HB hHeld ⊢
   refine pure_ (i := 0) (N := some 18) (v := ?_) (a' := ?_) #[true, false, false, false, false, false, false, false, false, false] rfl rfl (any_of HT_.out (by kernel_rfl)) (fun _ _ _ h => h) (Or.inl ⟨by rfl, ?_⟩) ?_ ?_
   rotate_left
   ·intro w'
    go_simp
    with_reducible rfl
   rotate_left
   ·exact zq
   refine pure_ (i := 3) (N := some 21) (v := ?_) (a' := ?_) #[true, false, false, true, false, false, false, false, false, false] rfl rfl (any_of HT_.out (by kernel_rfl)) (fun _ _ _ h => h) (Or.inl ⟨by rfl, ?_⟩) ?_ ?_
   rotate_left
   ·intro w'
    go_simp
    with_reducible rfl
   rotate_left
   ·exact zq
   refine take_ (i := 1) (N := some 19) (v := ?_) (a' := ?_) #[true, true, false, true, false, false, false, false, false, false] rfl rfl (take_ofW HT_.out HW_.out (by kernel_rfl)) (fun _ _ _ h => h) (Or.inl ⟨by rfl, ?_⟩) hHeld ?_ ?_
   rotate_left
   ·rintro w' ⟨s0, s1, s2, s3, s4, s5⟩
    go_simp
    with_reducible rfl
   rotate_left
   ·exact zq
   refine take_ (i := 4) (N := some 22) (v := ?_) (a' := ?_) #[true, true, false, true, true, false, false, false, false, false] rfl rfl (take_ofW HT_.out HW_.out (by kernel_rfl)) (fun _ _ _ h => h) (Or.inl ⟨by rfl, ?_⟩) hHeld ?_ ?_
   rotate_left
   ·rintro w' ⟨s0, s1, s2, s3, s4, s5⟩
    go_simp
    with_reducible rfl
   rotate_left
   ·exact zq
   refine join_ (σ := Nat × Nat) 2 #[true, true, true, true, true, true, true, true, false, false] (fun s_ => [(20, .agg #[.int .u64 t530, .int .u8 t531]), (23, .agg #[.int .u64 t532, .int .u8 t533]), (6, .pointer (some ⟨s_.1, 0, none⟩)), (7, .pointer (some ⟨s_.2, 0, none⟩))]) (fun s_ w' => (z4 w' gb527 (.bool a0_0) (.slice A0_1 l0_1.length c0_1) (.int .i64 a0_2) (w'.cell? ⟨gb527, 3, none⟩ = some (.bool a0_3) ∧ w'.cell? ⟨gb527, 4, none⟩ = some (.slice A0_4 l0_4.length c0_4) ∧ w'.cell? ⟨gb527, 5, none⟩ = some (.int .i64 a0_5))) ∧ (w'.heap[gb527]? = some (.cells #[.bool a0_0, .slice A0_1 l0_1.length c0_1, .int .i64 a0_2, .bool a0_3, .slice A0_4 l0_4.length c0_4, .int .i64 a0_5] 49 (0, 0))) ∧ (w'.heap[gb528]? = some (.cells #[.int .u64 x529000_2, .int .u8 x529001_2] 29 (0, 0))) ∧ (w'.heap[s_.1]? = some (.cells #[.int .u64 0, .int .u8 0] 29 (0, 0))) ∧ (w'.heap[s_.2]? = some (.cells #[.int .u64 0, .int .u8 0] 29 (0, 0))) ∧ (w.heap.size ≤ s_.1) ∧ (w.heap.size ≤ s_.1) ∧ (gb527 ≠ s_.1) ∧ (s_.1 ≠ gb527) ∧ (gb528 ≠ s_.1) ∧ (s_.1 ≠ gb528) ∧ (s_.2 ≠ s_.1) ∧ (s_.1 ≠ s_.2) ∧ (w.heap.size ≤ s_.2) ∧ (w.heap.size ≤ s_.2) ∧ (gb527 ≠ s_.2) ∧ (s_.2 ≠ gb527) ∧ (gb528 ≠ s_.2) ∧ (s_.2 ≠ gb528) ∧ (Below w.heap.size w w')) ?_ ?_
   rotate_left
   ·intro hJ2_5_6_7
    refine join_ (σ := Nat) 3 #[true, true, true, true, true, true, true, false, false, false] (fun s_ => [(20, .agg #[.int .u64 t530, .int .u8 t531]), (23, .agg #[.int .u64 t532, .int .u8 t533]), (6, .pointer (some ⟨s_, 0, none⟩))]) (fun s_ w' => (z4 w' gb527 (.bool a0_0) (.slice A0_1 l0_1.length c0_1) (.int .i64 a0_2) (w'.cell? ⟨gb527, 3, none⟩ = some (.bool a0_3) ∧ w'.cell? ⟨gb527, 4, none⟩ = some (.slice A0_4 l0_4.length c0_4) ∧ w'.cell? ⟨gb527, 5, none⟩ = some (.int .i64 a0_5))) ∧ (w'.heap[gb527]? = some (.cells #[.bool a0_0, .slice A0_1 l0_1.length c0_1, .int .i64 a0_2, .bool a0_3, .slice A0_4 l0_4.length c0_4, .int .i64 a0_5] 49 (0, 0))) ∧ (w'.heap[gb528]? = some (.cells #[.int .u64 x529000_2, .int .u8 x529001_2] 29 (0, 0))) ∧ (w'.heap[s_]? = some (.cells #[.int .u64 0, .int .u8 0] 29 (0, 0))) ∧ (w.heap.size ≤ s_) ∧ (w.heap.size ≤ s_) ∧ (gb527 ≠ s_) ∧ (s_ ≠ gb527) ∧ (gb528 ≠ s_) ∧ (s_ ≠ gb528) ∧ (Below w.heap.size w w')) ?_ ?_
    rotate_left
    ·intro hJ2_5_6
     refine join_ (σ := Nat) 3 #[true, true, true, true, true, true, false, true, false, false] (fun s_ => [(20, .agg #[.int .u64 t530, .int .u8 t531]), (23, .agg #[.int .u64 t532, .int .u8 t533]), (7, .pointer (some ⟨s_, 0, none⟩))]) (fun s_ w' => (z4 w' gb527 (.bool a0_0) (.slice A0_1 l0_1.length c0_1) (.int .i64 a0_2) (w'.cell? ⟨gb527, 3, none⟩ = some (.bool a0_3) ∧ w'.cell? ⟨gb527, 4, none⟩ = some (.slice A0_4 l0_4.length c0_4) ∧ w'.cell? ⟨gb527, 5, none⟩ = some (.int .i64 a0_5))) ∧ (w'.heap[gb527]? = some (.cells #[.bool a0_0, .slice A0_1 l0_1.length c0_1, .int .i64 a0_2, .bool a0_3, .slice A0_4 l0_4.length c0_4, .int .i64 a0_5] 49 (0, 0))) ∧ (w'.heap[gb528]? = some (.cells #[.int .u64 x529000_2, .int .u8 x529001_2] 29 (0, 0))) ∧ (w'.heap[s_]? = some (.cells #[.int .u64 0, .int .u8 0] 29 (0, 0))) ∧ (w.heap.size ≤ s_) ∧ (w.heap.size ≤ s_) ∧ (gb527 ≠ s_) ∧ (s_ ≠ gb527) ∧ (gb528 ≠ s_) ∧ (s_ ≠ gb528) ∧ (Below w.heap.size w w')) ?_ ?_
     rotate_left
     ·intro hJ2_5_7
      refine join_ (σ := Nat × Nat) 3 #[true, true, true, true, true, false, true, true, false, false] (fun s_ => [(20, .agg #[.int .u64 t530, .int .u8 t531]), (6, .pointer (some ⟨s_.1, 0, none⟩)), (7, .pointer (some ⟨s_.2, 0, none⟩))]) (fun s_ w' => (z4 w' gb527 (.bool a0_0) (.slice A0_1 l0_1.length c0_1) (.int .i64 a0_2) (w'.cell? ⟨gb527, 3, none⟩ = some (.bool a0_3) ∧ w'.cell? ⟨gb527, 4, none⟩ = some (.slice A0_4 l0_4.length c0_4) ∧ w'.cell? ⟨gb527, 5, none⟩ = some (.int .i64 a0_5))) ∧ (w'.heap[gb527]? = some (.cells #[.bool a0_0, .slice A0_1 l0_1.length c0_1, .int .i64 a0_2, .bool a0_3, .slice A0_4 l0_4.length c0_4, .int .i64 a0_5] 49 (0, 0))) ∧ (w'.heap[gb528]? = some (.cells #[.int .u64 x529000_2, .int .u8 x529001_2] 29 (0, 0))) ∧ (w'.heap[s_.1]? = some (.cells #[.int .u64 0, .int .u8 0] 29 (0, 0))) ∧ (w'.heap[s_.2]? = some (.cells #[.int .u64 0, .int .u8 0] 29 (0, 0))) ∧ (w.heap.size ≤ s_.1) ∧ (w.heap.size ≤ s_.1) ∧ (gb527 ≠ s_.1) ∧ (s_.1 ≠ gb527) ∧ (gb528 ≠ s_.1) ∧ (s_.1 ≠ gb528) ∧ (s_.2 ≠ s_.1) ∧ (s_.1 ≠ s_.2) ∧ (w.heap.size ≤ s_.2) ∧ (w.heap.size ≤ s_.2) ∧ (gb527 ≠ s_.2) ∧ (s_.2 ≠ gb527) ∧ (gb528 ≠ s_.2) ∧ (s_.2 ≠ gb528) ∧ (Below w.heap.size w w')) ?_ ?_
      rotate_left
      ·intro hJ2_6_7
       refine join_ (σ := Unit) 4 #[true, true, true, true, true, true, false, false, false, false] (fun s_ => [(20, .agg #[.int .u64 t530, .int .u8 t531]), (23, .agg #[.int .u64 t532, .int .u8 t533])]) (fun s_ w' => (z4 w' gb527 (.bool a0_0) (.slice A0_1 l0_1.length c0_1) (.int .i64 a0_2) (w'.cell? ⟨gb527, 3, none⟩ = some (.bool a0_3) ∧ w'.cell? ⟨gb527, 4, none⟩ = some (.slice A0_4 l0_4.length c0_4) ∧ w'.cell? ⟨gb527, 5, none⟩ = some (.int .i64 a0_5))) ∧ (w'.heap[gb527]? = some (.cells #[.bool a0_0, .slice A0_1 l0_1.length c0_1, .int .i64 a0_2, .bool a0_3, .slice A0_4 l0_4.length c0_4, .int .i64 a0_5] 49 (0, 0))) ∧ (w'.heap[gb528]? = some (.cells #[.int .u64 x529000_2, .int .u8 x529001_2] 29 (0, 0))) ∧ (Below w.heap.size w w')) ?_ ?_
       rotate_left
       ·intro hJ2_5
        refine join_ (σ := Nat) 4 #[true, true, true, true, true, false, true, false, false, false] (fun s_ => [(20, .agg #[.int .u64 t530, .int .u8 t531]), (6, .pointer (some ⟨s_, 0, none⟩))]) (fun s_ w' => (z4 w' gb527 (.bool a0_0) (.slice A0_1 l0_1.length c0_1) (.int .i64 a0_2) (w'.cell? ⟨gb527, 3, none⟩ = some (.bool a0_3) ∧ w'.cell? ⟨gb527, 4, none⟩ = some (.slice A0_4 l0_4.length c0_4) ∧ w'.cell? ⟨gb527, 5, none⟩ = some (.int .i64 a0_5))) ∧ (w'.heap[gb527]? = some (.cells #[.bool a0_0, .slice A0_1 l0_1.length c0_1, .int .i64 a0_2, .bool a0_3, .slice A0_4 l0_4.length c0_4, .int .i64 a0_5] 49 (0, 0))) ∧ (w'.heap[gb528]? = some (.cells #[.int .u64 x529000_2, .int .u8 x529001_2] 29 (0, 0))) ∧ (w'.heap[s_]? = some (.cells #[.int .u64 0, .int .u8 0] 29 (0, 0))) ∧ (w.heap.size ≤ s_) ∧ (w.heap.size ≤ s_) ∧ (gb527 ≠ s_) ∧ (s_ ≠ gb527) ∧ (gb528 ≠ s_) ∧ (s_ ≠ gb528) ∧ (Below w.heap.size w w')) ?_ ?_
        rotate_left
        ·intro hJ2_6
         refine join_ (σ := Nat) 4 #[true, true, true, true, true, false, false, true, false, false] (fun s_ => [(20, .agg #[.int .u64 t530, .int .u8 t531]), (7, .pointer (some ⟨s_, 0, none⟩))]) (fun s_ w' => (z4 w' gb527 (.bool a0_0) (.slice A0_1 l0_1.length c0_1) (.int .i64 a0_2) (w'.cell? ⟨gb527, 3, none⟩ = some (.bool a0_3) ∧ w'.cell? ⟨gb527, 4, none⟩ = some (.slice A0_4 l0_4.length c0_4) ∧ w'.cell? ⟨gb527, 5, none⟩ = some (.int .i64 a0_5))) ∧ (w'.heap[gb527]? = some (.cells #[.bool a0_0, .slice A0_1 l0_1.length c0_1, .int .i64 a0_2, .bool a0_3, .slice A0_4 l0_4.length c0_4, .int .i64 a0_5] 49 (0, 0))) ∧ (w'.heap[gb528]? = some (.cells #[.int .u64 x529000_2, .int .u8 x529001_2] 29 (0, 0))) ∧ (w'.heap[s_]? = some (.cells #[.int .u64 0, .int .u8 0] 29 (0, 0))) ∧ (w.heap.size ≤ s_) ∧ (w.heap.size ≤ s_) ∧ (gb527 ≠ s_) ∧ (s_ ≠ gb527) ∧ (gb528 ≠ s_) ∧ (s_ ≠ gb528) ∧ (Below w.heap.size w w')) ?_ ?_
         rotate_left
         ·intro hJ2_7
          refine join_ (σ := Nat × Nat) 4 #[true, true, false, true, true, false, true, true, false, false] (fun s_ => [(6, .pointer (some ⟨s_.1, 0, none⟩)), (7, .pointer (some ⟨s_.2, 0, none⟩))]) (fun s_ w' => (z4 w' gb527 (.bool a0_0) (.slice A0_1 l0_1.length c0_1) (.int .i64 a0_2) (w'.cell? ⟨gb527, 3, none⟩ = some (.bool a0_3) ∧ w'.cell? ⟨gb527, 4, none⟩ = some (.slice A0_4 l0_4.length c0_4) ∧ w'.cell? ⟨gb527, 5, none⟩ = some (.int .i64 a0_5))) ∧ (w'.heap[gb527]? = some (.cells #[.bool a0_0, .slice A0_1 l0_1.length c0_1, .int .i64 a0_2, .bool a0_3, .slice A0_4 l0_4.length c0_4, .int .i64 a0_5] 49 (0, 0))) ∧ (w'.heap[gb528]? = some (.cells #[.int .u64 x529000_2, .int .u8 x529001_2] 29 (0, 0))) ∧ (w'.heap[s_.1]? = some (.cells #[.int .u64 0, .int .u8 0] 29 (0, 0))) ∧ (w'.heap[s_.2]? = some (.cells #[.int .u64 0, .int .u8 0] 29 (0, 0))) ∧ (w.heap.size ≤ s_.1) ∧ (w.heap.size ≤ s_.1) ∧ (gb527 ≠ s_.1) ∧ (s_.1 ≠ gb527) ∧ (gb528 ≠ s_.1) ∧ (s_.1 ≠ gb528) ∧ (s_.2 ≠ s_.1) ∧ (s_.1 ≠ s_.2) ∧ (w.heap.size ≤ s_.2) ∧ (w.heap.size ≤ s_.2) ∧ (gb527 ≠ s_.2) ∧ (s_.2 ≠ gb527) ∧ (gb528 ≠ s_.2) ∧ (s_.2 ≠ gb528) ∧ (Below w.heap.size w w')) ?_ ?_
          rotate_left
          ·intro hJ6_7
           refine join_ (σ := Unit) 5 #[true, true, true, true, true, false, false, false, false, false] (fun s_ => [(20, .agg #[.int .u64 t530, .int .u8 t531])]) (fun s_ w' => (z4 w' gb527 (.bool a0_0) (.slice A0_1 l0_1.length c0_1) (.int .i64 a0_2) (w'.cell? ⟨gb527, 3, none⟩ = some (.bool a0_3) ∧ w'.cell? ⟨gb527, 4, none⟩ = some (.slice A0_4 l0_4.length c0_4) ∧ w'.cell? ⟨gb527, 5, none⟩ = some (.int .i64 a0_5))) ∧ (w'.heap[gb527]? = some (.cells #[.bool a0_0, .slice A0_1 l0_1.length c0_1, .int .i64 a0_2, .bool a0_3, .slice A0_4 l0_4.length c0_4, .int .i64 a0_5] 49 (0, 0))) ∧ (w'.heap[gb528]? = some (.cells #[.int .u64 x529000_2, .int .u8 x529001_2] 29 (0, 0))) ∧ (Below w.heap.size w w')) ?_ ?_
           rotate_left
           ·intro hJ2
            refine join_ (σ := Nat) 5 #[true, true, false, true, true, false, true, false, false, false] (fun s_ => [(6, .pointer (some ⟨s_, 0, none⟩))]) (fun s_ w' => (z4 w' gb527 (.bool a0_0) (.slice A0_1 l0_1.length c0_1) (.int .i64 a0_2) (w'.cell? ⟨gb527, 3, none⟩ = some (.bool a0_3) ∧ w'.cell? ⟨gb527, 4, none⟩ = some (.slice A0_4 l0_4.length c0_4) ∧ w'.cell? ⟨gb527, 5, none⟩ = some (.int .i64 a0_5))) ∧ (w'.heap[gb527]? = some (.cells #[.bool a0_0, .slice A0_1 l0_1.length c0_1, .int .i64 a0_2, .bool a0_3, .slice A0_4 l0_4.length c0_4, .int .i64 a0_5] 49 (0, 0))) ∧ (w'.heap[gb528]? = some (.cells #[.int .u64 x529000_2, .int .u8 x529001_2] 29 (0, 0))) ∧ (w'.heap[s_]? = some (.cells #[.int .u64 0, .int .u8 0] 29 (0, 0))) ∧ (w.heap.size ≤ s_) ∧ (w.heap.size ≤ s_) ∧ (gb527 ≠ s_) ∧ (s_ ≠ gb527) ∧ (gb528 ≠ s_) ∧ (s_ ≠ gb528) ∧ (Below w.heap.size w w')) ?_ ?_
            rotate_left
            ·intro hJ6
             refine join_ (σ := Nat) 5 #[true, true, false, true, true, false, false, true, false, false] (fun s_ => [(7, .pointer (some ⟨s_, 0, none⟩))]) (fun s_ w' => (z4 w' gb527 (.bool a0_0) (.slice A0_1 l0_1.length c0_1) (.int .i64 a0_2) (w'.cell? ⟨gb527, 3, none⟩ = some (.bool a0_3) ∧ w'.cell? ⟨gb527, 4, none⟩ = some (.slice A0_4 l0_4.length c0_4) ∧ w'.cell? ⟨gb527, 5, none⟩ = some (.int .i64 a0_5))) ∧ (w'.heap[gb527]? = some (.cells #[.bool a0_0, .slice A0_1 l0_1.length c0_1, .int .i64 a0_2, .bool a0_3, .slice A0_4 l0_4.length c0_4, .int .i64 a0_5] 49 (0, 0))) ∧ (w'.heap[gb528]? = some (.cells #[.int .u64 x529000_2, .int .u8 x529001_2] 29 (0, 0))) ∧ (w'.heap[s_]? = some (.cells #[.int .u64 0, .int .u8 0] 29 (0, 0))) ∧ (w.heap.size ≤ s_) ∧ (w.heap.size ≤ s_) ∧ (gb527 ≠ s_) ∧ (s_ ≠ gb527) ∧ (gb528 ≠ s_) ∧ (s_ ≠ gb528) ∧ (Below w.heap.size w w')) ?_ ?_
             rotate_left
             ·intro hJ7
              refine three_ (i := 2) (j := 6) (k := 7) (Ni := some 20) (Nj := some 6) (Nk := some 7) #[true, true, true, true, true, false, false, false, false, false] #[true, true, false, true, true, false, true, false, false, false] #[true, true, false, true, true, false, false, true, false, false] rfl rfl rfl rfl rfl rfl (three_of HT_.out (by kernel_rfl)) (by decide) (by decide) (by decide) (fun K hK => ?_) (fun K hK => ?_) (fun K hK => ?_)
              ·skip
               refine goes_ Tryd.func33 (by kernel_rfl) rfl #[.agg #[.bool a0_0, .slice A0_1 l0_1.length c0_1, .int .i64 a0_2]] (by rfl) rfl rfl ga ?_
               with_reducible refine (round_near.calls kj2 a0_0 _ _ l0_1 a0_2 t530 t531 _ ?side1 ?side2 (laid_below hT zs) A12.out).mono ?_
               (case side1 => exact zk (C_below HR0_1.out HB.out))
               (case side2 => exact HC0_1.out)
               rintro e w18 ⟨rfl, hb⟩
               refine ⟨_, rfl, ?_⟩
               replace BK527 := zb BK527 hb
               replace BK528 := zb BK528 hb
               replace HB := zf hb
               (try clear hb)
               (try clear hb2)
               (try clear hk)
               (try clear hi)
               refine hK.out _ _ (za BK527 ⟨(blk_cell BK527.out 3).trans rfl, (blk_cell BK527.out 4).trans rfl, (blk_cell BK527.out 5).trans rfl⟩) (fun hHeld => ?_)
               clear hK K
               refine norm_ (a' := ?_) ?_ ?_
               rotate_left
               ·show Act.put _ (some 20) _ = _
                simp only [Act.put, List.setIfInBounds_toArray, List.set_cons_zero, List.set_cons_succ, i64_w, i32_w]
                rfl
               exact norm_ zm (hJ2 () _ ⟨hHeld, (zu BK527), (zu BK528), zs⟩)
              ·skip
               refine box_step ?hg (N := 6) ?hd (cs := #[.int .u64 0, .int .u8 0]) (t := 29) ?hr ?_; (case hd => rfl); (case hg => rfl); (case hr => first | (go_simp; done) | (go_simp; rfl))
               intro gb534 hg w18 hbox hb
               have BK534 := zA (hbox)
               have GW534 := zx hg
               have GE534 := zx hg
               replace HB := zf hb
               have NB527_534 := zl BK527 hg
               have NB534_527 := zg BK527 hg
               replace BK527 := zb BK527 hb
               have NB528_534 := zl BK528 hg
               have NB534_528 := zg BK528 hg
               replace BK528 := zb BK528 hb
               clear hb hbox hg
               refine hK.out _ _ (za BK527 ⟨(blk_cell BK527.out 3).trans rfl, (blk_cell BK527.out 4).trans rfl, (blk_cell BK527.out 5).trans rfl⟩) (fun hHeld => ?_)
               clear hK K
               refine norm_ (a' := ?_) ?_ ?_
               rotate_left
               ·show Act.put _ (some 6) _ = _
                simp only [Act.put, List.setIfInBounds_toArray, List.set_cons_zero, List.set_cons_succ, i64_w, i32_w]
                rfl
               exact norm_ zm (hJ6 (gb534) _ ⟨hHeld, (zu BK527), (zu BK528), (zu BK534), GW534.out, GE534.out, NB527_534.out, NB534_527.out, NB528_534.out, NB534_528.out, zs⟩)
              skip
              refine box_step ?hg (N := 7) ?hd (cs := #[.int .u64 0, .int .u8 0]) (t := 29) ?hr ?_; (case hd => rfl); (case hg => rfl); (case hr => first | (go_simp; done) | (go_simp; rfl))
              intro gb535 hg w18 hbox hb
              have BK535 := zA (hbox)
              have GW535 := zx hg
              have GE535 := zx hg
              replace HB := zf hb
              have NB527_535 := zl BK527 hg
              have NB535_527 := zg BK527 hg
              replace BK527 := zb BK527 hb
              have NB528_535 := zl BK528 hg
              have NB535_528 := zg BK528 hg
              replace BK528 := zb BK528 hb
              clear hb hbox hg
              refine hK.out _ _ (za BK527 ⟨(blk_cell BK527.out 3).trans rfl, (blk_cell BK527.out 4).trans rfl, (blk_cell BK527.out 5).trans rfl⟩) (fun hHeld => ?_)
              clear hK K
              refine norm_ (a' := ?_) ?_ ?_
              rotate_left
              ·show Act.put _ (some 7) _ = _
               simp only [Act.put, List.setIfInBounds_toArray, List.set_cons_zero, List.set_cons_succ, i64_w, i32_w]
               rfl
              exact norm_ zm (hJ7 (gb535) _ ⟨hHeld, (zu BK527), (zu BK528), (zu BK535), GW535.out, GE535.out, NB527_535.out, NB535_527.out, NB528_535.out, NB535_528.out, zs⟩)
             skip
             rintro gb535 w19 ⟨hS_, h0_, h1_, h2_, h3_, h4_, h5_, h6_, h7_, h8_, h9_⟩
             have n0_ := zA h0_
             have n1_ := zA h1_
             have n2_ := zA h2_
             have n3_ := zA h3_
             have n4_ := zA h4_
             have n5_ := zA h5_
             have n6_ := zA h6_
             have n7_ := zA h7_
             have n8_ := zA h8_
             have n9_ := zA h9_
             clear BK527
             clear BK528
             clear HB
             clear h0_ h1_ h2_ h3_ h4_ h5_ h6_ h7_ h8_ h9_
             have BK527 := n0_
             have BK528 := n1_
             have BK535 := n2_
             have GW535 := n3_
             have GE535 := n4_
             have NB527_535 := n5_
             have NB535_527 := n6_
             have NB528_535 := n7_
             have NB535_528 := n8_
             have HB := n9_
             clear n0_ n1_ n2_ n3_ n4_ n5_ n6_ n7_ n8_ n9_
             have hHeld : z4 w19 gb527 (.bool a0_0) (.slice A0_1 l0_1.length c0_1) (.int .i64 a0_2) (w19.cell? ⟨gb527, 3, none⟩ = some (.bool a0_3) ∧ w19.cell? ⟨gb527, 4, none⟩ = some (.slice A0_4 l0_4.length c0_4) ∧ w19.cell? ⟨gb527, 5, none⟩ = some (.int .i64 a0_5)) := hS_
             refine norm_ (a' := ?_) ?_ ?_
             rotate_left
             ·simp only [putAll, Act.put, List.setIfInBounds_toArray, List.set_cons_zero, List.set_cons_succ]
              rfl
             refine two_ (i := 2) (j := 6) (Ni := some 20) (Nj := some 6) #[true, true, true, true, true, false, false, true, false, false] #[true, true, false, true, true, false, true, true, false, false] rfl rfl rfl rfl (two_of HT_.out (by kernel_rfl)) (by decide) (by decide) (fun K hK => ?_) (fun K hK => ?_)
             ·skip
              refine goes_ Tryd.func33 (by kernel_rfl) rfl #[.agg #[.bool a0_0, .slice A0_1 l0_1.length c0_1, .int .i64 a0_2]] (by rfl) rfl rfl ga ?_
              with_reducible refine (round_near.calls kj2 a0_0 _ _ l0_1 a0_2 t530 t531 _ ?side1 ?side2 (laid_below hT zs) A12.out).mono ?_
              (case side1 => exact zk (C_below HR0_1.out HB.out))
              (case side2 => exact HC0_1.out)
              rintro e w20 ⟨rfl, hb⟩
              refine ⟨_, rfl, ?_⟩
              replace BK527 := zb BK527 hb
              replace BK528 := zb BK528 hb
              replace BK535 := zb BK535 hb
              replace HB := zf hb
              (try clear hb)
              (try clear hb2)
              (try clear hk)
              (try clear hi)
              refine hK.out _ _ (za BK527 ⟨(blk_cell BK527.out 3).trans rfl, (blk_cell BK527.out 4).trans rfl, (blk_cell BK527.out 5).trans rfl⟩) (fun hHeld => ?_)
              clear hK K
              refine norm_ (a' := ?_) ?_ ?_
              rotate_left
              ·show Act.put _ (some 20) _ = _
               simp only [Act.put, List.setIfInBounds_toArray, List.set_cons_zero, List.set_cons_succ, i64_w, i32_w]
               rfl
              exact norm_ zm (hJ2_7 (gb535) _ ⟨hHeld, (zu BK527), (zu BK528), (zu BK535), GW535.out, GE535.out, NB527_535.out, NB535_527.out, NB528_535.out, NB535_528.out, zs⟩)
             skip
             refine box_step ?hg (N := 6) ?hd (cs := #[.int .u64 0, .int .u8 0]) (t := 29) ?hr ?_; (case hd => rfl); (case hg => rfl); (case hr => first | (go_simp; done) | (go_simp; rfl))
             intro gb534 hg w20 hbox hb
             have BK534 := zA (hbox)
             have GW534 := zx hg
             have GE534 := zx hg
             replace HB := zf hb
             have NB527_534 := zl BK527 hg
             have NB534_527 := zg BK527 hg
             replace BK527 := zb BK527 hb
             have NB528_534 := zl BK528 hg
             have NB534_528 := zg BK528 hg
             replace BK528 := zb BK528 hb
             have NB535_534 := zl BK535 hg
             have NB534_535 := zg BK535 hg
             replace BK535 := zb BK535 hb
             clear hb hbox hg
             refine hK.out _ _ (za BK527 ⟨(blk_cell BK527.out 3).trans rfl, (blk_cell BK527.out 4).trans rfl, (blk_cell BK527.out 5).trans rfl⟩) (fun hHeld => ?_)
             clear hK K
             refine norm_ (a' := ?_) ?_ ?_
             rotate_left
             ·show Act.put _ (some 6) _ = _
              simp only [Act.put, List.setIfInBounds_toArray, List.set_cons_zero, List.set_cons_succ, i64_w, i32_w]
              rfl
             exact norm_ zm (hJ6_7 (gb534, gb535) _ ⟨hHeld, (zu BK527), (zu BK528), (zu BK534), (zu BK535), GW534.out, GE534.out, NB527_534.out, NB534_527.out, NB528_534.out, NB534_528.out, NB535_534.out, NB534_535.out, GW535.out, GE535.out, NB527_535.out, NB535_527.out, NB528_535.out, NB535_528.out, zs⟩)
            skip
            rintro gb534 w19 ⟨hS_, h0_, h1_, h2_, h3_, h4_, h5_, h6_, h7_, h8_, h9_⟩
            have n0_ := zA h0_
            have n1_ := zA h1_
            have n2_ := zA h2_
            have n3_ := zA h3_
            have n4_ := zA h4_
            have n5_ := zA h5_
            have n6_ := zA h6_
            have n7_ := zA h7_
            have n8_ := zA h8_
            have n9_ := zA h9_
            clear BK527
            clear BK528
            clear HB
            clear h0_ h1_ h2_ h3_ h4_ h5_ h6_ h7_ h8_ h9_
            have BK527 := n0_
            have BK528 := n1_
            have BK534 := n2_
            have GW534 := n3_
            have GE534 := n4_
            have NB527_534 := n5_
            have NB534_527 := n6_
            have NB528_534 := n7_
            have NB534_528 := n8_
            have HB := n9_
            clear n0_ n1_ n2_ n3_ n4_ n5_ n6_ n7_ n8_ n9_
            have hHeld : z4 w19 gb527 (.bool a0_0) (.slice A0_1 l0_1.length c0_1) (.int .i64 a0_2) (w19.cell? ⟨gb527, 3, none⟩ = some (.bool a0_3) ∧ w19.cell? ⟨gb527, 4, none⟩ = some (.slice A0_4 l0_4.length c0_4) ∧ w19.cell? ⟨gb527, 5, none⟩ = some (.int .i64 a0_5)) := hS_
            refine norm_ (a' := ?_) ?_ ?_
            rotate_left
            ·simp only [putAll, Act.put, List.setIfInBounds_toArray, List.set_cons_zero, List.set_cons_succ]
             rfl
            refine two_ (i := 2) (j := 7) (Ni := some 20) (Nj := some 7) #[true, true, true, true, true, false, true, false, false, false] #[true, true, false, true, true, false, true, true, false, false] rfl rfl rfl rfl (two_of HT_.out (by kernel_rfl)) (by decide) (by decide) (fun K hK => ?_) (fun K hK => ?_)
            ·skip
             refine goes_ Tryd.func33 (by kernel_rfl) rfl #[.agg #[.bool a0_0, .slice A0_1 l0_1.length c0_1, .int .i64 a0_2]] (by rfl) rfl rfl ga ?_
             with_reducible refine (round_near.calls kj2 a0_0 _ _ l0_1 a0_2 t530 t531 _ ?side1 ?side2 (laid_below hT zs) A12.out).mono ?_
             (case side1 => exact zk (C_below HR0_1.out HB.out))
             (case side2 => exact HC0_1.out)
             rintro e w20 ⟨rfl, hb⟩
             refine ⟨_, rfl, ?_⟩
             replace BK527 := zb BK527 hb
             replace BK528 := zb BK528 hb
             replace BK534 := zb BK534 hb
             replace HB := zf hb
             (try clear hb)
             (try clear hb2)
             (try clear hk)
             (try clear hi)
             refine hK.out _ _ (za BK527 ⟨(blk_cell BK527.out 3).trans rfl, (blk_cell BK527.out 4).trans rfl, (blk_cell BK527.out 5).trans rfl⟩) (fun hHeld => ?_)
             clear hK K
             refine norm_ (a' := ?_) ?_ ?_
             rotate_left
             ·show Act.put _ (some 20) _ = _
              simp only [Act.put, List.setIfInBounds_toArray, List.set_cons_zero, List.set_cons_succ, i64_w, i32_w]
              rfl
             exact norm_ zm (hJ2_6 (gb534) _ ⟨hHeld, (zu BK527), (zu BK528), (zu BK534), GW534.out, GE534.out, NB527_534.out, NB534_527.out, NB528_534.out, NB534_528.out, zs⟩)
            skip
            refine box_step ?hg (N := 7) ?hd (cs := #[.int .u64 0, .int .u8 0]) (t := 29) ?hr ?_; (case hd => rfl); (case hg => rfl); (case hr => first | (go_simp; done) | (go_simp; rfl))
            intro gb535 hg w20 hbox hb
            have BK535 := zA (hbox)
            have GW535 := zx hg
            have GE535 := zx hg
            replace HB := zf hb
            have NB527_535 := zl BK527 hg
            have NB535_527 := zg BK527 hg
            replace BK527 := zb BK527 hb
            have NB528_535 := zl BK528 hg
            have NB535_528 := zg BK528 hg
            replace BK528 := zb BK528 hb
            have NB534_535 := zl BK534 hg
            have NB535_534 := zg BK534 hg
            replace BK534 := zb BK534 hb
            clear hb hbox hg
            refine hK.out _ _ (za BK527 ⟨(blk_cell BK527.out 3).trans rfl, (blk_cell BK527.out 4).trans rfl, (blk_cell BK527.out 5).trans rfl⟩) (fun hHeld => ?_)
            clear hK K
            refine norm_ (a' := ?_) ?_ ?_
            rotate_left
            ·show Act.put _ (some 7) _ = _
             simp only [Act.put, List.setIfInBounds_toArray, List.set_cons_zero, List.set_cons_succ, i64_w, i32_w]
             rfl
            exact norm_ zm (hJ6_7 (gb534, gb535) _ ⟨hHeld, (zu BK527), (zu BK528), (zu BK534), (zu BK535), GW534.out, GE534.out, NB527_534.out, NB534_527.out, NB528_534.out, NB534_528.out, NB535_534.out, NB534_535.out, GW535.out, GE535.out, NB527_535.out, NB535_527.out, NB528_535.out, NB535_528.out, zs⟩)
           skip
           rintro _ w19 ⟨hS_, h0_, h1_, h2_⟩
           have n0_ := zA h0_
           have n1_ := zA h1_
           have n2_ := zA h2_
           clear BK527
           clear BK528
           clear HB
           clear h0_ h1_ h2_
           have BK527 := n0_
           have BK528 := n1_
           have HB := n2_
           clear n0_ n1_ n2_
           have hHeld : z4 w19 gb527 (.bool a0_0) (.slice A0_1 l0_1.length c0_1) (.int .i64 a0_2) (w19.cell? ⟨gb527, 3, none⟩ = some (.bool a0_3) ∧ w19.cell? ⟨gb527, 4, none⟩ = some (.slice A0_4 l0_4.length c0_4) ∧ w19.cell? ⟨gb527, 5, none⟩ = some (.int .i64 a0_5)) := hS_
           refine norm_ (a' := ?_) ?_ ?_
           rotate_left
           ·simp only [putAll, Act.put, List.setIfInBounds_toArray, List.set_cons_zero, List.set_cons_succ]
            rfl
           refine three_ (i := 5) (j := 6) (k := 7) (Ni := some 23) (Nj := some 6) (Nk := some 7) #[true, true, true, true, true, true, false, false, false, false] #[true, true, true, true, true, false, true, false, false, false] #[true, true, true, true, true, false, false, true, false, false] rfl rfl rfl rfl rfl rfl (three_of HT_.out (by kernel_rfl)) (by decide) (by decide) (by decide) (fun K hK => ?_) (fun K hK => ?_) (fun K hK => ?_)
           ·skip
            refine goes_ Tryd.func33 (by kernel_rfl) rfl #[.agg #[.bool a0_3, .slice A0_4 l0_4.length c0_4, .int .i64 a0_5]] (by rfl) rfl rfl ga ?_
            with_reducible refine (round_near.calls kj2 a0_3 _ _ l0_4 a0_5 t532 t533 _ ?side1 ?side2 (laid_below hT zs) A13.out).mono ?_
            (case side1 => exact zk (C_below HR0_4.out HB.out))
            (case side2 => exact HC0_4.out)
            rintro e w20 ⟨rfl, hb⟩
            refine ⟨_, rfl, ?_⟩
            replace BK527 := zb BK527 hb
            replace BK528 := zb BK528 hb
            replace HB := zf hb
            (try clear hb)
            (try clear hb2)
            (try clear hk)
            (try clear hi)
            refine hK.out _ _ (za BK527 ⟨(blk_cell BK527.out 3).trans rfl, (blk_cell BK527.out 4).trans rfl, (blk_cell BK527.out 5).trans rfl⟩) (fun hHeld => ?_)
            clear hK K
            refine norm_ (a' := ?_) ?_ ?_
            rotate_left
            ·show Act.put _ (some 23) _ = _
             simp only [Act.put, List.setIfInBounds_toArray, List.set_cons_zero, List.set_cons_succ, i64_w, i32_w]
             rfl
            exact norm_ zm (hJ2_5 () _ ⟨hHeld, (zu BK527), (zu BK528), zs⟩)
           ·skip
            refine box_step ?hg (N := 6) ?hd (cs := #[.int .u64 0, .int .u8 0]) (t := 29) ?hr ?_; (case hd => rfl); (case hg => rfl); (case hr => first | (go_simp; done) | (go_simp; rfl))
            intro gb534 hg w20 hbox hb
            have BK534 := zA (hbox)
            have GW534 := zx hg
            have GE534 := zx hg
            replace HB := zf hb
            have NB527_534 := zl BK527 hg
            have NB534_527 := zg BK527 hg
            replace BK527 := zb BK527 hb
            have NB528_534 := zl BK528 hg
            have NB534_528 := zg BK528 hg
            replace BK528 := zb BK528 hb
            clear hb hbox hg
            refine hK.out _ _ (za BK527 ⟨(blk_cell BK527.out 3).trans rfl, (blk_cell BK527.out 4).trans rfl, (blk_cell BK527.out 5).trans rfl⟩) (fun hHeld => ?_)
            clear hK K
            refine norm_ (a' := ?_) ?_ ?_
            rotate_left
            ·show Act.put _ (some 6) _ = _
             simp only [Act.put, List.setIfInBounds_toArray, List.set_cons_zero, List.set_cons_succ, i64_w, i32_w]
             rfl
            exact norm_ zm (hJ2_6 (gb534) _ ⟨hHeld, (zu BK527), (zu BK528), (zu BK534), GW534.out, GE534.out, NB527_534.out, NB534_527.out, NB528_534.out, NB534_528.out, zs⟩)
           skip
           refine box_step ?hg (N := 7) ?hd (cs := #[.int .u64 0, .int .u8 0]) (t := 29) ?hr ?_; (case hd => rfl); (case hg => rfl); (case hr => first | (go_simp; done) | (go_simp; rfl))
           intro gb535 hg w20 hbox hb
           have BK535 := zA (hbox)
           have GW535 := zx hg
           have GE535 := zx hg
           replace HB := zf hb
           have NB527_535 := zl BK527 hg
           have NB535_527 := zg BK527 hg
           replace BK527 := zb BK527 hb
           have NB528_535 := zl BK528 hg
           have NB535_528 := zg BK528 hg
           replace BK528 := zb BK528 hb
           clear hb hbox hg
           refine hK.out _ _ (za BK527 ⟨(blk_cell BK527.out 3).trans rfl, (blk_cell BK527.out 4).trans rfl, (blk_cell BK527.out 5).trans rfl⟩) (fun hHeld => ?_)
           clear hK K
           refine norm_ (a' := ?_) ?_ ?_
           rotate_left
           ·show Act.put _ (some 7) _ = _
            simp only [Act.put, List.setIfInBounds_toArray, List.set_cons_zero, List.set_cons_succ, i64_w, i32_w]
            rfl
           exact norm_ zm (hJ2_7 (gb535) _ ⟨hHeld, (zu BK527), (zu BK528), (zu BK535), GW535.out, GE535.out, NB527_535.out, NB535_527.out, NB528_535.out, NB535_528.out, zs⟩)
          skip
          rintro ⟨gb534, gb535⟩ w20 ⟨hS_, h0_, h1_, h2_, h3_, h4_, h5_, h6_, h7_, h8_, h9_, h10_, h11_, h12_, h13_, h14_, h15_, h16_, h17_, h18_⟩
          have n0_ := zA h0_
          have n1_ := zA h1_
          have n2_ := zA h2_
          have n3_ := zA h3_
          have n4_ := zA h4_
          have n5_ := zA h5_
          have n6_ := zA h6_
          have n7_ := zA h7_
          have n8_ := zA h8_
          have n9_ := zA h9_
          have n10_ := zA h10_
          have n11_ := zA h11_
          have n12_ := zA h12_
          have n13_ := zA h13_
          have n14_ := zA h14_
          have n15_ := zA h15_
          have n16_ := zA h16_
          have n17_ := zA h17_
          have n18_ := zA h18_
          clear BK527
          clear BK528
          clear HB
          clear h0_ h1_ h2_ h3_ h4_ h5_ h6_ h7_ h8_ h9_ h10_ h11_ h12_ h13_ h14_ h15_ h16_ h17_ h18_
          have BK527 := n0_
          have BK528 := n1_
          have BK534 := n2_
          have BK535 := n3_
          have GW534 := n4_
          have GE534 := n5_
          have NB527_534 := n6_
          have NB534_527 := n7_
          have NB528_534 := n8_
          have NB534_528 := n9_
          have NB535_534 := n10_
          have NB534_535 := n11_
          have GW535 := n12_
          have GE535 := n13_
          have NB527_535 := n14_
          have NB535_527 := n15_
          have NB528_535 := n16_
          have NB535_528 := n17_
          have HB := n18_
          clear n0_ n1_ n2_ n3_ n4_ n5_ n6_ n7_ n8_ n9_ n10_ n11_ n12_ n13_ n14_ n15_ n16_ n17_ n18_
          have hHeld : z4 w20 gb527 (.bool a0_0) (.slice A0_1 l0_1.length c0_1) (.int .i64 a0_2) (w20.cell? ⟨gb527, 3, none⟩ = some (.bool a0_3) ∧ w20.cell? ⟨gb527, 4, none⟩ = some (.slice A0_4 l0_4.length c0_4) ∧ w20.cell? ⟨gb527, 5, none⟩ = some (.int .i64 a0_5)) := hS_
          refine norm_ (a' := ?_) ?_ ?_
          rotate_left
          ·simp only [putAll, Act.put, List.setIfInBounds_toArray, List.set_cons_zero, List.set_cons_succ]
           rfl
          refine one_ (i := 2) (N := some 20) #[true, true, true, true, true, false, true, true, false, false] rfl rfl (one_of HT_.out (by kernel_rfl)) (by decide) (fun K hK => ?_)
          refine goes_ Tryd.func33 (by kernel_rfl) rfl #[.agg #[.bool a0_0, .slice A0_1 l0_1.length c0_1, .int .i64 a0_2]] (by rfl) rfl rfl ga ?_
          with_reducible refine (round_near.calls kj2 a0_0 _ _ l0_1 a0_2 t530 t531 _ ?side1 ?side2 (laid_below hT zs) A12.out).mono ?_
          (case side1 => exact zk (C_below HR0_1.out HB.out))
          (case side2 => exact HC0_1.out)
          rintro e w21 ⟨rfl, hb⟩
          refine ⟨_, rfl, ?_⟩
          replace BK527 := zb BK527 hb
          replace BK528 := zb BK528 hb
          replace BK534 := zb BK534 hb
          replace BK535 := zb BK535 hb
          replace HB := zf hb
          (try clear hb)
          (try clear hb2)
          (try clear hk)
          (try clear hi)
          refine hK.out _ _ (za BK527 ⟨(blk_cell BK527.out 3).trans rfl, (blk_cell BK527.out 4).trans rfl, (blk_cell BK527.out 5).trans rfl⟩) (fun hHeld => ?_)
          clear hK K
          refine norm_ (a' := ?_) ?_ ?_
          rotate_left
          ·show Act.put _ (some 20) _ = _
           simp only [Act.put, List.setIfInBounds_toArray, List.set_cons_zero, List.set_cons_succ, i64_w, i32_w]
           rfl
          exact norm_ zm (hJ2_6_7 (gb534, gb535) _ ⟨hHeld, (zu BK527), (zu BK528), (zu BK534), (zu BK535), GW534.out, GE534.out, NB527_534.out, NB534_527.out, NB528_534.out, NB534_528.out, NB535_534.out, NB534_535.out, GW535.out, GE535.out, NB527_535.out, NB535_527.out, NB528_535.out, NB535_528.out, zs⟩)
         skip
         rintro gb535 w20 ⟨hS_, h0_, h1_, h2_, h3_, h4_, h5_, h6_, h7_, h8_, h9_⟩
         have n0_ := zA h0_
         have n1_ := zA h1_
         have n2_ := zA h2_
         have n3_ := zA h3_
         have n4_ := zA h4_
         have n5_ := zA h5_
         have n6_ := zA h6_
         have n7_ := zA h7_
         have n8_ := zA h8_
         have n9_ := zA h9_
         clear BK527
         clear BK528
         clear HB
         clear h0_ h1_ h2_ h3_ h4_ h5_ h6_ h7_ h8_ h9_
         have BK527 := n0_
         have BK528 := n1_
         have BK535 := n2_
         have GW535 := n3_
         have GE535 := n4_
         have NB527_535 := n5_
         have NB535_527 := n6_
         have NB528_535 := n7_
         have NB535_528 := n8_
         have HB := n9_
         clear n0_ n1_ n2_ n3_ n4_ n5_ n6_ n7_ n8_ n9_
         have hHeld : z4 w20 gb527 (.bool a0_0) (.slice A0_1 l0_1.length c0_1) (.int .i64 a0_2) (w20.cell? ⟨gb527, 3, none⟩ = some (.bool a0_3) ∧ w20.cell? ⟨gb527, 4, none⟩ = some (.slice A0_4 l0_4.length c0_4) ∧ w20.cell? ⟨gb527, 5, none⟩ = some (.int .i64 a0_5)) := hS_
         refine norm_ (a' := ?_) ?_ ?_
         rotate_left
         ·simp only [putAll, Act.put, List.setIfInBounds_toArray, List.set_cons_zero, List.set_cons_succ]
          rfl
         refine two_ (i := 5) (j := 6) (Ni := some 23) (Nj := some 6) #[true, true, true, true, true, true, false, true, false, false] #[true, true, true, true, true, false, true, true, false, false] rfl rfl rfl rfl (two_of HT_.out (by kernel_rfl)) (by decide) (by decide) (fun K hK => ?_) (fun K hK => ?_)
         ·skip
          refine goes_ Tryd.func33 (by kernel_rfl) rfl #[.agg #[.bool a0_3, .slice A0_4 l0_4.length c0_4, .int .i64 a0_5]] (by rfl) rfl rfl ga ?_
          with_reducible refine (round_near.calls kj2 a0_3 _ _ l0_4 a0_5 t532 t533 _ ?side1 ?side2 (laid_below hT zs) A13.out).mono ?_
          (case side1 => exact zk (C_below HR0_4.out HB.out))
          (case side2 => exact HC0_4.out)
          rintro e w21 ⟨rfl, hb⟩
          refine ⟨_, rfl, ?_⟩
          replace BK527 := zb BK527 hb
          replace BK528 := zb BK528 hb
          replace BK535 := zb BK535 hb
          replace HB := zf hb
          (try clear hb)
          (try clear hb2)
          (try clear hk)
          (try clear hi)
          refine hK.out _ _ (za BK527 ⟨(blk_cell BK527.out 3).trans rfl, (blk_cell BK527.out 4).trans rfl, (blk_cell BK527.out 5).trans rfl⟩) (fun hHeld => ?_)
          clear hK K
          refine norm_ (a' := ?_) ?_ ?_
          rotate_left
          ·show Act.put _ (some 23) _ = _
           simp only [Act.put, List.setIfInBounds_toArray, List.set_cons_zero, List.set_cons_succ, i64_w, i32_w]
           rfl
          exact norm_ zm (hJ2_5_7 (gb535) _ ⟨hHeld, (zu BK527), (zu BK528), (zu BK535), GW535.out, GE535.out, NB527_535.out, NB535_527.out, NB528_535.out, NB535_528.out, zs⟩)
         skip
         refine box_step ?hg (N := 6) ?hd (cs := #[.int .u64 0, .int .u8 0]) (t := 29) ?hr ?_; (case hd => rfl); (case hg => rfl); (case hr => first | (go_simp; done) | (go_simp; rfl))
         intro gb534 hg w21 hbox hb
         have BK534 := zA (hbox)
         have GW534 := zx hg
         have GE534 := zx hg
         replace HB := zf hb
         have NB527_534 := zl BK527 hg
         have NB534_527 := zg BK527 hg
         replace BK527 := zb BK527 hb
         have NB528_534 := zl BK528 hg
         have NB534_528 := zg BK528 hg
         replace BK528 := zb BK528 hb
         have NB535_534 := zl BK535 hg
         have NB534_535 := zg BK535 hg
         replace BK535 := zb BK535 hb
         clear hb hbox hg
         refine hK.out _ _ (za BK527 ⟨(blk_cell BK527.out 3).trans rfl, (blk_cell BK527.out 4).trans rfl, (blk_cell BK527.out 5).trans rfl⟩) (fun hHeld => ?_)
         clear hK K
         refine norm_ (a' := ?_) ?_ ?_
         rotate_left
         ·show Act.put _ (some 6) _ = _
          simp only [Act.put, List.setIfInBounds_toArray, List.set_cons_zero, List.set_cons_succ, i64_w, i32_w]
          rfl
         exact norm_ zm (hJ2_6_7 (gb534, gb535) _ ⟨hHeld, (zu BK527), (zu BK528), (zu BK534), (zu BK535), GW534.out, GE534.out, NB527_534.out, NB534_527.out, NB528_534.out, NB534_528.out, NB535_534.out, NB534_535.out, GW535.out, GE535.out, NB527_535.out, NB535_527.out, NB528_535.out, NB535_528.out, zs⟩)
        skip
        rintro gb534 w20 ⟨hS_, h0_, h1_, h2_, h3_, h4_, h5_, h6_, h7_, h8_, h9_⟩
        have n0_ := zA h0_
        have n1_ := zA h1_
        have n2_ := zA h2_
        have n3_ := zA h3_
        have n4_ := zA h4_
        have n5_ := zA h5_
        have n6_ := zA h6_
        have n7_ := zA h7_
        have n8_ := zA h8_
        have n9_ := zA h9_
        clear BK527
        clear BK528
        clear HB
        clear h0_ h1_ h2_ h3_ h4_ h5_ h6_ h7_ h8_ h9_
        have BK527 := n0_
        have BK528 := n1_
        have BK534 := n2_
        have GW534 := n3_
        have GE534 := n4_
        have NB527_534 := n5_
        have NB534_527 := n6_
        have NB528_534 := n7_
        have NB534_528 := n8_
        have HB := n9_
        clear n0_ n1_ n2_ n3_ n4_ n5_ n6_ n7_ n8_ n9_
        have hHeld : z4 w20 gb527 (.bool a0_0) (.slice A0_1 l0_1.length c0_1) (.int .i64 a0_2) (w20.cell? ⟨gb527, 3, none⟩ = some (.bool a0_3) ∧ w20.cell? ⟨gb527, 4, none⟩ = some (.slice A0_4 l0_4.length c0_4) ∧ w20.cell? ⟨gb527, 5, none⟩ = some (.int .i64 a0_5)) := hS_
        refine norm_ (a' := ?_) ?_ ?_
        rotate_left
        ·simp only [putAll, Act.put, List.setIfInBounds_toArray, List.set_cons_zero, List.set_cons_succ]
         rfl
        refine two_ (i := 5) (j := 7) (Ni := some 23) (Nj := some 7) #[true, true, true, true, true, true, true, false, false, false] #[true, true, true, true, true, false, true, true, false, false] rfl rfl rfl rfl (two_of HT_.out (by kernel_rfl)) (by decide) (by decide) (fun K hK => ?_) (fun K hK => ?_)
        ·skip
         refine goes_ Tryd.func33 (by kernel_rfl) rfl #[.agg #[.bool a0_3, .slice A0_4 l0_4.length c0_4, .int .i64 a0_5]] (by rfl) rfl rfl ga ?_
         with_reducible refine (round_near.calls kj2 a0_3 _ _ l0_4 a0_5 t532 t533 _ ?side1 ?side2 (laid_below hT zs) A13.out).mono ?_
         (case side1 => exact zk (C_below HR0_4.out HB.out))
         (case side2 => exact HC0_4.out)
         rintro e w21 ⟨rfl, hb⟩
         refine ⟨_, rfl, ?_⟩
         replace BK527 := zb BK527 hb
         replace BK528 := zb BK528 hb
         replace BK534 := zb BK534 hb
         replace HB := zf hb
         (try clear hb)
         (try clear hb2)
         (try clear hk)
         (try clear hi)
         refine hK.out _ _ (za BK527 ⟨(blk_cell BK527.out 3).trans rfl, (blk_cell BK527.out 4).trans rfl, (blk_cell BK527.out 5).trans rfl⟩) (fun hHeld => ?_)
         clear hK K
         refine norm_ (a' := ?_) ?_ ?_
         rotate_left
         ·show Act.put _ (some 23) _ = _
          simp only [Act.put, List.setIfInBounds_toArray, List.set_cons_zero, List.set_cons_succ, i64_w, i32_w]
          rfl
         exact norm_ zm (hJ2_5_6 (gb534) _ ⟨hHeld, (zu BK527), (zu BK528), (zu BK534), GW534.out, GE534.out, NB527_534.out, NB534_527.out, NB528_534.out, NB534_528.out, zs⟩)
        skip
        refine box_step ?hg (N := 7) ?hd (cs := #[.int .u64 0, .int .u8 0]) (t := 29) ?hr ?_; (case hd => rfl); (case hg => rfl); (case hr => first | (go_simp; done) | (go_simp; rfl))
        intro gb535 hg w21 hbox hb
        have BK535 := zA (hbox)
        have GW535 := zx hg
        have GE535 := zx hg
        replace HB := zf hb
        have NB527_535 := zl BK527 hg
        have NB535_527 := zg BK527 hg
        replace BK527 := zb BK527 hb
        have NB528_535 := zl BK528 hg
        have NB535_528 := zg BK528 hg
        replace BK528 := zb BK528 hb
        have NB534_535 := zl BK534 hg
        have NB535_534 := zg BK534 hg
        replace BK534 := zb BK534 hb
        clear hb hbox hg
        refine hK.out _ _ (za BK527 ⟨(blk_cell BK527.out 3).trans rfl, (blk_cell BK527.out 4).trans rfl, (blk_cell BK527.out 5).trans rfl⟩) (fun hHeld => ?_)
        clear hK K
        refine norm_ (a' := ?_) ?_ ?_
        rotate_left
        ·show Act.put _ (some 7) _ = _
         simp only [Act.put, List.setIfInBounds_toArray, List.set_cons_zero, List.set_cons_succ, i64_w, i32_w]
         rfl
        exact norm_ zm (hJ2_6_7 (gb534, gb535) _ ⟨hHeld, (zu BK527), (zu BK528), (zu BK534), (zu BK535), GW534.out, GE534.out, NB527_534.out, NB534_527.out, NB528_534.out, NB534_528.out, NB535_534.out, NB534_535.out, GW535.out, GE535.out, NB527_535.out, NB535_527.out, NB528_535.out, NB535_528.out, zs⟩)
       skip
       rintro _ w20 ⟨hS_, h0_, h1_, h2_⟩
       have n0_ := zA h0_
       have n1_ := zA h1_
       have n2_ := zA h2_
       clear BK527
       clear BK528
       clear HB
       clear h0_ h1_ h2_
       have BK527 := n0_
       have BK528 := n1_
       have HB := n2_
       clear n0_ n1_ n2_
       have hHeld : z4 w20 gb527 (.bool a0_0) (.slice A0_1 l0_1.length c0_1) (.int .i64 a0_2) (w20.cell? ⟨gb527, 3, none⟩ = some (.bool a0_3) ∧ w20.cell? ⟨gb527, 4, none⟩ = some (.slice A0_4 l0_4.length c0_4) ∧ w20.cell? ⟨gb527, 5, none⟩ = some (.int .i64 a0_5)) := hS_
       refine norm_ (a' := ?_) ?_ ?_
       rotate_left
       ·simp only [putAll, Act.put, List.setIfInBounds_toArray, List.set_cons_zero, List.set_cons_succ]
        rfl
       refine two_ (i := 6) (j := 7) (Ni := some 6) (Nj := some 7) #[true, true, true, true, true, true, true, false, false, false] #[true, true, true, true, true, true, false, true, false, false] rfl rfl rfl rfl (two_of HT_.out (by kernel_rfl)) (by decide) (by decide) (fun K hK => ?_) (fun K hK => ?_)
       ·skip
        refine box_step ?hg (N := 6) ?hd (cs := #[.int .u64 0, .int .u8 0]) (t := 29) ?hr ?_; (case hd => rfl); (case hg => rfl); (case hr => first | (go_simp; done) | (go_simp; rfl))
        intro gb534 hg w21 hbox hb
        have BK534 := zA (hbox)
        have GW534 := zx hg
        have GE534 := zx hg
        replace HB := zf hb
        have NB527_534 := zl BK527 hg
        have NB534_527 := zg BK527 hg
        replace BK527 := zb BK527 hb
        have NB528_534 := zl BK528 hg
        have NB534_528 := zg BK528 hg
        replace BK528 := zb BK528 hb
        clear hb hbox hg
        refine hK.out _ _ (za BK527 ⟨(blk_cell BK527.out 3).trans rfl, (blk_cell BK527.out 4).trans rfl, (blk_cell BK527.out 5).trans rfl⟩) (fun hHeld => ?_)
        clear hK K
        refine norm_ (a' := ?_) ?_ ?_
        rotate_left
        ·show Act.put _ (some 6) _ = _
         simp only [Act.put, List.setIfInBounds_toArray, List.set_cons_zero, List.set_cons_succ, i64_w, i32_w]
         rfl
        exact norm_ zm (hJ2_5_6 (gb534) _ ⟨hHeld, (zu BK527), (zu BK528), (zu BK534), GW534.out, GE534.out, NB527_534.out, NB534_527.out, NB528_534.out, NB534_528.out, zs⟩)
       skip
       refine box_step ?hg (N := 7) ?hd (cs := #[.int .u64 0, .int .u8 0]) (t := 29) ?hr ?_; (case hd => rfl); (case hg => rfl); (case hr => first | (go_simp; done) | (go_simp; rfl))
       intro gb535 hg w21 hbox hb
       have BK535 := zA (hbox)
       have GW535 := zx hg
       have GE535 := zx hg
       replace HB := zf hb
       have NB527_535 := zl BK527 hg
       have NB535_527 := zg BK527 hg
       replace BK527 := zb BK527 hb
       have NB528_535 := zl BK528 hg
       have NB535_528 := zg BK528 hg
       replace BK528 := zb BK528 hb
       clear hb hbox hg
       refine hK.out _ _ (za BK527 ⟨(blk_cell BK527.out 3).trans rfl, (blk_cell BK527.out 4).trans rfl, (blk_cell BK527.out 5).trans rfl⟩) (fun hHeld => ?_)
       clear hK K
       refine norm_ (a' := ?_) ?_ ?_
       rotate_left
       ·show Act.put _ (some 7) _ = _
        simp only [Act.put, List.setIfInBounds_toArray, List.set_cons_zero, List.set_cons_succ, i64_w, i32_w]
        rfl
       exact norm_ zm (hJ2_5_7 (gb535) _ ⟨hHeld, (zu BK527), (zu BK528), (zu BK535), GW535.out, GE535.out, NB527_535.out, NB535_527.out, NB528_535.out, NB535_528.out, zs⟩)
      skip
      rintro ⟨gb534, gb535⟩ w21 ⟨hS_, h0_, h1_, h2_, h3_, h4_, h5_, h6_, h7_, h8_, h9_, h10_, h11_, h12_, h13_, h14_, h15_, h16_, h17_, h18_⟩
      have n0_ := zA h0_
      have n1_ := zA h1_
      have n2_ := zA h2_
      have n3_ := zA h3_
      have n4_ := zA h4_
      have n5_ := zA h5_
      have n6_ := zA h6_
      have n7_ := zA h7_
      have n8_ := zA h8_
      have n9_ := zA h9_
      have n10_ := zA h10_
      have n11_ := zA h11_
      have n12_ := zA h12_
      have n13_ := zA h13_
      have n14_ := zA h14_
      have n15_ := zA h15_
      have n16_ := zA h16_
      have n17_ := zA h17_
      have n18_ := zA h18_
      clear BK527
      clear BK528
      clear HB
      clear h0_ h1_ h2_ h3_ h4_ h5_ h6_ h7_ h8_ h9_ h10_ h11_ h12_ h13_ h14_ h15_ h16_ h17_ h18_
      have BK527 := n0_
      have BK528 := n1_
      have BK534 := n2_
      have BK535 := n3_
      have GW534 := n4_
      have GE534 := n5_
      have NB527_534 := n6_
      have NB534_527 := n7_
      have NB528_534 := n8_
      have NB534_528 := n9_
      have NB535_534 := n10_
      have NB534_535 := n11_
      have GW535 := n12_
      have GE535 := n13_
      have NB527_535 := n14_
      have NB535_527 := n15_
      have NB528_535 := n16_
      have NB535_528 := n17_
      have HB := n18_
      clear n0_ n1_ n2_ n3_ n4_ n5_ n6_ n7_ n8_ n9_ n10_ n11_ n12_ n13_ n14_ n15_ n16_ n17_ n18_
      have hHeld : z4 w21 gb527 (.bool a0_0) (.slice A0_1 l0_1.length c0_1) (.int .i64 a0_2) (w21.cell? ⟨gb527, 3, none⟩ = some (.bool a0_3) ∧ w21.cell? ⟨gb527, 4, none⟩ = some (.slice A0_4 l0_4.length c0_4) ∧ w21.cell? ⟨gb527, 5, none⟩ = some (.int .i64 a0_5)) := hS_
      refine norm_ (a' := ?_) ?_ ?_
      rotate_left
      ·simp only [putAll, Act.put, List.setIfInBounds_toArray, List.set_cons_zero, List.set_cons_succ]
       rfl
      refine one_ (i := 5) (N := some 23) #[true, true, true, true, true, true, true, true, false, false] rfl rfl (one_of HT_.out (by kernel_rfl)) (by decide) (fun K hK => ?_)
      refine goes_ Tryd.func33 (by kernel_rfl) rfl #[.agg #[.bool a0_3, .slice A0_4 l0_4.length c0_4, .int .i64 a0_5]] (by rfl) rfl rfl ga ?_
      with_reducible refine (round_near.calls kj2 a0_3 _ _ l0_4 a0_5 t532 t533 _ ?side1 ?side2 (laid_below hT zs) A13.out).mono ?_
      (case side1 => exact zk (C_below HR0_4.out HB.out))
      (case side2 => exact HC0_4.out)
      rintro e w22 ⟨rfl, hb⟩
      refine ⟨_, rfl, ?_⟩
      replace BK527 := zb BK527 hb
      replace BK528 := zb BK528 hb
      replace BK534 := zb BK534 hb
      replace BK535 := zb BK535 hb
      replace HB := zf hb
      (try clear hb)
      (try clear hb2)
      (try clear hk)
      (try clear hi)
      refine hK.out _ _ (za BK527 ⟨(blk_cell BK527.out 3).trans rfl, (blk_cell BK527.out 4).trans rfl, (blk_cell BK527.out 5).trans rfl⟩) (fun hHeld => ?_)
      clear hK K
      refine norm_ (a' := ?_) ?_ ?_
      rotate_left
      ·show Act.put _ (some 23) _ = _
       simp only [Act.put, List.setIfInBounds_toArray, List.set_cons_zero, List.set_cons_succ, i64_w, i32_w]
       rfl
      exact norm_ zm (hJ2_5_6_7 (gb534, gb535) _ ⟨hHeld, (zu BK527), (zu BK528), (zu BK534), (zu BK535), GW534.out, GE534.out, NB527_534.out, NB534_527.out, NB528_534.out, NB534_528.out, NB535_534.out, NB534_535.out, GW535.out, GE535.out, NB527_535.out, NB535_527.out, NB528_535.out, NB535_528.out, zs⟩)
     skip
     rintro gb535 w21 ⟨hS_, h0_, h1_, h2_, h3_, h4_, h5_, h6_, h7_, h8_, h9_⟩
     have n0_ := zA h0_
     have n1_ := zA h1_
     have n2_ := zA h2_
     have n3_ := zA h3_
     have n4_ := zA h4_
     have n5_ := zA h5_
     have n6_ := zA h6_
     have n7_ := zA h7_
     have n8_ := zA h8_
     have n9_ := zA h9_
     clear BK527
     clear BK528
     clear HB
     clear h0_ h1_ h2_ h3_ h4_ h5_ h6_ h7_ h8_ h9_
     have BK527 := n0_
     have BK528 := n1_
     have BK535 := n2_
     have GW535 := n3_
     have GE535 := n4_
     have NB527_535 := n5_
     have NB535_527 := n6_
     have NB528_535 := n7_
     have NB535_528 := n8_
     have HB := n9_
     clear n0_ n1_ n2_ n3_ n4_ n5_ n6_ n7_ n8_ n9_
     have hHeld : z4 w21 gb527 (.bool a0_0) (.slice A0_1 l0_1.length c0_1) (.int .i64 a0_2) (w21.cell? ⟨gb527, 3, none⟩ = some (.bool a0_3) ∧ w21.cell? ⟨gb527, 4, none⟩ = some (.slice A0_4 l0_4.length c0_4) ∧ w21.cell? ⟨gb527, 5, none⟩ = some (.int .i64 a0_5)) := hS_
     refine norm_ (a' := ?_) ?_ ?_
     rotate_left
     ·simp only [putAll, Act.put, List.setIfInBounds_toArray, List.set_cons_zero, List.set_cons_succ]
      rfl
     refine one_ (i := 6) (N := some 6) #[true, true, true, true, true, true, true, true, false, false] rfl rfl (one_of HT_.out (by kernel_rfl)) (by decide) (fun K hK => ?_)
     refine box_step ?hg (N := 6) ?hd (cs := #[.int .u64 0, .int .u8 0]) (t := 29) ?hr ?_; (case hd => rfl); (case hg => rfl); (case hr => first | (go_simp; done) | (go_simp; rfl))
     intro gb534 hg w22 hbox hb
     have BK534 := zA (hbox)
     have GW534 := zx hg
     have GE534 := zx hg
     replace HB := zf hb
     have NB527_534 := zl BK527 hg
     have NB534_527 := zg BK527 hg
     replace BK527 := zb BK527 hb
     have NB528_534 := zl BK528 hg
     have NB534_528 := zg BK528 hg
     replace BK528 := zb BK528 hb
     have NB535_534 := zl BK535 hg
     have NB534_535 := zg BK535 hg
     replace BK535 := zb BK535 hb
     clear hb hbox hg
     refine hK.out _ _ (za BK527 ⟨(blk_cell BK527.out 3).trans rfl, (blk_cell BK527.out 4).trans rfl, (blk_cell BK527.out 5).trans rfl⟩) (fun hHeld => ?_)
     clear hK K
     refine norm_ (a' := ?_) ?_ ?_
     rotate_left
     ·show Act.put _ (some 6) _ = _
      simp only [Act.put, List.setIfInBounds_toArray, List.set_cons_zero, List.set_cons_succ, i64_w, i32_w]
      rfl
     exact norm_ zm (hJ2_5_6_7 (gb534, gb535) _ ⟨hHeld, (zu BK527), (zu BK528), (zu BK534), (zu BK535), GW534.out, GE534.out, NB527_534.out, NB534_527.out, NB528_534.out, NB534_528.out, NB535_534.out, NB534_535.out, GW535.out, GE535.out, NB527_535.out, NB535_527.out, NB528_535.out, NB535_528.out, zs⟩)
    skip
    rintro gb534 w21 ⟨hS_, h0_, h1_, h2_, h3_, h4_, h5_, h6_, h7_, h8_, h9_⟩
    have n0_ := zA h0_
    have n1_ := zA h1_
    have n2_ := zA h2_
    have n3_ := zA h3_
    have n4_ := zA h4_
    have n5_ := zA h5_
    have n6_ := zA h6_
    have n7_ := zA h7_
    have n8_ := zA h8_
    have n9_ := zA h9_
    clear BK527
    clear BK528
    clear HB
    clear h0_ h1_ h2_ h3_ h4_ h5_ h6_ h7_ h8_ h9_
    have BK527 := n0_
    have BK528 := n1_
    have BK534 := n2_
    have GW534 := n3_
    have GE534 := n4_
    have NB527_534 := n5_
    have NB534_527 := n6_
    have NB528_534 := n7_
    have NB534_528 := n8_
    have HB := n9_
    clear n0_ n1_ n2_ n3_ n4_ n5_ n6_ n7_ n8_ n9_
    have hHeld : z4 w21 gb527 (.bool a0_0) (.slice A0_1 l0_1.length c0_1) (.int .i64 a0_2) (w21.cell? ⟨gb527, 3, none⟩ = some (.bool a0_3) ∧ w21.cell? ⟨gb527, 4, none⟩ = some (.slice A0_4 l0_4.length c0_4) ∧ w21.cell? ⟨gb527, 5, none⟩ = some (.int .i64 a0_5)) := hS_
    refine norm_ (a' := ?_) ?_ ?_
    rotate_left
    ·simp only [putAll, Act.put, List.setIfInBounds_toArray, List.set_cons_zero, List.set_cons_succ]
     rfl
    refine one_ (i := 7) (N := some 7) #[true, true, true, true, true, true, true, true, false, false] rfl rfl (one_of HT_.out (by kernel_rfl)) (by decide) (fun K hK => ?_)
    refine box_step ?hg (N := 7) ?hd (cs := #[.int .u64 0, .int .u8 0]) (t := 29) ?hr ?_; (case hd => rfl); (case hg => rfl); (case hr => first | (go_simp; done) | (go_simp; rfl))
    intro gb535 hg w22 hbox hb
    have BK535 := zA (hbox)
    have GW535 := zx hg
    have GE535 := zx hg
    replace HB := zf hb
    have NB527_535 := zl BK527 hg
    have NB535_527 := zg BK527 hg
    replace BK527 := zb BK527 hb
    have NB528_535 := zl BK528 hg
    have NB535_528 := zg BK528 hg
    replace BK528 := zb BK528 hb
    have NB534_535 := zl BK534 hg
    have NB535_534 := zg BK534 hg
    replace BK534 := zb BK534 hb
    clear hb hbox hg
    refine hK.out _ _ (za BK527 ⟨(blk_cell BK527.out 3).trans rfl, (blk_cell BK527.out 4).trans rfl, (blk_cell BK527.out 5).trans rfl⟩) (fun hHeld => ?_)
    clear hK K
    refine norm_ (a' := ?_) ?_ ?_
    rotate_left
    ·show Act.put _ (some 7) _ = _
     simp only [Act.put, List.setIfInBounds_toArray, List.set_cons_zero, List.set_cons_succ, i64_w, i32_w]
     rfl
    exact norm_ zm (hJ2_5_6_7 (gb534, gb535) _ ⟨hHeld, (zu BK527), (zu BK528), (zu BK534), (zu BK535), GW534.out, GE534.out, NB527_534.out, NB534_527.out, NB528_534.out, NB534_528.out, NB535_534.out, NB534_535.out, GW535.out, GE535.out, NB527_535.out, NB535_527.out, NB528_535.out, NB535_528.out, zs⟩)
   rintro ⟨gb534, gb535⟩ w22 ⟨hS_, h0_, h1_, h2_, h3_, h4_, h5_, h6_, h7_, h8_, h9_, h10_, h11_, h12_, h13_, h14_, h15_, h16_, h17_, h18_⟩
   have n0_ := zA h0_
   have n1_ := zA h1_
   have n2_ := zA h2_
   have n3_ := zA h3_
   have n4_ := zA h4_
   have n5_ := zA h5_
   have n6_ := zA h6_
   have n7_ := zA h7_
   have n8_ := zA h8_
   have n9_ := zA h9_
   have n10_ := zA h10_
   have n11_ := zA h11_
   have n12_ := zA h12_
   have n13_ := zA h13_
   have n14_ := zA h14_
   have n15_ := zA h15_
   have n16_ := zA h16_
   have n17_ := zA h17_
   have n18_ := zA h18_
   clear BK527
   clear BK528
   clear HB
   clear h0_ h1_ h2_ h3_ h4_ h5_ h6_ h7_ h8_ h9_ h10_ h11_ h12_ h13_ h14_ h15_ h16_ h17_ h18_
   have BK527 := n0_
   have BK528 := n1_
   have BK534 := n2_
   have BK535 := n3_
   have GW534 := n4_
   have GE534 := n5_
   have NB527_534 := n6_
   have NB534_527 := n7_
   have NB528_534 := n8_
   have NB534_528 := n9_
   have NB535_534 := n10_
   have NB534_535 := n11_
   have GW535 := n12_
   have GE535 := n13_
   have NB527_535 := n14_
   have NB535_527 := n15_
   have NB528_535 := n16_
   have NB535_528 := n17_
   have HB := n18_
   clear n0_ n1_ n2_ n3_ n4_ n5_ n6_ n7_ n8_ n9_ n10_ n11_ n12_ n13_ n14_ n15_ n16_ n17_ n18_
   have hHeld : z4 w22 gb527 (.bool a0_0) (.slice A0_1 l0_1.length c0_1) (.int .i64 a0_2) (w22.cell? ⟨gb527, 3, none⟩ = some (.bool a0_3) ∧ w22.cell? ⟨gb527, 4, none⟩ = some (.slice A0_4 l0_4.length c0_4) ∧ w22.cell? ⟨gb527, 5, none⟩ = some (.int .i64 a0_5)) := hS_
   refine norm_ (a' := ?_) ?_ ?_
   rotate_left
   ·simp only [putAll, Act.put, List.setIfInBounds_toArray, List.set_cons_zero, List.set_cons_succ]
    rfl
   refine one_ (i := 8) (N := none) #[true, true, true, true, true, true, true, true, true, false] rfl rfl (one_of HT_.out (by kernel_rfl)) (by decide) (fun K hK => ?_)
   have hs23 : w22.cell? ⟨gb534, 0, none⟩ = some (.int .u64 0) := (blk_cell BK534.out 0).trans rfl
   have hfs23 := blk_frozen BK534.out 0
   have hns23_0 := NB527_534.out
   have hns23_1 := NB528_534.out
   have hns23_3 := NB535_534.out
   have hms23_0 := NB534_527.out
   have hms23_1 := NB534_528.out
   have hms23_3 := NB534_535.out
   have hs24 : w22.cell? ⟨gb534, 1, none⟩ = some (.int .u8 0) := (blk_cell BK534.out 1).trans rfl
   have hfs24 := blk_frozen BK534.out 1
   have hns24_0 := NB527_534.out
   have hns24_1 := NB528_534.out
   have hns24_3 := NB535_534.out
   have hms24_0 := NB534_527.out
   have hms24_1 := NB534_528.out
   have hms24_3 := NB534_535.out
   refine skip_ (w1 := ?_) (by rfl) rfl ?_ ?_
   rotate_left
   ·go_simp
    rfl
   refine hK.out _ _ ⟨((cell_far (p := ⟨gb534, _, none⟩) NB527_534.out _).trans (((cell_far (p := ⟨gb534, _, none⟩) NB527_534.out _).trans (hHeld.1)))), ((cell_far (p := ⟨gb534, _, none⟩) NB527_534.out _).trans (((cell_far (p := ⟨gb534, _, none⟩) NB527_534.out _).trans (hHeld.2.1)))), ((cell_far (p := ⟨gb534, _, none⟩) NB527_534.out _).trans (((cell_far (p := ⟨gb534, _, none⟩) NB527_534.out _).trans (hHeld.2.2.1)))), ((cell_far (p := ⟨gb534, _, none⟩) NB527_534.out _).trans (((cell_far (p := ⟨gb534, _, none⟩) NB527_534.out _).trans (hHeld.2.2.2.1)))), ((cell_far (p := ⟨gb534, _, none⟩) NB527_534.out _).trans (((cell_far (p := ⟨gb534, _, none⟩) NB527_534.out _).trans (hHeld.2.2.2.2.1)))), ((cell_far (p := ⟨gb534, _, none⟩) NB527_534.out _).trans (((cell_far (p := ⟨gb534, _, none⟩) NB527_534.out _).trans (hHeld.2.2.2.2.2))))⟩ (fun hHeld => ?_)
   clear hK K
   refine one_ (i := 9) (N := none) #[true, true, true, true, true, true, true, true, true, true] rfl rfl (one_of HT_.out (by kernel_rfl)) (by decide) (fun K hK => ?_)
   have hs25 : w22.cell? ⟨gb535, 0, none⟩ = some (.int .u64 0) := (blk_cell BK535.out 0).trans rfl
   have hfs25 := blk_frozen BK535.out 0
   have hns25_0 := NB527_535.out
   have hns25_1 := NB528_535.out
   have hns25_2 := NB534_535.out
   have hms25_0 := NB535_527.out
   have hms25_1 := NB535_528.out
   have hms25_2 := NB535_534.out
   have hs26 : w22.cell? ⟨gb535, 1, none⟩ = some (.int .u8 0) := (blk_cell BK535.out 1).trans rfl
   have hfs26 := blk_frozen BK535.out 1
   have hns26_0 := NB527_535.out
   have hns26_1 := NB528_535.out
   have hns26_2 := NB534_535.out
   have hms26_0 := NB535_527.out
   have hms26_1 := NB535_528.out
   have hms26_2 := NB535_534.out
   refine skip_ (w1 := ?_) (by rfl) rfl ?_ ?_
   rotate_left
   ·go_simp
    rfl
   refine hK.out _ _ ⟨((cell_far (p := ⟨gb535, _, none⟩) NB527_535.out _).trans (((cell_far (p := ⟨gb535, _, none⟩) NB527_535.out _).trans (hHeld.1)))), ((cell_far (p := ⟨gb535, _, none⟩) NB527_535.out _).trans (((cell_far (p := ⟨gb535, _, none⟩) NB527_535.out _).trans (hHeld.2.1)))), ((cell_far (p := ⟨gb535, _, none⟩) NB527_535.out _).trans (((cell_far (p := ⟨gb535, _, none⟩) NB527_535.out _).trans (hHeld.2.2.1)))), ((cell_far (p := ⟨gb535, _, none⟩) NB527_535.out _).trans (((cell_far (p := ⟨gb535, _, none⟩) NB527_535.out _).trans (hHeld.2.2.2.1)))), ((cell_far (p := ⟨gb535, _, none⟩) NB527_535.out _).trans (((cell_far (p := ⟨gb535, _, none⟩) NB527_535.out _).trans (hHeld.2.2.2.2.1)))), ((cell_far (p := ⟨gb535, _, none⟩) NB527_535.out _).trans (((cell_far (p := ⟨gb535, _, none⟩) NB527_535.out _).trans (hHeld.2.2.2.2.2))))⟩ (fun hHeld => ?_)
   clear hK K
   refine done_ (done_of HT_.out (by kernel_rfl)) ?_
   try go_wp2
   have n0_ : Aside0 (((((w22.setCell ⟨gb534, 0, none⟩ (.int .u64 t530)).setCell ⟨gb534, 1, none⟩ (.int .u8 t531)).setCell ⟨gb535, 0, none⟩ (.int .u64 t532)).setCell ⟨gb535, 1, none⟩ (.int .u8 t533)).heap[gb527]? = some (.cells #[.bool a0_0, .slice A0_1 l0_1.length c0_1, .int .i64 a0_2, .bool a0_3, .slice A0_4 l0_4.length c0_4, .int .i64 a0_5] 49 (0, 0))) := ⟨by (with_reducible repeat (first | refine blk_drewN ?_ _ | refine blk_drew ?_ | refine blk_alloc ?_ _)); refine blk_far ?_ NB527_535.out _; refine blk_far ?_ NB527_535.out _; refine blk_far ?_ NB527_534.out _; refine blk_far ?_ NB527_534.out _; exact BK527.out⟩
   have n1_ : Aside0 (((((w22.setCell ⟨gb534, 0, none⟩ (.int .u64 t530)).setCell ⟨gb534, 1, none⟩ (.int .u8 t531)).setCell ⟨gb535, 0, none⟩ (.int .u64 t532)).setCell ⟨gb535, 1, none⟩ (.int .u8 t533)).heap[gb528]? = some (.cells #[.int .u64 x529000_2, .int .u8 x529001_2] 29 (0, 0))) := ⟨by (with_reducible repeat (first | refine blk_drewN ?_ _ | refine blk_drew ?_ | refine blk_alloc ?_ _)); refine blk_far ?_ NB528_535.out _; refine blk_far ?_ NB528_535.out _; refine blk_far ?_ NB528_534.out _; refine blk_far ?_ NB528_534.out _; exact BK528.out⟩
   have n2_ : Aside0 (((((w22.setCell ⟨gb534, 0, none⟩ (.int .u64 t530)).setCell ⟨gb534, 1, none⟩ (.int .u8 t531)).setCell ⟨gb535, 0, none⟩ (.int .u64 t532)).setCell ⟨gb535, 1, none⟩ (.int .u8 t533)).heap[gb534]? = some (.cells #[.int .u64 t530, .int .u8 t531] 29 (0, 0))) := ⟨by (with_reducible repeat (first | refine blk_drewN ?_ _ | refine blk_drew ?_ | refine blk_alloc ?_ _)); refine blk_far ?_ NB534_535.out _; refine blk_far ?_ NB534_535.out _; refine blk_put (cs := #[.int .u64 t530, .int .u8 0]) ?_ 1 _ rfl; refine blk_put (cs := #[.int .u64 0, .int .u8 0]) ?_ 0 _ rfl; exact BK534.out⟩
   have n3_ : Aside0 (((((w22.setCell ⟨gb534, 0, none⟩ (.int .u64 t530)).setCell ⟨gb534, 1, none⟩ (.int .u8 t531)).setCell ⟨gb535, 0, none⟩ (.int .u64 t532)).setCell ⟨gb535, 1, none⟩ (.int .u8 t533)).heap[gb535]? = some (.cells #[.int .u64 t532, .int .u8 t533] 29 (0, 0))) := ⟨by (with_reducible repeat (first | refine blk_drewN ?_ _ | refine blk_drew ?_ | refine blk_alloc ?_ _)); refine blk_put (cs := #[.int .u64 t532, .int .u8 0]) ?_ 1 _ rfl; refine blk_put (cs := #[.int .u64 0, .int .u8 0]) ?_ 0 _ rfl; refine blk_far ?_ NB535_534.out _; refine blk_far ?_ NB535_534.out _; exact BK535.out⟩
   have n4_ : Aside0 (Below w.heap.size w ((((w22.setCell ⟨gb534, 0, none⟩ (.int .u64 t530)).setCell ⟨gb534, 1, none⟩ (.int .u8 t531)).setCell ⟨gb535, 0, none⟩ (.int .u64 t532)).setCell ⟨gb535, 1, none⟩ (.int .u8 t533))) := ⟨zs⟩
   (try clear BK527)
   (try clear BK528)
   (try clear BK534)
   (try clear BK535)
   (try clear HB)
   generalize ((((w22.setCell ⟨gb534, 0, none⟩ (.int .u64 t530)).setCell ⟨gb534, 1, none⟩ (.int .u8 t531)).setCell ⟨gb535, 0, none⟩ (.int .u64 t532)).setCell ⟨gb535, 1, none⟩ (.int .u8 t533)) = w27 at n0_ n1_ n2_ n3_ n4_ ⊢
   have BK527 := n0_
   have BK528 := n1_
   have BK534 := n2_
   have BK535 := n3_
   have HB := n4_
   clear n0_ n1_ n2_ n3_ n4_
   replace BK527 := zA (blk_drew BK527.out)
   replace BK528 := zA (blk_drew BK528.out)
   replace BK534 := zA (blk_drew BK534.out)
   replace BK535 := zA (blk_drew BK535.out)
   replace HB := zA (below_drew1 HB.out)
   refine start_ (n := 10) (S := fun w' => z4 w' gb527 (.bool a0_0) (.slice A0_1 l0_1.length c0_1) (.int .i64 a0_2) (w'.cell? ⟨gb527, 3, none⟩ = some (.bool a0_3) ∧ w'.cell? ⟨gb527, 4, none⟩ = some (.slice A0_4 l0_4.length c0_4) ∧ w'.cell? ⟨gb527, 5, none⟩ = some (.int .i64 a0_5))) (ds := []) #[false, false, false, false, false, false, false, false, false, false] (by kernel_rfl) rfl rfl (za BK527 ⟨(blk_cell BK527.out 3).trans rfl, (blk_cell BK527.out 4).trans rfl, (blk_cell BK527.out 5).trans rfl⟩) (fun hHeld => ?_); refine with_tabW round_Decide.tab5 round_Decide.bits5 (fun HT_ HW_ => ?_)
   generalize w27.drew = w28 at BK527 BK528 BK534 BK535 HB hHeld ⊢
   refine pure_ (i := 0) (N := some 24) (v := ?_) (a' := ?_) #[true, false, false, false, false, false, false, false, false, false] rfl rfl (any_of HT_.out (by kernel_rfl)) (fun _ _ _ h => h) (Or.inl ⟨by rfl, ?_⟩) ?_ ?_
   rotate_left
   ·intro w'
    go_simp
    with_reducible rfl
   rotate_left
   ·exact zq
   refine pure_ (i := 3) (N := some 27) (v := ?_) (a' := ?_) #[true, false, false, true, false, false, false, false, false, false] rfl rfl (any_of HT_.out (by kernel_rfl)) (fun _ _ _ h => h) (Or.inl ⟨by rfl, ?_⟩) ?_ ?_
   rotate_left
   ·intro w'
    go_simp
    with_reducible rfl
   rotate_left
   ·exact zq
   refine take_ (i := 1) (N := some 25) (v := ?_) (a' := ?_) #[true, true, false, true, false, false, false, false, false, false] rfl rfl (take_ofW HT_.out HW_.out (by kernel_rfl)) (fun _ _ _ h => h) (Or.inl ⟨by rfl, ?_⟩) hHeld ?_ ?_
   rotate_left
   ·rintro w' ⟨s0, s1, s2, s3, s4, s5⟩
    go_simp
    with_reducible rfl
   rotate_left
   ·exact zq
   refine take_ (i := 4) (N := some 28) (v := ?_) (a' := ?_) #[true, true, false, true, true, false, false, false, false, false] rfl rfl (take_ofW HT_.out HW_.out (by kernel_rfl)) (fun _ _ _ h => h) (Or.inl ⟨by rfl, ?_⟩) hHeld ?_ ?_
   rotate_left
   ·rintro w' ⟨s0, s1, s2, s3, s4, s5⟩
    go_simp
    with_reducible rfl
   rotate_left
   ·exact zq
   refine join_ (σ := Value × Value × Nat × Nat) 2 #[true, true, true, true, true, true, true, true, false, false] (fun s_ => [(26, .agg #[s_.1, .int .i64 t539]), (29, .agg #[s_.2.1, .int .i64 t543]), (8, .pointer (some ⟨s_.2.2.1, 0, none⟩)), (9, .pointer (some ⟨s_.2.2.2, 0, none⟩))]) (fun s_ w' => (z4 w' gb527 (.bool a0_0) (.slice A0_1 l0_1.length c0_1) (.int .i64 a0_2) (w'.cell? ⟨gb527, 3, none⟩ = some (.bool a0_3) ∧ w'.cell? ⟨gb527, 4, none⟩ = some (.slice A0_4 l0_4.length c0_4) ∧ w'.cell? ⟨gb527, 5, none⟩ = some (.int .i64 a0_5))) ∧ (Kd.R (Kd.int .u64) 26 w' w.heap.size (fun k_ => some k_ ≠ (s_.2.1 : Value).ownBlock) s_.1 t536) ∧ (Kd.R (Kd.int .u64) 26 w' w.heap.size (fun k_ => some k_ ≠ (s_.1 : Value).ownBlock) s_.2.1 t540) ∧ (w'.heap[gb527]? = some (.cells #[.bool a0_0, .slice A0_1 l0_1.length c0_1, .int .i64 a0_2, .bool a0_3, .slice A0_4 l0_4.length c0_4, .int .i64 a0_5] 49 (0, 0))) ∧ (w'.heap[gb528]? = some (.cells #[.int .u64 x529000_2, .int .u8 x529001_2] 29 (0, 0))) ∧ (w'.heap[gb534]? = some (.cells #[.int .u64 t530, .int .u8 t531] 29 (0, 0))) ∧ (w'.heap[gb535]? = some (.cells #[.int .u64 t532, .int .u8 t533] 29 (0, 0))) ∧ (w'.heap[s_.2.2.1]? = some (.cells #[.slice none 0 0, .int .i64 0] 64 (0, 0))) ∧ (w'.heap[s_.2.2.2]? = some (.cells #[.slice none 0 0, .int .i64 0] 64 (0, 0))) ∧ (w.heap.size ≤ s_.2.2.1) ∧ (w.heap.size ≤ s_.2.2.1) ∧ (gb527 ≠ s_.2.2.1) ∧ (s_.2.2.1 ≠ gb527) ∧ (gb528 ≠ s_.2.2.1) ∧ (s_.2.2.1 ≠ gb528) ∧ (gb534 ≠ s_.2.2.1) ∧ (s_.2.2.1 ≠ gb534) ∧ (gb535 ≠ s_.2.2.1) ∧ (s_.2.2.1 ≠ gb535) ∧ (s_.2.2.2 ≠ s_.2.2.1) ∧ (s_.2.2.1 ≠ s_.2.2.2) ∧ (w.heap.size ≤ s_.2.2.2) ∧ (w.heap.size ≤ s_.2.2.2) ∧ (gb527 ≠ s_.2.2.2) ∧ (s_.2.2.2 ≠ gb527) ∧ (gb528 ≠ s_.2.2.2) ∧ (s_.2.2.2 ≠ gb528) ∧ (gb534 ≠ s_.2.2.2) ∧ (s_.2.2.2 ≠ gb534) ∧ (gb535 ≠ s_.2.2.2) ∧ (s_.2.2.2 ≠ gb535) ∧ (Below w.heap.size w w')) ?_ ?_
   rotate_left
   ·intro hJ2_5_6_7
    refine join_ (σ := Value × Value × Nat) 3 #[true, true, true, true, true, true, true, false, false, false] (fun s_ => [(26, .agg #[s_.1, .int .i64 t539]), (29, .agg #[s_.2.1, .int .i64 t543]), (8, .pointer (some ⟨s_.2.2, 0, none⟩))]) (fun s_ w' => (z4 w' gb527 (.bool a0_0) (.slice A0_1 l0_1.length c0_1) (.int .i64 a0_2) (w'.cell? ⟨gb527, 3, none⟩ = some (.bool a0_3) ∧ w'.cell? ⟨gb527, 4, none⟩ = some (.slice A0_4 l0_4.length c0_4) ∧ w'.cell? ⟨gb527, 5, none⟩ = some (.int .i64 a0_5))) ∧ (Kd.R (Kd.int .u64) 26 w' w.heap.size (fun k_ => some k_ ≠ (s_.2.1 : Value).ownBlock) s_.1 t536) ∧ (Kd.R (Kd.int .u64) 26 w' w.heap.size (fun k_ => some k_ ≠ (s_.1 : Value).ownBlock) s_.2.1 t540) ∧ (w'.heap[gb527]? = some (.cells #[.bool a0_0, .slice A0_1 l0_1.length c0_1, .int .i64 a0_2, .bool a0_3, .slice A0_4 l0_4.length c0_4, .int .i64 a0_5] 49 (0, 0))) ∧ (w'.heap[gb528]? = some (.cells #[.int .u64 x529000_2, .int .u8 x529001_2] 29 (0, 0))) ∧ (w'.heap[gb534]? = some (.cells #[.int .u64 t530, .int .u8 t531] 29 (0, 0))) ∧ (w'.heap[gb535]? = some (.cells #[.int .u64 t532, .int .u8 t533] 29 (0, 0))) ∧ (w'.heap[s_.2.2]? = some (.cells #[.slice none 0 0, .int .i64 0] 64 (0, 0))) ∧ (w.heap.size ≤ s_.2.2) ∧ (w.heap.size ≤ s_.2.2) ∧ (gb527 ≠ s_.2.2) ∧ (s_.2.2 ≠ gb527) ∧ (gb528 ≠ s_.2.2) ∧ (s_.2.2 ≠ gb528) ∧ (gb534 ≠ s_.2.2) ∧ (s_.2.2 ≠ gb534) ∧ (gb535 ≠ s_.2.2) ∧ (s_.2.2 ≠ gb535) ∧ (Below w.heap.size w w')) ?_ ?_
    rotate_left
    ·intro hJ2_5_6
     refine join_ (σ := Value × Value × Nat) 3 #[true, true, true, true, true, true, false, true, false, false] (fun s_ => [(26, .agg #[s_.1, .int .i64 t539]), (29, .agg #[s_.2.1, .int .i64 t543]), (9, .pointer (some ⟨s_.2.2, 0, none⟩))]) (fun s_ w' => (z4 w' gb527 (.bool a0_0) (.slice A0_1 l0_1.length c0_1) (.int .i64 a0_2) (w'.cell? ⟨gb527, 3, none⟩ = some (.bool a0_3) ∧ w'.cell? ⟨gb527, 4, none⟩ = some (.slice A0_4 l0_4.length c0_4) ∧ w'.cell? ⟨gb527, 5, none⟩ = some (.int .i64 a0_5))) ∧ (Kd.R (Kd.int .u64) 26 w' w.heap.size (fun k_ => some k_ ≠ (s_.2.1 : Value).ownBlock) s_.1 t536) ∧ (Kd.R (Kd.int .u64) 26 w' w.heap.size (fun k_ => some k_ ≠ (s_.1 : Value).ownBlock) s_.2.1 t540) ∧ (w'.heap[gb527]? = some (.cells #[.bool a0_0, .slice A0_1 l0_1.length c0_1, .int .i64 a0_2, .bool a0_3, .slice A0_4 l0_4.length c0_4, .int .i64 a0_5] 49 (0, 0))) ∧ (w'.heap[gb528]? = some (.cells #[.int .u64 x529000_2, .int .u8 x529001_2] 29 (0, 0))) ∧ (w'.heap[gb534]? = some (.cells #[.int .u64 t530, .int .u8 t531] 29 (0, 0))) ∧ (w'.heap[gb535]? = some (.cells #[.int .u64 t532, .int .u8 t533] 29 (0, 0))) ∧ (w'.heap[s_.2.2]? = some (.cells #[.slice none 0 0, .int .i64 0] 64 (0, 0))) ∧ (w.heap.size ≤ s_.2.2) ∧ (w.heap.size ≤ s_.2.2) ∧ (gb527 ≠ s_.2.2) ∧ (s_.2.2 ≠ gb527) ∧ (gb528 ≠ s_.2.2) ∧ (s_.2.2 ≠ gb528) ∧ (gb534 ≠ s_.2.2) ∧ (s_.2.2 ≠ gb534) ∧ (gb535 ≠ s_.2.2) ∧ (s_.2.2 ≠ gb535) ∧ (Below w.heap.size w w')) ?_ ?_
     rotate_left
     ·intro hJ2_5_7
      refine join_ (σ := Value × Nat × Nat) 3 #[true, true, true, true, true, false, true, true, false, false] (fun s_ => [(26, .agg #[s_.1, .int .i64 t539]), (8, .pointer (some ⟨s_.2.1, 0, none⟩)), (9, .pointer (some ⟨s_.2.2, 0, none⟩))]) (fun s_ w' => (z4 w' gb527 (.bool a0_0) (.slice A0_1 l0_1.length c0_1) (.int .i64 a0_2) (w'.cell? ⟨gb527, 3, none⟩ = some (.bool a0_3) ∧ w'.cell? ⟨gb527, 4, none⟩ = some (.slice A0_4 l0_4.length c0_4) ∧ w'.cell? ⟨gb527, 5, none⟩ = some (.int .i64 a0_5))) ∧ (Kd.R (Kd.int .u64) 26 w' w.heap.size (fun _ => True) s_.1 t536) ∧ (w'.heap[gb527]? = some (.cells #[.bool a0_0, .slice A0_1 l0_1.length c0_1, .int .i64 a0_2, .bool a0_3, .slice A0_4 l0_4.length c0_4, .int .i64 a0_5] 49 (0, 0))) ∧ (w'.heap[gb528]? = some (.cells #[.int .u64 x529000_2, .int .u8 x529001_2] 29 (0, 0))) ∧ (w'.heap[gb534]? = some (.cells #[.int .u64 t530, .int .u8 t531] 29 (0, 0))) ∧ (w'.heap[gb535]? = some (.cells #[.int .u64 t532, .int .u8 t533] 29 (0, 0))) ∧ (w'.heap[s_.2.1]? = some (.cells #[.slice none 0 0, .int .i64 0] 64 (0, 0))) ∧ (w'.heap[s_.2.2]? = some (.cells #[.slice none 0 0, .int .i64 0] 64 (0, 0))) ∧ (w.heap.size ≤ s_.2.1) ∧ (w.heap.size ≤ s_.2.1) ∧ (gb527 ≠ s_.2.1) ∧ (s_.2.1 ≠ gb527) ∧ (gb528 ≠ s_.2.1) ∧ (s_.2.1 ≠ gb528) ∧ (gb534 ≠ s_.2.1) ∧ (s_.2.1 ≠ gb534) ∧ (gb535 ≠ s_.2.1) ∧ (s_.2.1 ≠ gb535) ∧ (s_.2.2 ≠ s_.2.1) ∧ (s_.2.1 ≠ s_.2.2) ∧ (w.heap.size ≤ s_.2.2) ∧ (w.heap.size ≤ s_.2.2) ∧ (gb527 ≠ s_.2.2) ∧ (s_.2.2 ≠ gb527) ∧ (gb528 ≠ s_.2.2) ∧ (s_.2.2 ≠ gb528) ∧ (gb534 ≠ s_.2.2) ∧ (s_.2.2 ≠ gb534) ∧ (gb535 ≠ s_.2.2) ∧ (s_.2.2 ≠ gb535) ∧ (Below w.heap.size w w')) ?_ ?_
      rotate_left
      ·intro hJ2_6_7
       refine join_ (σ := Value × Value) 4 #[true, true, true, true, true, true, false, false, false, false] (fun s_ => [(26, .agg #[s_.1, .int .i64 t539]), (29, .agg #[s_.2, .int .i64 t543])]) (fun s_ w' => (z4 w' gb527 (.bool a0_0) (.slice A0_1 l0_1.length c0_1) (.int .i64 a0_2) (w'.cell? ⟨gb527, 3, none⟩ = some (.bool a0_3) ∧ w'.cell? ⟨gb527, 4, none⟩ = some (.slice A0_4 l0_4.length c0_4) ∧ w'.cell? ⟨gb527, 5, none⟩ = some (.int .i64 a0_5))) ∧ (Kd.R (Kd.int .u64) 26 w' w.heap.size (fun k_ => some k_ ≠ (s_.2 : Value).ownBlock) s_.1 t536) ∧ (Kd.R (Kd.int .u64) 26 w' w.heap.size (fun k_ => some k_ ≠ (s_.1 : Value).ownBlock) s_.2 t540) ∧ (w'.heap[gb527]? = some (.cells #[.bool a0_0, .slice A0_1 l0_1.length c0_1, .int .i64 a0_2, .bool a0_3, .slice A0_4 l0_4.length c0_4, .int .i64 a0_5] 49 (0, 0))) ∧ (w'.heap[gb528]? = some (.cells #[.int .u64 x529000_2, .int .u8 x529001_2] 29 (0, 0))) ∧ (w'.heap[gb534]? = some (.cells #[.int .u64 t530, .int .u8 t531] 29 (0, 0))) ∧ (w'.heap[gb535]? = some (.cells #[.int .u64 t532, .int .u8 t533] 29 (0, 0))) ∧ (Below w.heap.size w w')) ?_ ?_
       rotate_left
       ·intro hJ2_5
        refine join_ (σ := Value × Nat) 4 #[true, true, true, true, true, false, true, false, false, false] (fun s_ => [(26, .agg #[s_.1, .int .i64 t539]), (8, .pointer (some ⟨s_.2, 0, none⟩))]) (fun s_ w' => (z4 w' gb527 (.bool a0_0) (.slice A0_1 l0_1.length c0_1) (.int .i64 a0_2) (w'.cell? ⟨gb527, 3, none⟩ = some (.bool a0_3) ∧ w'.cell? ⟨gb527, 4, none⟩ = some (.slice A0_4 l0_4.length c0_4) ∧ w'.cell? ⟨gb527, 5, none⟩ = some (.int .i64 a0_5))) ∧ (Kd.R (Kd.int .u64) 26 w' w.heap.size (fun _ => True) s_.1 t536) ∧ (w'.heap[gb527]? = some (.cells #[.bool a0_0, .slice A0_1 l0_1.length c0_1, .int .i64 a0_2, .bool a0_3, .slice A0_4 l0_4.length c0_4, .int .i64 a0_5] 49 (0, 0))) ∧ (w'.heap[gb528]? = some (.cells #[.int .u64 x529000_2, .int .u8 x529001_2] 29 (0, 0))) ∧ (w'.heap[gb534]? = some (.cells #[.int .u64 t530, .int .u8 t531] 29 (0, 0))) ∧ (w'.heap[gb535]? = some (.cells #[.int .u64 t532, .int .u8 t533] 29 (0, 0))) ∧ (w'.heap[s_.2]? = some (.cells #[.slice none 0 0, .int .i64 0] 64 (0, 0))) ∧ (w.heap.size ≤ s_.2) ∧ (w.heap.size ≤ s_.2) ∧ (gb527 ≠ s_.2) ∧ (s_.2 ≠ gb527) ∧ (gb528 ≠ s_.2) ∧ (s_.2 ≠ gb528) ∧ (gb534 ≠ s_.2) ∧ (s_.2 ≠ gb534) ∧ (gb535 ≠ s_.2) ∧ (s_.2 ≠ gb535) ∧ (Below w.heap.size w w')) ?_ ?_
        rotate_left
        ·intro hJ2_6
         refine join_ (σ := Value × Nat) 4 #[true, true, true, true, true, false, false, true, false, false] (fun s_ => [(26, .agg #[s_.1, .int .i64 t539]), (9, .pointer (some ⟨s_.2, 0, none⟩))]) (fun s_ w' => (z4 w' gb527 (.bool a0_0) (.slice A0_1 l0_1.length c0_1) (.int .i64 a0_2) (w'.cell? ⟨gb527, 3, none⟩ = some (.bool a0_3) ∧ w'.cell? ⟨gb527, 4, none⟩ = some (.slice A0_4 l0_4.length c0_4) ∧ w'.cell? ⟨gb527, 5, none⟩ = some (.int .i64 a0_5))) ∧ (Kd.R (Kd.int .u64) 26 w' w.heap.size (fun _ => True) s_.1 t536) ∧ (w'.heap[gb527]? = some (.cells #[.bool a0_0, .slice A0_1 l0_1.length c0_1, .int .i64 a0_2, .bool a0_3, .slice A0_4 l0_4.length c0_4, .int .i64 a0_5] 49 (0, 0))) ∧ (w'.heap[gb528]? = some (.cells #[.int .u64 x529000_2, .int .u8 x529001_2] 29 (0, 0))) ∧ (w'.heap[gb534]? = some (.cells #[.int .u64 t530, .int .u8 t531] 29 (0, 0))) ∧ (w'.heap[gb535]? = some (.cells #[.int .u64 t532, .int .u8 t533] 29 (0, 0))) ∧ (w'.heap[s_.2]? = some (.cells #[.slice none 0 0, .int .i64 0] 64 (0, 0))) ∧ (w.heap.size ≤ s_.2) ∧ (w.heap.size ≤ s_.2) ∧ (gb527 ≠ s_.2) ∧ (s_.2 ≠ gb527) ∧ (gb528 ≠ s_.2) ∧ (s_.2 ≠ gb528) ∧ (gb534 ≠ s_.2) ∧ (s_.2 ≠ gb534) ∧ (gb535 ≠ s_.2) ∧ (s_.2 ≠ gb535) ∧ (Below w.heap.size w w')) ?_ ?_
         rotate_left
         ·intro hJ2_7
          refine join_ (σ := Nat × Nat) 4 #[true, true, false, true, true, false, true, true, false, false] (fun s_ => [(8, .pointer (some ⟨s_.1, 0, none⟩)), (9, .pointer (some ⟨s_.2, 0, none⟩))]) (fun s_ w' => (z4 w' gb527 (.bool a0_0) (.slice A0_1 l0_1.length c0_1) (.int .i64 a0_2) (w'.cell? ⟨gb527, 3, none⟩ = some (.bool a0_3) ∧ w'.cell? ⟨gb527, 4, none⟩ = some (.slice A0_4 l0_4.length c0_4) ∧ w'.cell? ⟨gb527, 5, none⟩ = some (.int .i64 a0_5))) ∧ (w'.heap[gb527]? = some (.cells #[.bool a0_0, .slice A0_1 l0_1.length c0_1, .int .i64 a0_2, .bool a0_3, .slice A0_4 l0_4.length c0_4, .int .i64 a0_5] 49 (0, 0))) ∧ (w'.heap[gb528]? = some (.cells #[.int .u64 x529000_2, .int .u8 x529001_2] 29 (0, 0))) ∧ (w'.heap[gb534]? = some (.cells #[.int .u64 t530, .int .u8 t531] 29 (0, 0))) ∧ (w'.heap[gb535]? = some (.cells #[.int .u64 t532, .int .u8 t533] 29 (0, 0))) ∧ (w'.heap[s_.1]? = some (.cells #[.slice none 0 0, .int .i64 0] 64 (0, 0))) ∧ (w'.heap[s_.2]? = some (.cells #[.slice none 0 0, .int .i64 0] 64 (0, 0))) ∧ (w.heap.size ≤ s_.1) ∧ (w.heap.size ≤ s_.1) ∧ (gb527 ≠ s_.1) ∧ (s_.1 ≠ gb527) ∧ (gb528 ≠ s_.1) ∧ (s_.1 ≠ gb528) ∧ (gb534 ≠ s_.1) ∧ (s_.1 ≠ gb534) ∧ (gb535 ≠ s_.1) ∧ (s_.1 ≠ gb535) ∧ (s_.2 ≠ s_.1) ∧ (s_.1 ≠ s_.2) ∧ (w.heap.size ≤ s_.2) ∧ (w.heap.size ≤ s_.2) ∧ (gb527 ≠ s_.2) ∧ (s_.2 ≠ gb527) ∧ (gb528 ≠ s_.2) ∧ (s_.2 ≠ gb528) ∧ (gb534 ≠ s_.2) ∧ (s_.2 ≠ gb534) ∧ (gb535 ≠ s_.2) ∧ (s_.2 ≠ gb535) ∧ (Below w.heap.size w w')) ?_ ?_
          rotate_left
          ·intro hJ6_7
           refine join_ (σ := Value) 5 #[true, true, true, true, true, false, false, false, false, false] (fun s_ => [(26, .agg #[s_, .int .i64 t539])]) (fun s_ w' => (z4 w' gb527 (.bool a0_0) (.slice A0_1 l0_1.length c0_1) (.int .i64 a0_2) (w'.cell? ⟨gb527, 3, none⟩ = some (.bool a0_3) ∧ w'.cell? ⟨gb527, 4, none⟩ = some (.slice A0_4 l0_4.length c0_4) ∧ w'.cell? ⟨gb527, 5, none⟩ = some (.int .i64 a0_5))) ∧ (Kd.R (Kd.int .u64) 26 w' w.heap.size (fun _ => True) s_ t536) ∧ (w'.heap[gb527]? = some (.cells #[.bool a0_0, .slice A0_1 l0_1.length c0_1, .int .i64 a0_2, .bool a0_3, .slice A0_4 l0_4.length c0_4, .int .i64 a0_5] 49 (0, 0))) ∧ (w'.heap[gb528]? = some (.cells #[.int .u64 x529000_2, .int .u8 x529001_2] 29 (0, 0))) ∧ (w'.heap[gb534]? = some (.cells #[.int .u64 t530, .int .u8 t531] 29 (0, 0))) ∧ (w'.heap[gb535]? = some (.cells #[.int .u64 t532, .int .u8 t533] 29 (0, 0))) ∧ (Below w.heap.size w w')) ?_ ?_
           rotate_left
           ·intro hJ2
            refine join_ (σ := Nat) 5 #[true, true, false, true, true, false, true, false, false, false] (fun s_ => [(8, .pointer (some ⟨s_, 0, none⟩))]) (fun s_ w' => (z4 w' gb527 (.bool a0_0) (.slice A0_1 l0_1.length c0_1) (.int .i64 a0_2) (w'.cell? ⟨gb527, 3, none⟩ = some (.bool a0_3) ∧ w'.cell? ⟨gb527, 4, none⟩ = some (.slice A0_4 l0_4.length c0_4) ∧ w'.cell? ⟨gb527, 5, none⟩ = some (.int .i64 a0_5))) ∧ (w'.heap[gb527]? = some (.cells #[.bool a0_0, .slice A0_1 l0_1.length c0_1, .int .i64 a0_2, .bool a0_3, .slice A0_4 l0_4.length c0_4, .int .i64 a0_5] 49 (0, 0))) ∧ (w'.heap[gb528]? = some (.cells #[.int .u64 x529000_2, .int .u8 x529001_2] 29 (0, 0))) ∧ (w'.heap[gb534]? = some (.cells #[.int .u64 t530, .int .u8 t531] 29 (0, 0))) ∧ (w'.heap[gb535]? = some (.cells #[.int .u64 t532, .int .u8 t533] 29 (0, 0))) ∧ (w'.heap[s_]? = some (.cells #[.slice none 0 0, .int .i64 0] 64 (0, 0))) ∧ (w.heap.size ≤ s_) ∧ (w.heap.size ≤ s_) ∧ (gb527 ≠ s_) ∧ (s_ ≠ gb527) ∧ (gb528 ≠ s_) ∧ (s_ ≠ gb528) ∧ (gb534 ≠ s_) ∧ (s_ ≠ gb534) ∧ (gb535 ≠ s_) ∧ (s_ ≠ gb535) ∧ (Below w.heap.size w w')) ?_ ?_
            rotate_left
            ·intro hJ6
             refine join_ (σ := Nat) 5 #[true, true, false, true, true, false, false, true, false, false] (fun s_ => [(9, .pointer (some ⟨s_, 0, none⟩))]) (fun s_ w' => (z4 w' gb527 (.bool a0_0) (.slice A0_1 l0_1.length c0_1) (.int .i64 a0_2) (w'.cell? ⟨gb527, 3, none⟩ = some (.bool a0_3) ∧ w'.cell? ⟨gb527, 4, none⟩ = some (.slice A0_4 l0_4.length c0_4) ∧ w'.cell? ⟨gb527, 5, none⟩ = some (.int .i64 a0_5))) ∧ (w'.heap[gb527]? = some (.cells #[.bool a0_0, .slice A0_1 l0_1.length c0_1, .int .i64 a0_2, .bool a0_3, .slice A0_4 l0_4.length c0_4, .int .i64 a0_5] 49 (0, 0))) ∧ (w'.heap[gb528]? = some (.cells #[.int .u64 x529000_2, .int .u8 x529001_2] 29 (0, 0))) ∧ (w'.heap[gb534]? = some (.cells #[.int .u64 t530, .int .u8 t531] 29 (0, 0))) ∧ (w'.heap[gb535]? = some (.cells #[.int .u64 t532, .int .u8 t533] 29 (0, 0))) ∧ (w'.heap[s_]? = some (.cells #[.slice none 0 0, .int .i64 0] 64 (0, 0))) ∧ (w.heap.size ≤ s_) ∧ (w.heap.size ≤ s_) ∧ (gb527 ≠ s_) ∧ (s_ ≠ gb527) ∧ (gb528 ≠ s_) ∧ (s_ ≠ gb528) ∧ (gb534 ≠ s_) ∧ (s_ ≠ gb534) ∧ (gb535 ≠ s_) ∧ (s_ ≠ gb535) ∧ (Below w.heap.size w w')) ?_ ?_
             rotate_left
             ·intro hJ7
              refine three_ (i := 2) (j := 6) (k := 7) (Ni := some 26) (Nj := some 8) (Nk := some 9) #[true, true, true, true, true, false, false, false, false, false] #[true, true, false, true, true, false, true, false, false, false] #[true, true, false, true, true, false, false, true, false, false] rfl rfl rfl rfl rfl rfl (three_of HT_.out (by kernel_rfl)) (by decide) (by decide) (by decide) (fun K hK => ?_) (fun K hK => ?_) (fun K hK => ?_)
              ·skip
               refine goes_ Tryd.func35 (by kernel_rfl) rfl #[.agg #[.bool a0_0, .slice A0_1 l0_1.length c0_1, .int .i64 a0_2]] (by rfl) rfl rfl ga ?_
               with_reducible refine (round_of.calls kj2 a0_0 _ _ l0_1 a0_2 t536 t539 _ ?side1 ?side2 A14.out).mono ?_
               (case side1 => exact zk (C_below HR0_1.out HB.out))
               (case side2 => exact HC0_1.out)
               rintro e w29 ⟨v537, rfl, ho0, hb⟩
               refine ⟨_, rfl, ?_⟩
               have HO538 := zA (R_lower ho0 (below_size zs))
               replace BK527 := zb BK527 hb
               replace BK528 := zb BK528 hb
               replace BK534 := zb BK534 hb
               replace BK535 := zb BK535 hb
               replace HB := zf hb
               (try clear hb)
               (try clear hb2)
               (try clear hk)
               (try clear hi)
               (try clear ho0)
               refine hK.out _ _ (za BK527 ⟨(blk_cell BK527.out 3).trans rfl, (blk_cell BK527.out 4).trans rfl, (blk_cell BK527.out 5).trans rfl⟩) (fun hHeld => ?_)
               clear hK K
               refine norm_ (a' := ?_) ?_ ?_
               rotate_left
               ·show Act.put _ (some 26) _ = _
                simp only [Act.put, List.setIfInBounds_toArray, List.set_cons_zero, List.set_cons_succ, i64_w, i32_w]
                rfl
               exact norm_ zm (hJ2 (v537) _ ⟨hHeld, (ru HO538.out), (zu BK527), (zu BK528), (zu BK534), (zu BK535), zs⟩)
              ·skip
               refine box_step ?hg (N := 8) ?hd (cs := #[.slice none 0 0, .int .i64 0]) (t := 64) ?hr ?_; (case hd => rfl); (case hg => rfl); (case hr => first | (go_simp; done) | (go_simp; rfl))
               intro gb544 hg w29 hbox hb
               have BK544 := zA (hbox)
               have GW544 := zx hg
               have GE544 := zx hg
               replace HB := zf hb
               have NB527_544 := zl BK527 hg
               have NB544_527 := zg BK527 hg
               replace BK527 := zb BK527 hb
               have NB528_544 := zl BK528 hg
               have NB544_528 := zg BK528 hg
               replace BK528 := zb BK528 hb
               have NB534_544 := zl BK534 hg
               have NB544_534 := zg BK534 hg
               replace BK534 := zb BK534 hb
               have NB535_544 := zl BK535 hg
               have NB544_535 := zg BK535 hg
               replace BK535 := zb BK535 hb
               clear hb hbox hg
               refine hK.out _ _ (za BK527 ⟨(blk_cell BK527.out 3).trans rfl, (blk_cell BK527.out 4).trans rfl, (blk_cell BK527.out 5).trans rfl⟩) (fun hHeld => ?_)
               clear hK K
               refine norm_ (a' := ?_) ?_ ?_
               rotate_left
               ·show Act.put _ (some 8) _ = _
                simp only [Act.put, List.setIfInBounds_toArray, List.set_cons_zero, List.set_cons_succ, i64_w, i32_w]
                rfl
               exact norm_ zm (hJ6 (gb544) _ ⟨hHeld, (zu BK527), (zu BK528), (zu BK534), (zu BK535), (zu BK544), GW544.out, GE544.out, NB527_544.out, NB544_527.out, NB528_544.out, NB544_528.out, NB534_544.out, NB544_534.out, NB535_544.out, NB544_535.out, zs⟩)
              skip
              refine box_step ?hg (N := 9) ?hd (cs := #[.slice none 0 0, .int .i64 0]) (t := 64) ?hr ?_; (case hd => rfl); (case hg => rfl); (case hr => first | (go_simp; done) | (go_simp; rfl))
              intro gb545 hg w29 hbox hb
              have BK545 := zA (hbox)
              have GW545 := zx hg
              have GE545 := zx hg
              replace HB := zf hb
              have NB527_545 := zl BK527 hg
              have NB545_527 := zg BK527 hg
              replace BK527 := zb BK527 hb
              have NB528_545 := zl BK528 hg
              have NB545_528 := zg BK528 hg
              replace BK528 := zb BK528 hb
              have NB534_545 := zl BK534 hg
              have NB545_534 := zg BK534 hg
              replace BK534 := zb BK534 hb
              have NB535_545 := zl BK535 hg
              have NB545_535 := zg BK535 hg
              replace BK535 := zb BK535 hb
              clear hb hbox hg
              refine hK.out _ _ (za BK527 ⟨(blk_cell BK527.out 3).trans rfl, (blk_cell BK527.out 4).trans rfl, (blk_cell BK527.out 5).trans rfl⟩) (fun hHeld => ?_)
              clear hK K
              refine norm_ (a' := ?_) ?_ ?_
              rotate_left
              ·show Act.put _ (some 9) _ = _
               simp only [Act.put, List.setIfInBounds_toArray, List.set_cons_zero, List.set_cons_succ, i64_w, i32_w]
               rfl
              exact norm_ zm (hJ7 (gb545) _ ⟨hHeld, (zu BK527), (zu BK528), (zu BK534), (zu BK535), (zu BK545), GW545.out, GE545.out, NB527_545.out, NB545_527.out, NB528_545.out, NB545_528.out, NB534_545.out, NB545_534.out, NB535_545.out, NB545_535.out, zs⟩)
             skip
             rintro gb545 w30 ⟨hS_, h0_, h1_, h2_, h3_, h4_, h5_, h6_, h7_, h8_, h9_, h10_, h11_, h12_, h13_, h14_, h15_⟩
             have n0_ := zA h0_
             have n1_ := zA h1_
             have n2_ := zA h2_
             have n3_ := zA h3_
             have n4_ := zA h4_
             have n5_ := zA h5_
             have n6_ := zA h6_
             have n7_ := zA h7_
             have n8_ := zA h8_
             have n9_ := zA h9_
             have n10_ := zA h10_
             have n11_ := zA h11_
             have n12_ := zA h12_
             have n13_ := zA h13_
             have n14_ := zA h14_
             have n15_ := zA h15_
             clear BK527
             clear BK528
             clear BK534
             clear BK535
             clear HB
             clear h0_ h1_ h2_ h3_ h4_ h5_ h6_ h7_ h8_ h9_ h10_ h11_ h12_ h13_ h14_ h15_
             have BK527 := n0_
             have BK528 := n1_
             have BK534 := n2_
             have BK535 := n3_
             have BK545 := n4_
             have GW545 := n5_
             have GE545 := n6_
             have NB527_545 := n7_
             have NB545_527 := n8_
             have NB528_545 := n9_
             have NB545_528 := n10_
             have NB534_545 := n11_
             have NB545_534 := n12_
             have NB535_545 := n13_
             have NB545_535 := n14_
             have HB := n15_
             clear n0_ n1_ n2_ n3_ n4_ n5_ n6_ n7_ n8_ n9_ n10_ n11_ n12_ n13_ n14_ n15_
             have hHeld : z4 w30 gb527 (.bool a0_0) (.slice A0_1 l0_1.length c0_1) (.int .i64 a0_2) (w30.cell? ⟨gb527, 3, none⟩ = some (.bool a0_3) ∧ w30.cell? ⟨gb527, 4, none⟩ = some (.slice A0_4 l0_4.length c0_4) ∧ w30.cell? ⟨gb527, 5, none⟩ = some (.int .i64 a0_5)) := hS_
             refine norm_ (a' := ?_) ?_ ?_
             rotate_left
             ·simp only [putAll, Act.put, List.setIfInBounds_toArray, List.set_cons_zero, List.set_cons_succ]
              rfl
             refine two_ (i := 2) (j := 6) (Ni := some 26) (Nj := some 8) #[true, true, true, true, true, false, false, true, false, false] #[true, true, false, true, true, false, true, true, false, false] rfl rfl rfl rfl (two_of HT_.out (by kernel_rfl)) (by decide) (by decide) (fun K hK => ?_) (fun K hK => ?_)
             ·skip
              refine goes_ Tryd.func35 (by kernel_rfl) rfl #[.agg #[.bool a0_0, .slice A0_1 l0_1.length c0_1, .int .i64 a0_2]] (by rfl) rfl rfl ga ?_
              with_reducible refine (round_of.calls kj2 a0_0 _ _ l0_1 a0_2 t536 t539 _ ?side1 ?side2 A14.out).mono ?_
              (case side1 => exact zk (C_below HR0_1.out HB.out))
              (case side2 => exact HC0_1.out)
              rintro e w31 ⟨v537, rfl, ho0, hb⟩
              refine ⟨_, rfl, ?_⟩
              have HO538 := zA (R_lower ho0 (below_size zs))
              replace BK527 := zb BK527 hb
              replace BK528 := zb BK528 hb
              replace BK534 := zb BK534 hb
              replace BK535 := zb BK535 hb
              replace BK545 := zb BK545 hb
              replace HB := zf hb
              (try clear hb)
              (try clear hb2)
              (try clear hk)
              (try clear hi)
              (try clear ho0)
              refine hK.out _ _ (za BK527 ⟨(blk_cell BK527.out 3).trans rfl, (blk_cell BK527.out 4).trans rfl, (blk_cell BK527.out 5).trans rfl⟩) (fun hHeld => ?_)
              clear hK K
              refine norm_ (a' := ?_) ?_ ?_
              rotate_left
              ·show Act.put _ (some 26) _ = _
               simp only [Act.put, List.setIfInBounds_toArray, List.set_cons_zero, List.set_cons_succ, i64_w, i32_w]
               rfl
              exact norm_ zm (hJ2_7 (v537, gb545) _ ⟨hHeld, (ru HO538.out), (zu BK527), (zu BK528), (zu BK534), (zu BK535), (zu BK545), GW545.out, GE545.out, NB527_545.out, NB545_527.out, NB528_545.out, NB545_528.out, NB534_545.out, NB545_534.out, NB535_545.out, NB545_535.out, zs⟩)
             skip
             refine box_step ?hg (N := 8) ?hd (cs := #[.slice none 0 0, .int .i64 0]) (t := 64) ?hr ?_; (case hd => rfl); (case hg => rfl); (case hr => first | (go_simp; done) | (go_simp; rfl))
             intro gb544 hg w31 hbox hb
             have BK544 := zA (hbox)
             have GW544 := zx hg
             have GE544 := zx hg
             replace HB := zf hb
             have NB527_544 := zl BK527 hg
             have NB544_527 := zg BK527 hg
             replace BK527 := zb BK527 hb
             have NB528_544 := zl BK528 hg
             have NB544_528 := zg BK528 hg
             replace BK528 := zb BK528 hb
             have NB534_544 := zl BK534 hg
             have NB544_534 := zg BK534 hg
             replace BK534 := zb BK534 hb
             have NB535_544 := zl BK535 hg
             have NB544_535 := zg BK535 hg
             replace BK535 := zb BK535 hb
             have NB545_544 := zl BK545 hg
             have NB544_545 := zg BK545 hg
             replace BK545 := zb BK545 hb
             clear hb hbox hg
             refine hK.out _ _ (za BK527 ⟨(blk_cell BK527.out 3).trans rfl, (blk_cell BK527.out 4).trans rfl, (blk_cell BK527.out 5).trans rfl⟩) (fun hHeld => ?_)
             clear hK K
             refine norm_ (a' := ?_) ?_ ?_
             rotate_left
             ·show Act.put _ (some 8) _ = _
              simp only [Act.put, List.setIfInBounds_toArray, List.set_cons_zero, List.set_cons_succ, i64_w, i32_w]
              rfl
             exact norm_ zm (hJ6_7 (gb544, gb545) _ ⟨hHeld, (zu BK527), (zu BK528), (zu BK534), (zu BK535), (zu BK544), (zu BK545), GW544.out, GE544.out, NB527_544.out, NB544_527.out, NB528_544.out, NB544_528.out, NB534_544.out, NB544_534.out, NB535_544.out, NB544_535.out, NB545_544.out, NB544_545.out, GW545.out, GE545.out, NB527_545.out, NB545_527.out, NB528_545.out, NB545_528.out, NB534_545.out, NB545_534.out, NB535_545.out, NB545_535.out, zs⟩)
            skip
            rintro gb544 w30 ⟨hS_, h0_, h1_, h2_, h3_, h4_, h5_, h6_, h7_, h8_, h9_, h10_, h11_, h12_, h13_, h14_, h15_⟩
            have n0_ := zA h0_
            have n1_ := zA h1_
            have n2_ := zA h2_
            have n3_ := zA h3_
            have n4_ := zA h4_
            have n5_ := zA h5_
            have n6_ := zA h6_
            have n7_ := zA h7_
            have n8_ := zA h8_
            have n9_ := zA h9_
            have n10_ := zA h10_
            have n11_ := zA h11_
            have n12_ := zA h12_
            have n13_ := zA h13_
            have n14_ := zA h14_
            have n15_ := zA h15_
            clear BK527
            clear BK528
            clear BK534
            clear BK535
            clear HB
            clear h0_ h1_ h2_ h3_ h4_ h5_ h6_ h7_ h8_ h9_ h10_ h11_ h12_ h13_ h14_ h15_
            have BK527 := n0_
            have BK528 := n1_
            have BK534 := n2_
            have BK535 := n3_
            have BK544 := n4_
            have GW544 := n5_
            have GE544 := n6_
            have NB527_544 := n7_
            have NB544_527 := n8_
            have NB528_544 := n9_
            have NB544_528 := n10_
            have NB534_544 := n11_
            have NB544_534 := n12_
            have NB535_544 := n13_
            have NB544_535 := n14_
            have HB := n15_
            clear n0_ n1_ n2_ n3_ n4_ n5_ n6_ n7_ n8_ n9_ n10_ n11_ n12_ n13_ n14_ n15_
            have hHeld : z4 w30 gb527 (.bool a0_0) (.slice A0_1 l0_1.length c0_1) (.int .i64 a0_2) (w30.cell? ⟨gb527, 3, none⟩ = some (.bool a0_3) ∧ w30.cell? ⟨gb527, 4, none⟩ = some (.slice A0_4 l0_4.length c0_4) ∧ w30.cell? ⟨gb527, 5, none⟩ = some (.int .i64 a0_5)) := hS_
            refine norm_ (a' := ?_) ?_ ?_
            rotate_left
            ·simp only [putAll, Act.put, List.setIfInBounds_toArray, List.set_cons_zero, List.set_cons_succ]
             rfl
            refine two_ (i := 2) (j := 7) (Ni := some 26) (Nj := some 9) #[true, true, true, true, true, false, true, false, false, false] #[true, true, false, true, true, false, true, true, false, false] rfl rfl rfl rfl (two_of HT_.out (by kernel_rfl)) (by decide) (by decide) (fun K hK => ?_) (fun K hK => ?_)
            ·skip
             refine goes_ Tryd.func35 (by kernel_rfl) rfl #[.agg #[.bool a0_0, .slice A0_1 l0_1.length c0_1, .int .i64 a0_2]] (by rfl) rfl rfl ga ?_
             with_reducible refine (round_of.calls kj2 a0_0 _ _ l0_1 a0_2 t536 t539 _ ?side1 ?side2 A14.out).mono ?_
             (case side1 => exact zk (C_below HR0_1.out HB.out))
             (case side2 => exact HC0_1.out)
             rintro e w31 ⟨v537, rfl, ho0, hb⟩
             refine ⟨_, rfl, ?_⟩
             have HO538 := zA (R_lower ho0 (below_size zs))
             replace BK527 := zb BK527 hb
             replace BK528 := zb BK528 hb
             replace BK534 := zb BK534 hb
             replace BK535 := zb BK535 hb
             replace BK544 := zb BK544 hb
             replace HB := zf hb
             (try clear hb)
             (try clear hb2)
             (try clear hk)
             (try clear hi)
             (try clear ho0)
             refine hK.out _ _ (za BK527 ⟨(blk_cell BK527.out 3).trans rfl, (blk_cell BK527.out 4).trans rfl, (blk_cell BK527.out 5).trans rfl⟩) (fun hHeld => ?_)
             clear hK K
             refine norm_ (a' := ?_) ?_ ?_
             rotate_left
             ·show Act.put _ (some 26) _ = _
              simp only [Act.put, List.setIfInBounds_toArray, List.set_cons_zero, List.set_cons_succ, i64_w, i32_w]
              rfl
             exact norm_ zm (hJ2_6 (v537, gb544) _ ⟨hHeld, (ru HO538.out), (zu BK527), (zu BK528), (zu BK534), (zu BK535), (zu BK544), GW544.out, GE544.out, NB527_544.out, NB544_527.out, NB528_544.out, NB544_528.out, NB534_544.out, NB544_534.out, NB535_544.out, NB544_535.out, zs⟩)
            skip
            refine box_step ?hg (N := 9) ?hd (cs := #[.slice none 0 0, .int .i64 0]) (t := 64) ?hr ?_; (case hd => rfl); (case hg => rfl); (case hr => first | (go_simp; done) | (go_simp; rfl))
            intro gb545 hg w31 hbox hb
            have BK545 := zA (hbox)
            have GW545 := zx hg
            have GE545 := zx hg
            replace HB := zf hb
            have NB527_545 := zl BK527 hg
            have NB545_527 := zg BK527 hg
            replace BK527 := zb BK527 hb
            have NB528_545 := zl BK528 hg
            have NB545_528 := zg BK528 hg
            replace BK528 := zb BK528 hb
            have NB534_545 := zl BK534 hg
            have NB545_534 := zg BK534 hg
            replace BK534 := zb BK534 hb
            have NB535_545 := zl BK535 hg
            have NB545_535 := zg BK535 hg
            replace BK535 := zb BK535 hb
            have NB544_545 := zl BK544 hg
            have NB545_544 := zg BK544 hg
            replace BK544 := zb BK544 hb
            clear hb hbox hg
            refine hK.out _ _ (za BK527 ⟨(blk_cell BK527.out 3).trans rfl, (blk_cell BK527.out 4).trans rfl, (blk_cell BK527.out 5).trans rfl⟩) (fun hHeld => ?_)
            clear hK K
            refine norm_ (a' := ?_) ?_ ?_
            rotate_left
            ·show Act.put _ (some 9) _ = _
             simp only [Act.put, List.setIfInBounds_toArray, List.set_cons_zero, List.set_cons_succ, i64_w, i32_w]
             rfl
            exact norm_ zm (hJ6_7 (gb544, gb545) _ ⟨hHeld, (zu BK527), (zu BK528), (zu BK534), (zu BK535), (zu BK544), (zu BK545), GW544.out, GE544.out, NB527_544.out, NB544_527.out, NB528_544.out, NB544_528.out, NB534_544.out, NB544_534.out, NB535_544.out, NB544_535.out, NB545_544.out, NB544_545.out, GW545.out, GE545.out, NB527_545.out, NB545_527.out, NB528_545.out, NB545_528.out, NB534_545.out, NB545_534.out, NB535_545.out, NB545_535.out, zs⟩)
           skip
           rintro v537 w30 ⟨hS_, h0_, h1_, h2_, h3_, h4_, h5_⟩
           have n0_ := zA h0_
           have n1_ := zA h1_
           have n2_ := zA h2_
           have n3_ := zA h3_
           have n4_ := zA h4_
           have n5_ := zA h5_
           clear BK527
           clear BK528
           clear BK534
           clear BK535
           clear HB
           clear h0_ h1_ h2_ h3_ h4_ h5_
           have HO538 := n0_
           have BK527 := n1_
           have BK528 := n2_
           have BK534 := n3_
           have BK535 := n4_
           have HB := n5_
           clear n0_ n1_ n2_ n3_ n4_ n5_
           have hHeld : z4 w30 gb527 (.bool a0_0) (.slice A0_1 l0_1.length c0_1) (.int .i64 a0_2) (w30.cell? ⟨gb527, 3, none⟩ = some (.bool a0_3) ∧ w30.cell? ⟨gb527, 4, none⟩ = some (.slice A0_4 l0_4.length c0_4) ∧ w30.cell? ⟨gb527, 5, none⟩ = some (.int .i64 a0_5)) := hS_
           refine norm_ (a' := ?_) ?_ ?_
           rotate_left
           ·simp only [putAll, Act.put, List.setIfInBounds_toArray, List.set_cons_zero, List.set_cons_succ]
            rfl
           refine three_ (i := 5) (j := 6) (k := 7) (Ni := some 29) (Nj := some 8) (Nk := some 9) #[true, true, true, true, true, true, false, false, false, false] #[true, true, true, true, true, false, true, false, false, false] #[true, true, true, true, true, false, false, true, false, false] rfl rfl rfl rfl rfl rfl (three_of HT_.out (by kernel_rfl)) (by decide) (by decide) (by decide) (fun K hK => ?_) (fun K hK => ?_) (fun K hK => ?_)
           ·skip
            refine goes_ Tryd.func35 (by kernel_rfl) rfl #[.agg #[.bool a0_3, .slice A0_4 l0_4.length c0_4, .int .i64 a0_5]] (by rfl) rfl rfl ga ?_
            with_reducible refine (round_of.calls kj2 a0_3 _ _ l0_4 a0_5 t540 t543 _ ?side1 ?side2 A15.out).mono ?_
            (case side1 => exact zk (C_below HR0_4.out HB.out))
            (case side2 => exact HC0_4.out)
            rintro e w31 ⟨v541, rfl, ho0, hb⟩
            refine ⟨_, rfl, ?_⟩
            have HO542 := zA (R_lower (R_new' ho0 (R_lt (ru HO538.out))) (below_size zs))
            replace HO538 := zA (R_elder' (ru HO538.out) (R_base ho0) hb)
            replace BK527 := zb BK527 hb
            replace BK528 := zb BK528 hb
            replace BK534 := zb BK534 hb
            replace BK535 := zb BK535 hb
            replace HB := zf hb
            (try clear hb)
            (try clear hb2)
            (try clear hk)
            (try clear hi)
            (try clear ho0)
            refine hK.out _ _ (za BK527 ⟨(blk_cell BK527.out 3).trans rfl, (blk_cell BK527.out 4).trans rfl, (blk_cell BK527.out 5).trans rfl⟩) (fun hHeld => ?_)
            clear hK K
            refine norm_ (a' := ?_) ?_ ?_
            rotate_left
            ·show Act.put _ (some 29) _ = _
             simp only [Act.put, List.setIfInBounds_toArray, List.set_cons_zero, List.set_cons_succ, i64_w, i32_w]
             rfl
            exact norm_ zm (hJ2_5 (v537, v541) _ ⟨hHeld, (ru (R_mono HO538.out (fun _ hk => hk.2))), (ru (R_mono HO542.out (fun _ hk => hk.2))), (zu BK527), (zu BK528), (zu BK534), (zu BK535), zs⟩)
           ·skip
            refine box_step ?hg (N := 8) ?hd (cs := #[.slice none 0 0, .int .i64 0]) (t := 64) ?hr ?_; (case hd => rfl); (case hg => rfl); (case hr => first | (go_simp; done) | (go_simp; rfl))
            intro gb544 hg w31 hbox hb
            replace HO538 := zA (R_below (ru HO538.out) hb)
            have BK544 := zA (hbox)
            have GW544 := zx hg
            have GE544 := zx hg
            replace HB := zf hb
            have NB527_544 := zl BK527 hg
            have NB544_527 := zg BK527 hg
            replace BK527 := zb BK527 hb
            have NB528_544 := zl BK528 hg
            have NB544_528 := zg BK528 hg
            replace BK528 := zb BK528 hb
            have NB534_544 := zl BK534 hg
            have NB544_534 := zg BK534 hg
            replace BK534 := zb BK534 hb
            have NB535_544 := zl BK535 hg
            have NB544_535 := zg BK535 hg
            replace BK535 := zb BK535 hb
            clear hb hbox hg
            refine hK.out _ _ (za BK527 ⟨(blk_cell BK527.out 3).trans rfl, (blk_cell BK527.out 4).trans rfl, (blk_cell BK527.out 5).trans rfl⟩) (fun hHeld => ?_)
            clear hK K
            refine norm_ (a' := ?_) ?_ ?_
            rotate_left
            ·show Act.put _ (some 8) _ = _
             simp only [Act.put, List.setIfInBounds_toArray, List.set_cons_zero, List.set_cons_succ, i64_w, i32_w]
             rfl
            exact norm_ zm (hJ2_6 (v537, gb544) _ ⟨hHeld, (ru HO538.out), (zu BK527), (zu BK528), (zu BK534), (zu BK535), (zu BK544), GW544.out, GE544.out, NB527_544.out, NB544_527.out, NB528_544.out, NB544_528.out, NB534_544.out, NB544_534.out, NB535_544.out, NB544_535.out, zs⟩)
           skip
           refine box_step ?hg (N := 9) ?hd (cs := #[.slice none 0 0, .int .i64 0]) (t := 64) ?hr ?_; (case hd => rfl); (case hg => rfl); (case hr => first | (go_simp; done) | (go_simp; rfl))
           intro gb545 hg w31 hbox hb
           replace HO538 := zA (R_below (ru HO538.out) hb)
           have BK545 := zA (hbox)
           have GW545 := zx hg
           have GE545 := zx hg
           replace HB := zf hb
           have NB527_545 := zl BK527 hg
           have NB545_527 := zg BK527 hg
           replace BK527 := zb BK527 hb
           have NB528_545 := zl BK528 hg
           have NB545_528 := zg BK528 hg
           replace BK528 := zb BK528 hb
           have NB534_545 := zl BK534 hg
           have NB545_534 := zg BK534 hg
           replace BK534 := zb BK534 hb
           have NB535_545 := zl BK535 hg
           have NB545_535 := zg BK535 hg
           replace BK535 := zb BK535 hb
           clear hb hbox hg
           refine hK.out _ _ (za BK527 ⟨(blk_cell BK527.out 3).trans rfl, (blk_cell BK527.out 4).trans rfl, (blk_cell BK527.out 5).trans rfl⟩) (fun hHeld => ?_)
           clear hK K
           refine norm_ (a' := ?_) ?_ ?_
           rotate_left
           ·show Act.put _ (some 9) _ = _
            simp only [Act.put, List.setIfInBounds_toArray, List.set_cons_zero, List.set_cons_succ, i64_w, i32_w]
            rfl
           exact norm_ zm (hJ2_7 (v537, gb545) _ ⟨hHeld, (ru HO538.out), (zu BK527), (zu BK528), (zu BK534), (zu BK535), (zu BK545), GW545.out, GE545.out, NB527_545.out, NB545_527.out, NB528_545.out, NB545_528.out, NB534_545.out, NB545_534.out, NB535_545.out, NB545_535.out, zs⟩)
          skip
          rintro ⟨gb544, gb545⟩ w31 ⟨hS_, h0_, h1_, h2_, h3_, h4_, h5_, h6_, h7_, h8_, h9_, h10_, h11_, h12_, h13_, h14_, h15_, h16_, h17_, h18_, h19_, h20_, h21_, h22_, h23_, h24_, h25_, h26_, h27_, h28_⟩
          have n0_ := zA h0_
          have n1_ := zA h1_
          have n2_ := zA h2_
          have n3_ := zA h3_
          have n4_ := zA h4_
          have n5_ := zA h5_
          have n6_ := zA h6_
          have n7_ := zA h7_
          have n8_ := zA h8_
          have n9_ := zA h9_
          have n10_ := zA h10_
          have n11_ := zA h11_
          have n12_ := zA h12_
          have n13_ := zA h13_
          have n14_ := zA h14_
          have n15_ := zA h15_
          have n16_ := zA h16_
          have n17_ := zA h17_
          have n18_ := zA h18_
          have n19_ := zA h19_
          have n20_ := zA h20_
          have n21_ := zA h21_
          have n22_ := zA h22_
          have n23_ := zA h23_
          have n24_ := zA h24_
          have n25_ := zA h25_
          have n26_ := zA h26_
          have n27_ := zA h27_
          have n28_ := zA h28_
          clear BK527
          clear BK528
          clear BK534
          clear BK535
          clear HB
          clear h0_ h1_ h2_ h3_ h4_ h5_ h6_ h7_ h8_ h9_ h10_ h11_ h12_ h13_ h14_ h15_ h16_ h17_ h18_ h19_ h20_ h21_ h22_ h23_ h24_ h25_ h26_ h27_ h28_
          have BK527 := n0_
          have BK528 := n1_
          have BK534 := n2_
          have BK535 := n3_
          have BK544 := n4_
          have BK545 := n5_
          have GW544 := n6_
          have GE544 := n7_
          have NB527_544 := n8_
          have NB544_527 := n9_
          have NB528_544 := n10_
          have NB544_528 := n11_
          have NB534_544 := n12_
          have NB544_534 := n13_
          have NB535_544 := n14_
          have NB544_535 := n15_
          have NB545_544 := n16_
          have NB544_545 := n17_
          have GW545 := n18_
          have GE545 := n19_
          have NB527_545 := n20_
          have NB545_527 := n21_
          have NB528_545 := n22_
          have NB545_528 := n23_
          have NB534_545 := n24_
          have NB545_534 := n25_
          have NB535_545 := n26_
          have NB545_535 := n27_
          have HB := n28_
          clear n0_ n1_ n2_ n3_ n4_ n5_ n6_ n7_ n8_ n9_ n10_ n11_ n12_ n13_ n14_ n15_ n16_ n17_ n18_ n19_ n20_ n21_ n22_ n23_ n24_ n25_ n26_ n27_ n28_
          have hHeld : z4 w31 gb527 (.bool a0_0) (.slice A0_1 l0_1.length c0_1) (.int .i64 a0_2) (w31.cell? ⟨gb527, 3, none⟩ = some (.bool a0_3) ∧ w31.cell? ⟨gb527, 4, none⟩ = some (.slice A0_4 l0_4.length c0_4) ∧ w31.cell? ⟨gb527, 5, none⟩ = some (.int .i64 a0_5)) := hS_
          refine norm_ (a' := ?_) ?_ ?_
          rotate_left
          ·simp only [putAll, Act.put, List.setIfInBounds_toArray, List.set_cons_zero, List.set_cons_succ]
           rfl
          refine one_ (i := 2) (N := some 26) #[true, true, true, true, true, false, true, true, false, false] rfl rfl (one_of HT_.out (by kernel_rfl)) (by decide) (fun K hK => ?_)
          refine goes_ Tryd.func35 (by kernel_rfl) rfl #[.agg #[.bool a0_0, .slice A0_1 l0_1.length c0_1, .int .i64 a0_2]] (by rfl) rfl rfl ga ?_
          with_reducible refine (round_of.calls kj2 a0_0 _ _ l0_1 a0_2 t536 t539 _ ?side1 ?side2 A14.out).mono ?_
          (case side1 => exact zk (C_below HR0_1.out HB.out))
          (case side2 => exact HC0_1.out)
          rintro e w32 ⟨v537, rfl, ho0, hb⟩
          refine ⟨_, rfl, ?_⟩
          have HO538 := zA (R_lower ho0 (below_size zs))
          replace BK527 := zb BK527 hb
          replace BK528 := zb BK528 hb
          replace BK534 := zb BK534 hb
          replace BK535 := zb BK535 hb
          replace BK544 := zb BK544 hb
          replace BK545 := zb BK545 hb
          replace HB := zf hb
          (try clear hb)
          (try clear hb2)
          (try clear hk)
          (try clear hi)
          (try clear ho0)
          refine hK.out _ _ (za BK527 ⟨(blk_cell BK527.out 3).trans rfl, (blk_cell BK527.out 4).trans rfl, (blk_cell BK527.out 5).trans rfl⟩) (fun hHeld => ?_)
          clear hK K
          refine norm_ (a' := ?_) ?_ ?_
          rotate_left
          ·show Act.put _ (some 26) _ = _
           simp only [Act.put, List.setIfInBounds_toArray, List.set_cons_zero, List.set_cons_succ, i64_w, i32_w]
           rfl
          exact norm_ zm (hJ2_6_7 (v537, gb544, gb545) _ ⟨hHeld, (ru HO538.out), (zu BK527), (zu BK528), (zu BK534), (zu BK535), (zu BK544), (zu BK545), GW544.out, GE544.out, NB527_544.out, NB544_527.out, NB528_544.out, NB544_528.out, NB534_544.out, NB544_534.out, NB535_544.out, NB544_535.out, NB545_544.out, NB544_545.out, GW545.out, GE545.out, NB527_545.out, NB545_527.out, NB528_545.out, NB545_528.out, NB534_545.out, NB545_534.out, NB535_545.out, NB545_535.out, zs⟩)
         skip
         rintro ⟨v537, gb545⟩ w31 ⟨hS_, h0_, h1_, h2_, h3_, h4_, h5_, h6_, h7_, h8_, h9_, h10_, h11_, h12_, h13_, h14_, h15_, h16_⟩
         have n0_ := zA h0_
         have n1_ := zA h1_
         have n2_ := zA h2_
         have n3_ := zA h3_
         have n4_ := zA h4_
         have n5_ := zA h5_
         have n6_ := zA h6_
         have n7_ := zA h7_
         have n8_ := zA h8_
         have n9_ := zA h9_
         have n10_ := zA h10_
         have n11_ := zA h11_
         have n12_ := zA h12_
         have n13_ := zA h13_
         have n14_ := zA h14_
         have n15_ := zA h15_
         have n16_ := zA h16_
         clear BK527
         clear BK528
         clear BK534
         clear BK535
         clear HB
         clear h0_ h1_ h2_ h3_ h4_ h5_ h6_ h7_ h8_ h9_ h10_ h11_ h12_ h13_ h14_ h15_ h16_
         have HO538 := n0_
         have BK527 := n1_
         have BK528 := n2_
         have BK534 := n3_
         have BK535 := n4_
         have BK545 := n5_
         have GW545 := n6_
         have GE545 := n7_
         have NB527_545 := n8_
         have NB545_527 := n9_
         have NB528_545 := n10_
         have NB545_528 := n11_
         have NB534_545 := n12_
         have NB545_534 := n13_
         have NB535_545 := n14_
         have NB545_535 := n15_
         have HB := n16_
         clear n0_ n1_ n2_ n3_ n4_ n5_ n6_ n7_ n8_ n9_ n10_ n11_ n12_ n13_ n14_ n15_ n16_
         have hHeld : z4 w31 gb527 (.bool a0_0) (.slice A0_1 l0_1.length c0_1) (.int .i64 a0_2) (w31.cell? ⟨gb527, 3, none⟩ = some (.bool a0_3) ∧ w31.cell? ⟨gb527, 4, none⟩ = some (.slice A0_4 l0_4.length c0_4) ∧ w31.cell? ⟨gb527, 5, none⟩ = some (.int .i64 a0_5)) := hS_
         refine norm_ (a' := ?_) ?_ ?_
         rotate_left
         ·simp only [putAll, Act.put, List.setIfInBounds_toArray, List.set_cons_zero, List.set_cons_succ]
          rfl
         refine two_ (i := 5) (j := 6) (Ni := some 29) (Nj := some 8) #[true, true, true, true, true, true, false, true, false, false] #[true, true, true, true, true, false, true, true, false, false] rfl rfl rfl rfl (two_of HT_.out (by kernel_rfl)) (by decide) (by decide) (fun K hK => ?_) (fun K hK => ?_)
         ·skip
          refine goes_ Tryd.func35 (by kernel_rfl) rfl #[.agg #[.bool a0_3, .slice A0_4 l0_4.length c0_4, .int .i64 a0_5]] (by rfl) rfl rfl ga ?_
          with_reducible refine (round_of.calls kj2 a0_3 _ _ l0_4 a0_5 t540 t543 _ ?side1 ?side2 A15.out).mono ?_
          (case side1 => exact zk (C_below HR0_4.out HB.out))
          (case side2 => exact HC0_4.out)
          rintro e w32 ⟨v541, rfl, ho0, hb⟩
          refine ⟨_, rfl, ?_⟩
          have HO542 := zA (R_lower (R_new' ho0 (R_lt (ru HO538.out))) (below_size zs))
          replace HO538 := zA (R_elder' (ru HO538.out) (R_base ho0) hb)
          replace BK527 := zb BK527 hb
          replace BK528 := zb BK528 hb
          replace BK534 := zb BK534 hb
          replace BK535 := zb BK535 hb
          replace BK545 := zb BK545 hb
          replace HB := zf hb
          (try clear hb)
          (try clear hb2)
          (try clear hk)
          (try clear hi)
          (try clear ho0)
          refine hK.out _ _ (za BK527 ⟨(blk_cell BK527.out 3).trans rfl, (blk_cell BK527.out 4).trans rfl, (blk_cell BK527.out 5).trans rfl⟩) (fun hHeld => ?_)
          clear hK K
          refine norm_ (a' := ?_) ?_ ?_
          rotate_left
          ·show Act.put _ (some 29) _ = _
           simp only [Act.put, List.setIfInBounds_toArray, List.set_cons_zero, List.set_cons_succ, i64_w, i32_w]
           rfl
          exact norm_ zm (hJ2_5_7 (v537, v541, gb545) _ ⟨hHeld, (ru (R_mono HO538.out (fun _ hk => hk.2))), (ru (R_mono HO542.out (fun _ hk => hk.2))), (zu BK527), (zu BK528), (zu BK534), (zu BK535), (zu BK545), GW545.out, GE545.out, NB527_545.out, NB545_527.out, NB528_545.out, NB545_528.out, NB534_545.out, NB545_534.out, NB535_545.out, NB545_535.out, zs⟩)
         skip
         refine box_step ?hg (N := 8) ?hd (cs := #[.slice none 0 0, .int .i64 0]) (t := 64) ?hr ?_; (case hd => rfl); (case hg => rfl); (case hr => first | (go_simp; done) | (go_simp; rfl))
         intro gb544 hg w32 hbox hb
         replace HO538 := zA (R_below (ru HO538.out) hb)
         have BK544 := zA (hbox)
         have GW544 := zx hg
         have GE544 := zx hg
         replace HB := zf hb
         have NB527_544 := zl BK527 hg
         have NB544_527 := zg BK527 hg
         replace BK527 := zb BK527 hb
         have NB528_544 := zl BK528 hg
         have NB544_528 := zg BK528 hg
         replace BK528 := zb BK528 hb
         have NB534_544 := zl BK534 hg
         have NB544_534 := zg BK534 hg
         replace BK534 := zb BK534 hb
         have NB535_544 := zl BK535 hg
         have NB544_535 := zg BK535 hg
         replace BK535 := zb BK535 hb
         have NB545_544 := zl BK545 hg
         have NB544_545 := zg BK545 hg
         replace BK545 := zb BK545 hb
         clear hb hbox hg
         refine hK.out _ _ (za BK527 ⟨(blk_cell BK527.out 3).trans rfl, (blk_cell BK527.out 4).trans rfl, (blk_cell BK527.out 5).trans rfl⟩) (fun hHeld => ?_)
         clear hK K
         refine norm_ (a' := ?_) ?_ ?_
         rotate_left
         ·show Act.put _ (some 8) _ = _
          simp only [Act.put, List.setIfInBounds_toArray, List.set_cons_zero, List.set_cons_succ, i64_w, i32_w]
          rfl
         exact norm_ zm (hJ2_6_7 (v537, gb544, gb545) _ ⟨hHeld, (ru HO538.out), (zu BK527), (zu BK528), (zu BK534), (zu BK535), (zu BK544), (zu BK545), GW544.out, GE544.out, NB527_544.out, NB544_527.out, NB528_544.out, NB544_528.out, NB534_544.out, NB544_534.out, NB535_544.out, NB544_535.out, NB545_544.out, NB544_545.out, GW545.out, GE545.out, NB527_545.out, NB545_527.out, NB528_545.out, NB545_528.out, NB534_545.out, NB545_534.out, NB535_545.out, NB545_535.out, zs⟩)
        skip
        rintro ⟨v537, gb544⟩ w31 ⟨hS_, h0_, h1_, h2_, h3_, h4_, h5_, h6_, h7_, h8_, h9_, h10_, h11_, h12_, h13_, h14_, h15_, h16_⟩
        have n0_ := zA h0_
        have n1_ := zA h1_
        have n2_ := zA h2_
        have n3_ := zA h3_
        have n4_ := zA h4_
        have n5_ := zA h5_
        have n6_ := zA h6_
        have n7_ := zA h7_
        have n8_ := zA h8_
        have n9_ := zA h9_
        have n10_ := zA h10_
        have n11_ := zA h11_
        have n12_ := zA h12_
        have n13_ := zA h13_
        have n14_ := zA h14_
        have n15_ := zA h15_
        have n16_ := zA h16_
        clear BK527
        clear BK528
        clear BK534
        clear BK535
        clear HB
        clear h0_ h1_ h2_ h3_ h4_ h5_ h6_ h7_ h8_ h9_ h10_ h11_ h12_ h13_ h14_ h15_ h16_
        have HO538 := n0_
        have BK527 := n1_
        have BK528 := n2_
        have BK534 := n3_
        have BK535 := n4_
        have BK544 := n5_
        have GW544 := n6_
        have GE544 := n7_
        have NB527_544 := n8_
        have NB544_527 := n9_
        have NB528_544 := n10_
        have NB544_528 := n11_
        have NB534_544 := n12_
        have NB544_534 := n13_
        have NB535_544 := n14_
        have NB544_535 := n15_
        have HB := n16_
        clear n0_ n1_ n2_ n3_ n4_ n5_ n6_ n7_ n8_ n9_ n10_ n11_ n12_ n13_ n14_ n15_ n16_
        have hHeld : z4 w31 gb527 (.bool a0_0) (.slice A0_1 l0_1.length c0_1) (.int .i64 a0_2) (w31.cell? ⟨gb527, 3, none⟩ = some (.bool a0_3) ∧ w31.cell? ⟨gb527, 4, none⟩ = some (.slice A0_4 l0_4.length c0_4) ∧ w31.cell? ⟨gb527, 5, none⟩ = some (.int .i64 a0_5)) := hS_
        refine norm_ (a' := ?_) ?_ ?_
        rotate_left
        ·simp only [putAll, Act.put, List.setIfInBounds_toArray, List.set_cons_zero, List.set_cons_succ]
         rfl
        refine two_ (i := 5) (j := 7) (Ni := some 29) (Nj := some 9) #[true, true, true, true, true, true, true, false, false, false] #[true, true, true, true, true, false, true, true, false, false] rfl rfl rfl rfl (two_of HT_.out (by kernel_rfl)) (by decide) (by decide) (fun K hK => ?_) (fun K hK => ?_)
        ·skip
         refine goes_ Tryd.func35 (by kernel_rfl) rfl #[.agg #[.bool a0_3, .slice A0_4 l0_4.length c0_4, .int .i64 a0_5]] (by rfl) rfl rfl ga ?_
         with_reducible refine (round_of.calls kj2 a0_3 _ _ l0_4 a0_5 t540 t543 _ ?side1 ?side2 A15.out).mono ?_
         (case side1 => exact zk (C_below HR0_4.out HB.out))
         (case side2 => exact HC0_4.out)
         rintro e w32 ⟨v541, rfl, ho0, hb⟩
         refine ⟨_, rfl, ?_⟩
         have HO542 := zA (R_lower (R_new' ho0 (R_lt (ru HO538.out))) (below_size zs))
         replace HO538 := zA (R_elder' (ru HO538.out) (R_base ho0) hb)
         replace BK527 := zb BK527 hb
         replace BK528 := zb BK528 hb
         replace BK534 := zb BK534 hb
         replace BK535 := zb BK535 hb
         replace BK544 := zb BK544 hb
         replace HB := zf hb
         (try clear hb)
         (try clear hb2)
         (try clear hk)
         (try clear hi)
         (try clear ho0)
         refine hK.out _ _ (za BK527 ⟨(blk_cell BK527.out 3).trans rfl, (blk_cell BK527.out 4).trans rfl, (blk_cell BK527.out 5).trans rfl⟩) (fun hHeld => ?_)
         clear hK K
         refine norm_ (a' := ?_) ?_ ?_
         rotate_left
         ·show Act.put _ (some 29) _ = _
          simp only [Act.put, List.setIfInBounds_toArray, List.set_cons_zero, List.set_cons_succ, i64_w, i32_w]
          rfl
         exact norm_ zm (hJ2_5_6 (v537, v541, gb544) _ ⟨hHeld, (ru (R_mono HO538.out (fun _ hk => hk.2))), (ru (R_mono HO542.out (fun _ hk => hk.2))), (zu BK527), (zu BK528), (zu BK534), (zu BK535), (zu BK544), GW544.out, GE544.out, NB527_544.out, NB544_527.out, NB528_544.out, NB544_528.out, NB534_544.out, NB544_534.out, NB535_544.out, NB544_535.out, zs⟩)
        skip
        refine box_step ?hg (N := 9) ?hd (cs := #[.slice none 0 0, .int .i64 0]) (t := 64) ?hr ?_; (case hd => rfl); (case hg => rfl); (case hr => first | (go_simp; done) | (go_simp; rfl))
        intro gb545 hg w32 hbox hb
        replace HO538 := zA (R_below (ru HO538.out) hb)
        have BK545 := zA (hbox)
        have GW545 := zx hg
        have GE545 := zx hg
        replace HB := zf hb
        have NB527_545 := zl BK527 hg
        have NB545_527 := zg BK527 hg
        replace BK527 := zb BK527 hb
        have NB528_545 := zl BK528 hg
        have NB545_528 := zg BK528 hg
        replace BK528 := zb BK528 hb
        have NB534_545 := zl BK534 hg
        have NB545_534 := zg BK534 hg
        replace BK534 := zb BK534 hb
        have NB535_545 := zl BK535 hg
        have NB545_535 := zg BK535 hg
        replace BK535 := zb BK535 hb
        have NB544_545 := zl BK544 hg
        have NB545_544 := zg BK544 hg
        replace BK544 := zb BK544 hb
        clear hb hbox hg
        refine hK.out _ _ (za BK527 ⟨(blk_cell BK527.out 3).trans rfl, (blk_cell BK527.out 4).trans rfl, (blk_cell BK527.out 5).trans rfl⟩) (fun hHeld => ?_)
        clear hK K
        refine norm_ (a' := ?_) ?_ ?_
        rotate_left
        ·show Act.put _ (some 9) _ = _
         simp only [Act.put, List.setIfInBounds_toArray, List.set_cons_zero, List.set_cons_succ, i64_w, i32_w]
         rfl
        exact norm_ zm (hJ2_6_7 (v537, gb544, gb545) _ ⟨hHeld, (ru HO538.out), (zu BK527), (zu BK528), (zu BK534), (zu BK535), (zu BK544), (zu BK545), GW544.out, GE544.out, NB527_544.out, NB544_527.out, NB528_544.out, NB544_528.out, NB534_544.out, NB544_534.out, NB535_544.out, NB544_535.out, NB545_544.out, NB544_545.out, GW545.out, GE545.out, NB527_545.out, NB545_527.out, NB528_545.out, NB545_528.out, NB534_545.out, NB545_534.out, NB535_545.out, NB545_535.out, zs⟩)
       skip
       rintro ⟨v537, v541⟩ w31 ⟨hS_, h0_, h1_, h2_, h3_, h4_, h5_, h6_⟩
       have n0_ := zA h0_
       have n1_ := zA h1_
       have n2_ := zA h2_
       have n3_ := zA h3_
       have n4_ := zA h4_
       have n5_ := zA h5_
       have n6_ := zA h6_
       clear BK527
       clear BK528
       clear BK534
       clear BK535
       clear HB
       clear h0_ h1_ h2_ h3_ h4_ h5_ h6_
       have HO538 := n0_
       have HO542 := n1_
       have BK527 := n2_
       have BK528 := n3_
       have BK534 := n4_
       have BK535 := n5_
       have HB := n6_
       clear n0_ n1_ n2_ n3_ n4_ n5_ n6_
       have hHeld : z4 w31 gb527 (.bool a0_0) (.slice A0_1 l0_1.length c0_1) (.int .i64 a0_2) (w31.cell? ⟨gb527, 3, none⟩ = some (.bool a0_3) ∧ w31.cell? ⟨gb527, 4, none⟩ = some (.slice A0_4 l0_4.length c0_4) ∧ w31.cell? ⟨gb527, 5, none⟩ = some (.int .i64 a0_5)) := hS_
       refine norm_ (a' := ?_) ?_ ?_
       rotate_left
       ·simp only [putAll, Act.put, List.setIfInBounds_toArray, List.set_cons_zero, List.set_cons_succ]
        rfl
       refine two_ (i := 6) (j := 7) (Ni := some 8) (Nj := some 9) #[true, true, true, true, true, true, true, false, false, false] #[true, true, true, true, true, true, false, true, false, false] rfl rfl rfl rfl (two_of HT_.out (by kernel_rfl)) (by decide) (by decide) (fun K hK => ?_) (fun K hK => ?_)
       ·skip
        refine box_step ?hg (N := 8) ?hd (cs := #[.slice none 0 0, .int .i64 0]) (t := 64) ?hr ?_; (case hd => rfl); (case hg => rfl); (case hr => first | (go_simp; done) | (go_simp; rfl))
        intro gb544 hg w32 hbox hb
        replace HO538 := zA (R_below (ru HO538.out) hb)
        replace HO542 := zA (R_below (ru HO542.out) hb)
        have BK544 := zA (hbox)
        have GW544 := zx hg
        have GE544 := zx hg
        replace HB := zf hb
        have NB527_544 := zl BK527 hg
        have NB544_527 := zg BK527 hg
        replace BK527 := zb BK527 hb
        have NB528_544 := zl BK528 hg
        have NB544_528 := zg BK528 hg
        replace BK528 := zb BK528 hb
        have NB534_544 := zl BK534 hg
        have NB544_534 := zg BK534 hg
        replace BK534 := zb BK534 hb
        have NB535_544 := zl BK535 hg
        have NB544_535 := zg BK535 hg
        replace BK535 := zb BK535 hb
        clear hb hbox hg
        refine hK.out _ _ (za BK527 ⟨(blk_cell BK527.out 3).trans rfl, (blk_cell BK527.out 4).trans rfl, (blk_cell BK527.out 5).trans rfl⟩) (fun hHeld => ?_)
        clear hK K
        refine norm_ (a' := ?_) ?_ ?_
        rotate_left
        ·show Act.put _ (some 8) _ = _
         simp only [Act.put, List.setIfInBounds_toArray, List.set_cons_zero, List.set_cons_succ, i64_w, i32_w]
         rfl
        exact norm_ zm (hJ2_5_6 (v537, v541, gb544) _ ⟨hHeld, (ru HO538.out), (ru HO542.out), (zu BK527), (zu BK528), (zu BK534), (zu BK535), (zu BK544), GW544.out, GE544.out, NB527_544.out, NB544_527.out, NB528_544.out, NB544_528.out, NB534_544.out, NB544_534.out, NB535_544.out, NB544_535.out, zs⟩)
       skip
       refine box_step ?hg (N := 9) ?hd (cs := #[.slice none 0 0, .int .i64 0]) (t := 64) ?hr ?_; (case hd => rfl); (case hg => rfl); (case hr => first | (go_simp; done) | (go_simp; rfl))
       intro gb545 hg w32 hbox hb
       replace HO538 := zA (R_below (ru HO538.out) hb)
       replace HO542 := zA (R_below (ru HO542.out) hb)
       have BK545 := zA (hbox)
       have GW545 := zx hg
       have GE545 := zx hg
       replace HB := zf hb
       have NB527_545 := zl BK527 hg
       have NB545_527 := zg BK527 hg
       replace BK527 := zb BK527 hb
       have NB528_545 := zl BK528 hg
       have NB545_528 := zg BK528 hg
       replace BK528 := zb BK528 hb
       have NB534_545 := zl BK534 hg
       have NB545_534 := zg BK534 hg
       replace BK534 := zb BK534 hb
       have NB535_545 := zl BK535 hg
       have NB545_535 := zg BK535 hg
       replace BK535 := zb BK535 hb
       clear hb hbox hg
       refine hK.out _ _ (za BK527 ⟨(blk_cell BK527.out 3).trans rfl, (blk_cell BK527.out 4).trans rfl, (blk_cell BK527.out 5).trans rfl⟩) (fun hHeld => ?_)
       clear hK K
       refine norm_ (a' := ?_) ?_ ?_
       rotate_left
       ·show Act.put _ (some 9) _ = _
        simp only [Act.put, List.setIfInBounds_toArray, List.set_cons_zero, List.set_cons_succ, i64_w, i32_w]
        rfl
       exact norm_ zm (hJ2_5_7 (v537, v541, gb545) _ ⟨hHeld, (ru HO538.out), (ru HO542.out), (zu BK527), (zu BK528), (zu BK534), (zu BK535), (zu BK545), GW545.out, GE545.out, NB527_545.out, NB545_527.out, NB528_545.out, NB545_528.out, NB534_545.out, NB545_534.out, NB535_545.out, NB545_535.out, zs⟩)
      skip
      rintro ⟨v537, gb544, gb545⟩ w32 ⟨hS_, h0_, h1_, h2_, h3_, h4_, h5_, h6_, h7_, h8_, h9_, h10_, h11_, h12_, h13_, h14_, h15_, h16_, h17_, h18_, h19_, h20_, h21_, h22_, h23_, h24_, h25_, h26_, h27_, h28_, h29_⟩
      have n0_ := zA h0_
      have n1_ := zA h1_
      have n2_ := zA h2_
      have n3_ := zA h3_
      have n4_ := zA h4_
      have n5_ := zA h5_
      have n6_ := zA h6_
      have n7_ := zA h7_
      have n8_ := zA h8_
      have n9_ := zA h9_
      have n10_ := zA h10_
      have n11_ := zA h11_
      have n12_ := zA h12_
      have n13_ := zA h13_
      have n14_ := zA h14_
      have n15_ := zA h15_
      have n16_ := zA h16_
      have n17_ := zA h17_
      have n18_ := zA h18_
      have n19_ := zA h19_
      have n20_ := zA h20_
      have n21_ := zA h21_
      have n22_ := zA h22_
      have n23_ := zA h23_
      have n24_ := zA h24_
      have n25_ := zA h25_
      have n26_ := zA h26_
      have n27_ := zA h27_
      have n28_ := zA h28_
      have n29_ := zA h29_
      clear BK527
      clear BK528
      clear BK534
      clear BK535
      clear HB
      clear h0_ h1_ h2_ h3_ h4_ h5_ h6_ h7_ h8_ h9_ h10_ h11_ h12_ h13_ h14_ h15_ h16_ h17_ h18_ h19_ h20_ h21_ h22_ h23_ h24_ h25_ h26_ h27_ h28_ h29_
      have HO538 := n0_
      have BK527 := n1_
      have BK528 := n2_
      have BK534 := n3_
      have BK535 := n4_
      have BK544 := n5_
      have BK545 := n6_
      have GW544 := n7_
      have GE544 := n8_
      have NB527_544 := n9_
      have NB544_527 := n10_
      have NB528_544 := n11_
      have NB544_528 := n12_
      have NB534_544 := n13_
      have NB544_534 := n14_
      have NB535_544 := n15_
      have NB544_535 := n16_
      have NB545_544 := n17_
      have NB544_545 := n18_
      have GW545 := n19_
      have GE545 := n20_
      have NB527_545 := n21_
      have NB545_527 := n22_
      have NB528_545 := n23_
      have NB545_528 := n24_
      have NB534_545 := n25_
      have NB545_534 := n26_
      have NB535_545 := n27_
      have NB545_535 := n28_
      have HB := n29_
      clear n0_ n1_ n2_ n3_ n4_ n5_ n6_ n7_ n8_ n9_ n10_ n11_ n12_ n13_ n14_ n15_ n16_ n17_ n18_ n19_ n20_ n21_ n22_ n23_ n24_ n25_ n26_ n27_ n28_ n29_
      have hHeld : z4 w32 gb527 (.bool a0_0) (.slice A0_1 l0_1.length c0_1) (.int .i64 a0_2) (w32.cell? ⟨gb527, 3, none⟩ = some (.bool a0_3) ∧ w32.cell? ⟨gb527, 4, none⟩ = some (.slice A0_4 l0_4.length c0_4) ∧ w32.cell? ⟨gb527, 5, none⟩ = some (.int .i64 a0_5)) := hS_
      refine norm_ (a' := ?_) ?_ ?_
      rotate_left
      ·simp only [putAll, Act.put, List.setIfInBounds_toArray, List.set_cons_zero, List.set_cons_succ]
       rfl
      refine one_ (i := 5) (N := some 29) #[true, true, true, true, true, true, true, true, false, false] rfl rfl (one_of HT_.out (by kernel_rfl)) (by decide) (fun K hK => ?_)
      refine goes_ Tryd.func35 (by kernel_rfl) rfl #[.agg #[.bool a0_3, .slice A0_4 l0_4.length c0_4, .int .i64 a0_5]] (by rfl) rfl rfl ga ?_
      with_reducible refine (round_of.calls kj2 a0_3 _ _ l0_4 a0_5 t540 t543 _ ?side1 ?side2 A15.out).mono ?_
      (case side1 => exact zk (C_below HR0_4.out HB.out))
      (case side2 => exact HC0_4.out)
      rintro e w33 ⟨v541, rfl, ho0, hb⟩
      refine ⟨_, rfl, ?_⟩
      have HO542 := zA (R_lower (R_new' ho0 (R_lt (ru HO538.out))) (below_size zs))
      replace HO538 := zA (R_elder' (ru HO538.out) (R_base ho0) hb)
      replace BK527 := zb BK527 hb
      replace BK528 := zb BK528 hb
      replace BK534 := zb BK534 hb
      replace BK535 := zb BK535 hb
      replace BK544 := zb BK544 hb
      replace BK545 := zb BK545 hb
      replace HB := zf hb
      (try clear hb)
      (try clear hb2)
      (try clear hk)
      (try clear hi)
      (try clear ho0)
      refine hK.out _ _ (za BK527 ⟨(blk_cell BK527.out 3).trans rfl, (blk_cell BK527.out 4).trans rfl, (blk_cell BK527.out 5).trans rfl⟩) (fun hHeld => ?_)
      clear hK K
      refine norm_ (a' := ?_) ?_ ?_
      rotate_left
      ·show Act.put _ (some 29) _ = _
       simp only [Act.put, List.setIfInBounds_toArray, List.set_cons_zero, List.set_cons_succ, i64_w, i32_w]
       rfl
      exact norm_ zm (hJ2_5_6_7 (v537, v541, gb544, gb545) _ ⟨hHeld, (ru (R_mono HO538.out (fun _ hk => hk.2))), (ru (R_mono HO542.out (fun _ hk => hk.2))), (zu BK527), (zu BK528), (zu BK534), (zu BK535), (zu BK544), (zu BK545), GW544.out, GE544.out, NB527_544.out, NB544_527.out, NB528_544.out, NB544_528.out, NB534_544.out, NB544_534.out, NB535_544.out, NB544_535.out, NB545_544.out, NB544_545.out, GW545.out, GE545.out, NB527_545.out, NB545_527.out, NB528_545.out, NB545_528.out, NB534_545.out, NB545_534.out, NB535_545.out, NB545_535.out, zs⟩)
     skip
     rintro ⟨v537, v541, gb545⟩ w32 ⟨hS_, h0_, h1_, h2_, h3_, h4_, h5_, h6_, h7_, h8_, h9_, h10_, h11_, h12_, h13_, h14_, h15_, h16_, h17_⟩
     have n0_ := zA h0_
     have n1_ := zA h1_
     have n2_ := zA h2_
     have n3_ := zA h3_
     have n4_ := zA h4_
     have n5_ := zA h5_
     have n6_ := zA h6_
     have n7_ := zA h7_
     have n8_ := zA h8_
     have n9_ := zA h9_
     have n10_ := zA h10_
     have n11_ := zA h11_
     have n12_ := zA h12_
     have n13_ := zA h13_
     have n14_ := zA h14_
     have n15_ := zA h15_
     have n16_ := zA h16_
     have n17_ := zA h17_
     clear BK527
     clear BK528
     clear BK534
     clear BK535
     clear HB
     clear h0_ h1_ h2_ h3_ h4_ h5_ h6_ h7_ h8_ h9_ h10_ h11_ h12_ h13_ h14_ h15_ h16_ h17_
     have HO538 := n0_
     have HO542 := n1_
     have BK527 := n2_
     have BK528 := n3_
     have BK534 := n4_
     have BK535 := n5_
     have BK545 := n6_
     have GW545 := n7_
     have GE545 := n8_
     have NB527_545 := n9_
     have NB545_527 := n10_
     have NB528_545 := n11_
     have NB545_528 := n12_
     have NB534_545 := n13_
     have NB545_534 := n14_
     have NB535_545 := n15_
     have NB545_535 := n16_
     have HB := n17_
     clear n0_ n1_ n2_ n3_ n4_ n5_ n6_ n7_ n8_ n9_ n10_ n11_ n12_ n13_ n14_ n15_ n16_ n17_
     have hHeld : z4 w32 gb527 (.bool a0_0) (.slice A0_1 l0_1.length c0_1) (.int .i64 a0_2) (w32.cell? ⟨gb527, 3, none⟩ = some (.bool a0_3) ∧ w32.cell? ⟨gb527, 4, none⟩ = some (.slice A0_4 l0_4.length c0_4) ∧ w32.cell? ⟨gb527, 5, none⟩ = some (.int .i64 a0_5)) := hS_
     refine norm_ (a' := ?_) ?_ ?_
     rotate_left
     ·simp only [putAll, Act.put, List.setIfInBounds_toArray, List.set_cons_zero, List.set_cons_succ]
      rfl
     refine one_ (i := 6) (N := some 8) #[true, true, true, true, true, true, true, true, false, false] rfl rfl (one_of HT_.out (by kernel_rfl)) (by decide) (fun K hK => ?_)
     refine box_step ?hg (N := 8) ?hd (cs := #[.slice none 0 0, .int .i64 0]) (t := 64) ?hr ?_; (case hd => rfl); (case hg => rfl); (case hr => first | (go_simp; done) | (go_simp; rfl))
     intro gb544 hg w33 hbox hb
     replace HO538 := zA (R_below (ru HO538.out) hb)
     replace HO542 := zA (R_below (ru HO542.out) hb)
     have BK544 := zA (hbox)
     have GW544 := zx hg
     have GE544 := zx hg
     replace HB := zf hb
     have NB527_544 := zl BK527 hg
     have NB544_527 := zg BK527 hg
     replace BK527 := zb BK527 hb
     have NB528_544 := zl BK528 hg
     have NB544_528 := zg BK528 hg
     replace BK528 := zb BK528 hb
     have NB534_544 := zl BK534 hg
     have NB544_534 := zg BK534 hg
     replace BK534 := zb BK534 hb
     have NB535_544 := zl BK535 hg
     have NB544_535 := zg BK535 hg
     replace BK535 := zb BK535 hb
     have NB545_544 := zl BK545 hg
     have NB544_545 := zg BK545 hg
     replace BK545 := zb BK545 hb
     clear hb hbox hg
     refine hK.out _ _ (za BK527 ⟨(blk_cell BK527.out 3).trans rfl, (blk_cell BK527.out 4).trans rfl, (blk_cell BK527.out 5).trans rfl⟩) (fun hHeld => ?_)
     clear hK K
     refine norm_ (a' := ?_) ?_ ?_
     rotate_left
     ·show Act.put _ (some 8) _ = _
      simp only [Act.put, List.setIfInBounds_toArray, List.set_cons_zero, List.set_cons_succ, i64_w, i32_w]
      rfl
     exact norm_ zm (hJ2_5_6_7 (v537, v541, gb544, gb545) _ ⟨hHeld, (ru HO538.out), (ru HO542.out), (zu BK527), (zu BK528), (zu BK534), (zu BK535), (zu BK544), (zu BK545), GW544.out, GE544.out, NB527_544.out, NB544_527.out, NB528_544.out, NB544_528.out, NB534_544.out, NB544_534.out, NB535_544.out, NB544_535.out, NB545_544.out, NB544_545.out, GW545.out, GE545.out, NB527_545.out, NB545_527.out, NB528_545.out, NB545_528.out, NB534_545.out, NB545_534.out, NB535_545.out, NB545_535.out, zs⟩)
    skip
    rintro ⟨v537, v541, gb544⟩ w32 ⟨hS_, h0_, h1_, h2_, h3_, h4_, h5_, h6_, h7_, h8_, h9_, h10_, h11_, h12_, h13_, h14_, h15_, h16_, h17_⟩
    have n0_ := zA h0_
    have n1_ := zA h1_
    have n2_ := zA h2_
    have n3_ := zA h3_
    have n4_ := zA h4_
    have n5_ := zA h5_
    have n6_ := zA h6_
    have n7_ := zA h7_
    have n8_ := zA h8_
    have n9_ := zA h9_
    have n10_ := zA h10_
    have n11_ := zA h11_
    have n12_ := zA h12_
    have n13_ := zA h13_
    have n14_ := zA h14_
    have n15_ := zA h15_
    have n16_ := zA h16_
    have n17_ := zA h17_
    clear BK527
    clear BK528
    clear BK534
    clear BK535
    clear HB
    clear h0_ h1_ h2_ h3_ h4_ h5_ h6_ h7_ h8_ h9_ h10_ h11_ h12_ h13_ h14_ h15_ h16_ h17_
    have HO538 := n0_
    have HO542 := n1_
    have BK527 := n2_
    have BK528 := n3_
    have BK534 := n4_
    have BK535 := n5_
    have BK544 := n6_
    have GW544 := n7_
    have GE544 := n8_
    have NB527_544 := n9_
    have NB544_527 := n10_
    have NB528_544 := n11_
    have NB544_528 := n12_
    have NB534_544 := n13_
    have NB544_534 := n14_
    have NB535_544 := n15_
    have NB544_535 := n16_
    have HB := n17_
    clear n0_ n1_ n2_ n3_ n4_ n5_ n6_ n7_ n8_ n9_ n10_ n11_ n12_ n13_ n14_ n15_ n16_ n17_
    have hHeld : z4 w32 gb527 (.bool a0_0) (.slice A0_1 l0_1.length c0_1) (.int .i64 a0_2) (w32.cell? ⟨gb527, 3, none⟩ = some (.bool a0_3) ∧ w32.cell? ⟨gb527, 4, none⟩ = some (.slice A0_4 l0_4.length c0_4) ∧ w32.cell? ⟨gb527, 5, none⟩ = some (.int .i64 a0_5)) := hS_
    refine norm_ (a' := ?_) ?_ ?_
    rotate_left
    ·simp only [putAll, Act.put, List.setIfInBounds_toArray, List.set_cons_zero, List.set_cons_succ]
     rfl
    refine one_ (i := 7) (N := some 9) #[true, true, true, true, true, true, true, true, false, false] rfl rfl (one_of HT_.out (by kernel_rfl)) (by decide) (fun K hK => ?_)
    refine box_step ?hg (N := 9) ?hd (cs := #[.slice none 0 0, .int .i64 0]) (t := 64) ?hr ?_; (case hd => rfl); (case hg => rfl); (case hr => first | (go_simp; done) | (go_simp; rfl))
    intro gb545 hg w33 hbox hb
    replace HO538 := zA (R_below (ru HO538.out) hb)
    replace HO542 := zA (R_below (ru HO542.out) hb)
    have BK545 := zA (hbox)
    have GW545 := zx hg
    have GE545 := zx hg
    replace HB := zf hb
    have NB527_545 := zl BK527 hg
    have NB545_527 := zg BK527 hg
    replace BK527 := zb BK527 hb
    have NB528_545 := zl BK528 hg
    have NB545_528 := zg BK528 hg
    replace BK528 := zb BK528 hb
    have NB534_545 := zl BK534 hg
    have NB545_534 := zg BK534 hg
    replace BK534 := zb BK534 hb
    have NB535_545 := zl BK535 hg
    have NB545_535 := zg BK535 hg
    replace BK535 := zb BK535 hb
    have NB544_545 := zl BK544 hg
    have NB545_544 := zg BK544 hg
    replace BK544 := zb BK544 hb
    clear hb hbox hg
    refine hK.out _ _ (za BK527 ⟨(blk_cell BK527.out 3).trans rfl, (blk_cell BK527.out 4).trans rfl, (blk_cell BK527.out 5).trans rfl⟩) (fun hHeld => ?_)
    clear hK K
    refine norm_ (a' := ?_) ?_ ?_
    rotate_left
    ·show Act.put _ (some 9) _ = _
     simp only [Act.put, List.setIfInBounds_toArray, List.set_cons_zero, List.set_cons_succ, i64_w, i32_w]
     rfl
    exact norm_ zm (hJ2_5_6_7 (v537, v541, gb544, gb545) _ ⟨hHeld, (ru HO538.out), (ru HO542.out), (zu BK527), (zu BK528), (zu BK534), (zu BK535), (zu BK544), (zu BK545), GW544.out, GE544.out, NB527_544.out, NB544_527.out, NB528_544.out, NB544_528.out, NB534_544.out, NB544_534.out, NB535_544.out, NB544_535.out, NB545_544.out, NB544_545.out, GW545.out, GE545.out, NB527_545.out, NB545_527.out, NB528_545.out, NB545_528.out, NB534_545.out, NB545_534.out, NB535_545.out, NB545_535.out, zs⟩)
   rintro ⟨v537, v541, gb544, gb545⟩ w33 ⟨hS_, h0_, h1_, h2_, h3_, h4_, h5_, h6_, h7_, h8_, h9_, h10_, h11_, h12_, h13_, h14_, h15_, h16_, h17_, h18_, h19_, h20_, h21_, h22_, h23_, h24_, h25_, h26_, h27_, h28_, h29_, h30_⟩
   have n0_ := zA h0_
   have n1_ := zA h1_
   have n2_ := zA h2_
   have n3_ := zA h3_
   have n4_ := zA h4_
   have n5_ := zA h5_
   have n6_ := zA h6_
   have n7_ := zA h7_
   have n8_ := zA h8_
   have n9_ := zA h9_
   have n10_ := zA h10_
   have n11_ := zA h11_
   have n12_ := zA h12_
   have n13_ := zA h13_
   have n14_ := zA h14_
   have n15_ := zA h15_
   have n16_ := zA h16_
   have n17_ := zA h17_
   have n18_ := zA h18_
   have n19_ := zA h19_
   have n20_ := zA h20_
   have n21_ := zA h21_
   have n22_ := zA h22_
   have n23_ := zA h23_
   have n24_ := zA h24_
   have n25_ := zA h25_
   have n26_ := zA h26_
   have n27_ := zA h27_
   have n28_ := zA h28_
   have n29_ := zA h29_
   have n30_ := zA h30_
   clear BK527
   clear BK528
   clear BK534
   clear BK535
   clear HB
   clear h0_ h1_ h2_ h3_ h4_ h5_ h6_ h7_ h8_ h9_ h10_ h11_ h12_ h13_ h14_ h15_ h16_ h17_ h18_ h19_ h20_ h21_ h22_ h23_ h24_ h25_ h26_ h27_ h28_ h29_ h30_
   have HO538 := n0_
   have HO542 := n1_
   have BK527 := n2_
   have BK528 := n3_
   have BK534 := n4_
   have BK535 := n5_
   have BK544 := n6_
   have BK545 := n7_
   have GW544 := n8_
   have GE544 := n9_
   have NB527_544 := n10_
   have NB544_527 := n11_
   have NB528_544 := n12_
   have NB544_528 := n13_
   have NB534_544 := n14_
   have NB544_534 := n15_
   have NB535_544 := n16_
   have NB544_535 := n17_
   have NB545_544 := n18_
   have NB544_545 := n19_
   have GW545 := n20_
   have GE545 := n21_
   have NB527_545 := n22_
   have NB545_527 := n23_
   have NB528_545 := n24_
   have NB545_528 := n25_
   have NB534_545 := n26_
   have NB545_534 := n27_
   have NB535_545 := n28_
   have NB545_535 := n29_
   have HB := n30_
   clear n0_ n1_ n2_ n3_ n4_ n5_ n6_ n7_ n8_ n9_ n10_ n11_ n12_ n13_ n14_ n15_ n16_ n17_ n18_ n19_ n20_ n21_ n22_ n23_ n24_ n25_ n26_ n27_ n28_ n29_ n30_
   have hHeld : z4 w33 gb527 (.bool a0_0) (.slice A0_1 l0_1.length c0_1) (.int .i64 a0_2) (w33.cell? ⟨gb527, 3, none⟩ = some (.bool a0_3) ∧ w33.cell? ⟨gb527, 4, none⟩ = some (.slice A0_4 l0_4.length c0_4) ∧ w33.cell? ⟨gb527, 5, none⟩ = some (.int .i64 a0_5)) := hS_
   obtain ⟨Ao34, co34, eo34⟩ := R_slice HO538.out
   (first | subst eo34 | (injection eo34 with f1_ f2_ f3_; have f4_ := f1_.symm; have f5_ := f3_.symm; clear f1_ f2_ f3_; subst f4_; subst f5_))
   obtain ⟨Ao37, co37, eo37⟩ := R_slice HO542.out
   (first | subst eo37 | (injection eo37 with f1_ f2_ f3_; have f4_ := f1_.symm; have f5_ := f3_.symm; clear f1_ f2_ f3_; subst f4_; subst f5_))
   refine norm_ (a' := ?_) ?_ ?_
   rotate_left
   ·simp only [putAll, Act.put, List.setIfInBounds_toArray, List.set_cons_zero, List.set_cons_succ]
    rfl
   refine one_ (i := 8) (N := none) #[true, true, true, true, true, true, true, true, true, false] rfl rfl (one_of HT_.out (by kernel_rfl)) (by decide) (fun K hK => ?_)
   have hs35 : w33.cell? ⟨gb544, 0, none⟩ = some (.slice none 0 0) := (blk_cell BK544.out 0).trans rfl
   have hfs35 := blk_frozen BK544.out 0
   have hns35_0 := NB527_544.out
   have hns35_1 := NB528_544.out
   have hns35_2 := NB534_544.out
   have hns35_3 := NB535_544.out
   have hns35_5 := NB545_544.out
   have hms35_0 := NB544_527.out
   have hms35_1 := NB544_528.out
   have hms35_2 := NB544_534.out
   have hms35_3 := NB544_535.out
   have hms35_5 := NB544_545.out
   have hs36 : w33.cell? ⟨gb544, 1, none⟩ = some (.int .i64 0) := (blk_cell BK544.out 1).trans rfl
   have hfs36 := blk_frozen BK544.out 1
   have hns36_0 := NB527_544.out
   have hns36_1 := NB528_544.out
   have hns36_2 := NB534_544.out
   have hns36_3 := NB535_544.out
   have hns36_5 := NB545_544.out
   have hms36_0 := NB544_527.out
   have hms36_1 := NB544_528.out
   have hms36_2 := NB544_534.out
   have hms36_3 := NB544_535.out
   have hms36_5 := NB544_545.out
   refine skip_ (w1 := ?_) (by rfl) rfl ?_ ?_
   rotate_left
   ·go_simp
    rfl
   refine hK.out _ _ ⟨((cell_far (p := ⟨gb544, _, none⟩) NB527_544.out _).trans (((cell_far (p := ⟨gb544, _, none⟩) NB527_544.out _).trans (hHeld.1)))), ((cell_far (p := ⟨gb544, _, none⟩) NB527_544.out _).trans (((cell_far (p := ⟨gb544, _, none⟩) NB527_544.out _).trans (hHeld.2.1)))), ((cell_far (p := ⟨gb544, _, none⟩) NB527_544.out _).trans (((cell_far (p := ⟨gb544, _, none⟩) NB527_544.out _).trans (hHeld.2.2.1)))), ((cell_far (p := ⟨gb544, _, none⟩) NB527_544.out _).trans (((cell_far (p := ⟨gb544, _, none⟩) NB527_544.out _).trans (hHeld.2.2.2.1)))), ((cell_far (p := ⟨gb544, _, none⟩) NB527_544.out _).trans (((cell_far (p := ⟨gb544, _, none⟩) NB527_544.out _).trans (hHeld.2.2.2.2.1)))), ((cell_far (p := ⟨gb544, _, none⟩) NB527_544.out _).trans (((cell_far (p := ⟨gb544, _, none⟩) NB527_544.out _).trans (hHeld.2.2.2.2.2))))⟩ (fun hHeld => ?_)
   clear hK K
   refine one_ (i := 9) (N := none) #[true, true, true, true, true, true, true, true, true, true] rfl rfl (one_of HT_.out (by kernel_rfl)) (by decide) (fun K hK => ?_)
   have hs38 : w33.cell? ⟨gb545, 0, none⟩ = some (.slice none 0 0) := (blk_cell BK545.out 0).trans rfl
   have hfs38 := blk_frozen BK545.out 0
   have hns38_0 := NB527_545.out
   have hns38_1 := NB528_545.out
   have hns38_2 := NB534_545.out
   have hns38_3 := NB535_545.out
   have hns38_4 := NB544_545.out
   have hms38_0 := NB545_527.out
   have hms38_1 := NB545_528.out
   have hms38_2 := NB545_534.out
   have hms38_3 := NB545_535.out
   have hms38_4 := NB545_544.out
   have hs39 : w33.cell? ⟨gb545, 1, none⟩ = some (.int .i64 0) := (blk_cell BK545.out 1).trans rfl
   have hfs39 := blk_frozen BK545.out 1
   have hns39_0 := NB527_545.out
   have hns39_1 := NB528_545.out
   have hns39_2 := NB534_545.out
   have hns39_3 := NB535_545.out
   have hns39_4 := NB544_545.out
   have hms39_0 := NB545_527.out
   have hms39_1 := NB545_528.out
   have hms39_2 := NB545_534.out
   have hms39_3 := NB545_535.out
   have hms39_4 := NB545_544.out
   refine skip_ (w1 := ?_) (by rfl) rfl ?_ ?_
   rotate_left
   ·go_simp
    rfl
   refine hK.out _ _ ⟨((cell_far (p := ⟨gb545, _, none⟩) NB527_545.out _).trans (((cell_far (p := ⟨gb545, _, none⟩) NB527_545.out _).trans (hHeld.1)))), ((cell_far (p := ⟨gb545, _, none⟩) NB527_545.out _).trans (((cell_far (p := ⟨gb545, _, none⟩) NB527_545.out _).trans (hHeld.2.1)))), ((cell_far (p := ⟨gb545, _, none⟩) NB527_545.out _).trans (((cell_far (p := ⟨gb545, _, none⟩) NB527_545.out _).trans (hHeld.2.2.1)))), ((cell_far (p := ⟨gb545, _, none⟩) NB527_545.out _).trans (((cell_far (p := ⟨gb545, _, none⟩) NB527_545.out _).trans (hHeld.2.2.2.1)))), ((cell_far (p := ⟨gb545, _, none⟩) NB527_545.out _).trans (((cell_far (p := ⟨gb545, _, none⟩) NB527_545.out _).trans (hHeld.2.2.2.2.1)))), ((cell_far (p := ⟨gb545, _, none⟩) NB527_545.out _).trans (((cell_far (p := ⟨gb545, _, none⟩) NB527_545.out _).trans (hHeld.2.2.2.2.2))))⟩ (fun hHeld => ?_)
   clear hK K
   refine done_ (done_of HT_.out (by kernel_rfl)) ?_
   go_upto_region 6 with (fail)
   go_cut [10] (fun v10 wc => ∃ (kq : Nat) (x10_15 : Bool), v10 = .bool x10_15 ∧ Aside0 (round_Decide.j1 kq x10_15 t530 t531 t532 t533 t540 t543 = some (r1, r2, r3, r4)) ∧ Aside0 (kq ≤ kj2) ∧ Aside0 (Kd.R (Kd.int .u64) 26 wc w.heap.size (fun k_ => some k_ ≠ ((.slice Ao37 t540.length co37) : Value).ownBlock) (.slice Ao34 t536.length co34) t536) ∧ Aside0 (Kd.R (Kd.int .u64) 26 wc w.heap.size (fun k_ => some k_ ≠ ((.slice Ao34 t536.length co34) : Value).ownBlock) (.slice Ao37 t540.length co37) t540) ∧ Aside0 (wc.heap[gb527]? = some (.cells #[.bool a0_0, (.slice A0_1 l0_1.length c0_1), .int .i64 a0_2, .bool a0_3, (.slice A0_4 l0_4.length c0_4), .int .i64 a0_5] 49 (0, 0))) ∧ Aside0 (wc.heap[gb528]? = some (.cells #[.int .u64 x529000_2, .int .u8 x529001_2] 29 (0, 0))) ∧ Aside0 (wc.heap[gb534]? = some (.cells #[.int .u64 t530, .int .u8 t531] 29 (0, 0))) ∧ Aside0 (wc.heap[gb535]? = some (.cells #[.int .u64 t532, .int .u8 t533] 29 (0, 0))) ∧ Aside0 (wc.heap[gb544]? = some (.cells #[(.slice Ao34 t536.length co34), .int .i64 t539] 64 (0, 0))) ∧ Aside0 (wc.heap[gb545]? = some (.cells #[(.slice Ao37 t540.length co37), .int .i64 t543] 64 (0, 0))) ∧ Aside0 (Below w.heap.size w wc))
   case first =>
    have H := HC16.out
    clear HC16
    obtain ⟨t546, A40, H⟩ := zh H
    by_cases c41 : t546 = true
    ·subst c41
     rw [if_pos rfl] at H
     have H' := zA H
     clear H
     have hnb42 := NB544_527.out
     have hnc42 := NB527_544.out
     have hnb43 := NB544_528.out
     have hnc43 := NB528_544.out
     have hnb44 := NB544_534.out
     have hnc44 := NB534_544.out
     have hnb45 := NB544_535.out
     have hnc45 := NB535_544.out
     have hnb46 := NB544_545.out
     have hnc46 := NB545_544.out
     have hcz47_0 : w33.cell? ⟨gb544, 0, none⟩ = some (.slice none 0 0) := (blk_cell BK544.out 0).trans rfl
     have hcz47_1 : w33.cell? ⟨gb544, 1, none⟩ = some (.int .i64 0) := (blk_cell BK544.out 1).trans rfl
     have hfz47_0 := blk_frozen BK544.out 0
     have hfz47_1 := blk_frozen BK544.out 1
     go_wp2_with (first | ((with_reducible refine zG 36 rfl ?_); refine zL (some 31) rfl rfl Tryd.func36 #[.agg #[.slice Ao34 t536.length co34, .int .i64 t539]] rfl ?_; (with_reducible refine (round_amount_tiny.calls kj2 _ _ t536 t539 true _ ?side1 ?side2 (laid_below hT zs) A40.out).mono ?_); (case side1 => refine (R_reads' (e := 26) (base := w.heap.size) (ok := fun k_ => some k_ ≠ (.slice Ao37 t540.length co37 : Value).ownBlock) (n := t536.length) (c := co34) ?_).2.2; exact (ru (R_mono (R_mono (R_far (p := ⟨gb545, 1, none⟩) (R_far (p := ⟨gb545, 0, none⟩) (R_far (p := ⟨gb544, 1, none⟩) (R_far (p := ⟨gb544, 0, none⟩) (R_types (R_types HO538.out BK544.out (by decide)) BK545.out (by decide)) (fun _ hk => hk.1.2) (.slice Ao34 t536.length co34)) (fun _ hk => hk.1.2) (.int .i64 t539)) (fun _ hk => hk.2) (.slice Ao37 t540.length co37)) (fun _ hk => hk.2) (.int .i64 t543)) (fun _ h_ => h_.1)) (fun _ h_ => h_.1)))); (case side2 => exact (R_reads' HO538.out).2.1); rintro e w48 ⟨rfl, hb⟩; refine ⟨_, rfl, ?_⟩; replace HO538 := zA (R_below (ru (R_mono (R_mono (R_far (p := ⟨gb545, 1, none⟩) (R_far (p := ⟨gb545, 0, none⟩) (R_far (p := ⟨gb544, 1, none⟩) (R_far (p := ⟨gb544, 0, none⟩) (R_types (R_types HO538.out BK544.out (by decide)) BK545.out (by decide)) (fun _ hk => hk.1.2) (.slice Ao34 t536.length co34)) (fun _ hk => hk.1.2) (.int .i64 t539)) (fun _ hk => hk.2) (.slice Ao37 t540.length co37)) (fun _ hk => hk.2) (.int .i64 t543)) (fun _ h_ => h_.1)) (fun _ h_ => h_.1))) hb); replace HO542 := zA (R_below (ru (R_mono (R_mono (R_far (p := ⟨gb545, 1, none⟩) (R_far (p := ⟨gb545, 0, none⟩) (R_far (p := ⟨gb544, 1, none⟩) (R_far (p := ⟨gb544, 0, none⟩) (R_types (R_types HO542.out BK544.out (by decide)) BK545.out (by decide)) (fun _ hk => hk.1.2) (.slice Ao34 t536.length co34)) (fun _ hk => hk.1.2) (.int .i64 t539)) (fun _ hk => hk.2) (.slice Ao37 t540.length co37)) (fun _ hk => hk.2) (.int .i64 t543)) (fun _ h_ => h_.1)) (fun _ h_ => h_.1))) hb); replace BK527 := zF BK527 hb; replace BK528 := zF BK528 hb; replace BK534 := zF BK534 hb; replace BK535 := zF BK535 hb; replace BK544 := zA (blk_below (g := gb544) (o := .cells #[.slice Ao34 t536.length co34, .int .i64 t539] 64 (0, 0)) (by (with_reducible repeat (first | refine blk_drewN ?_ _ | refine blk_drew ?_ | refine blk_alloc ?_ _)); refine blk_far ?_ NB544_545.out _; refine blk_far ?_ NB544_545.out _; refine blk_put (cs := #[.slice Ao34 t536.length co34, .int .i64 0]) ?_ 1 _ rfl; refine blk_put (cs := #[.slice none 0 0, .int .i64 0]) ?_ 0 _ rfl; exact BK544.out) hb); replace BK545 := zA (blk_below (g := gb545) (o := .cells #[.slice Ao37 t540.length co37, .int .i64 t543] 64 (0, 0)) (by (with_reducible repeat (first | refine blk_drewN ?_ _ | refine blk_drew ?_ | refine blk_alloc ?_ _)); refine blk_put (cs := #[.slice Ao37 t540.length co37, .int .i64 0]) ?_ 1 _ rfl; refine blk_put (cs := #[.slice none 0 0, .int .i64 0]) ?_ 0 _ rfl; refine blk_far ?_ NB545_544.out _; refine blk_far ?_ NB545_544.out _; exact BK545.out) hb); replace HB := zf hb; (try clear hk)))
     go_meet
     case rel => exact ⟨_, (true), zi, H', ⟨by have := HJ2.out; first | omega | exact Nat.le_refl _⟩, ⟨ru HO538.out⟩, ⟨ru HO542.out⟩, ⟨zu BK527⟩, ⟨zu BK528⟩, ⟨zu BK534⟩, ⟨zu BK535⟩, ⟨zu BK544⟩, ⟨zu BK545⟩, ⟨zs⟩⟩
    replace c41 := Bool.eq_false_iff.mpr c41
    subst c41
    rw [if_neg (show ¬ (false = true) by decide)] at H
    obtain ⟨t547, A49, H⟩ := zh H
    have H' := zA H
    clear H
    have hnb50 := NB544_527.out
    have hnc50 := NB527_544.out
    have hnb51 := NB544_528.out
    have hnc51 := NB528_544.out
    have hnb52 := NB544_534.out
    have hnc52 := NB534_544.out
    have hnb53 := NB544_535.out
    have hnc53 := NB535_544.out
    have hnb54 := NB544_545.out
    have hnc54 := NB545_544.out
    have hcz55_0 : w33.cell? ⟨gb544, 0, none⟩ = some (.slice none 0 0) := (blk_cell BK544.out 0).trans rfl
    have hcz55_1 : w33.cell? ⟨gb544, 1, none⟩ = some (.int .i64 0) := (blk_cell BK544.out 1).trans rfl
    have hfz55_0 := blk_frozen BK544.out 0
    have hfz55_1 := blk_frozen BK544.out 1
    go_wp2_with (first | ((with_reducible refine zG 36 rfl ?_); refine zL (some 31) rfl rfl Tryd.func36 #[.agg #[.slice Ao34 t536.length co34, .int .i64 t539]] rfl ?_; (with_reducible refine (round_amount_tiny.calls kj2 _ _ t536 t539 false _ ?side1 ?side2 (laid_below hT zs) A40.out).mono ?_); (case side1 => refine (R_reads' (e := 26) (base := w.heap.size) (ok := fun k_ => some k_ ≠ (.slice Ao37 t540.length co37 : Value).ownBlock) (n := t536.length) (c := co34) ?_).2.2; exact (ru (R_mono (R_mono (R_far (p := ⟨gb545, 1, none⟩) (R_far (p := ⟨gb545, 0, none⟩) (R_far (p := ⟨gb544, 1, none⟩) (R_far (p := ⟨gb544, 0, none⟩) (R_types (R_types HO538.out BK544.out (by decide)) BK545.out (by decide)) (fun _ hk => hk.1.2) (.slice Ao34 t536.length co34)) (fun _ hk => hk.1.2) (.int .i64 t539)) (fun _ hk => hk.2) (.slice Ao37 t540.length co37)) (fun _ hk => hk.2) (.int .i64 t543)) (fun _ h_ => h_.1)) (fun _ h_ => h_.1)))); (case side2 => exact (R_reads' HO538.out).2.1); rintro e w56 ⟨rfl, hb⟩; refine ⟨_, rfl, ?_⟩; replace HO538 := zA (R_below (ru (R_mono (R_mono (R_far (p := ⟨gb545, 1, none⟩) (R_far (p := ⟨gb545, 0, none⟩) (R_far (p := ⟨gb544, 1, none⟩) (R_far (p := ⟨gb544, 0, none⟩) (R_types (R_types HO538.out BK544.out (by decide)) BK545.out (by decide)) (fun _ hk => hk.1.2) (.slice Ao34 t536.length co34)) (fun _ hk => hk.1.2) (.int .i64 t539)) (fun _ hk => hk.2) (.slice Ao37 t540.length co37)) (fun _ hk => hk.2) (.int .i64 t543)) (fun _ h_ => h_.1)) (fun _ h_ => h_.1))) hb); replace HO542 := zA (R_below (ru (R_mono (R_mono (R_far (p := ⟨gb545, 1, none⟩) (R_far (p := ⟨gb545, 0, none⟩) (R_far (p := ⟨gb544, 1, none⟩) (R_far (p := ⟨gb544, 0, none⟩) (R_types (R_types HO542.out BK544.out (by decide)) BK545.out (by decide)) (fun _ hk => hk.1.2) (.slice Ao34 t536.length co34)) (fun _ hk => hk.1.2) (.int .i64 t539)) (fun _ hk => hk.2) (.slice Ao37 t540.length co37)) (fun _ hk => hk.2) (.int .i64 t543)) (fun _ h_ => h_.1)) (fun _ h_ => h_.1))) hb); replace BK527 := zF BK527 hb; replace BK528 := zF BK528 hb; replace BK534 := zF BK534 hb; replace BK535 := zF BK535 hb; replace BK544 := zA (blk_below (g := gb544) (o := .cells #[.slice Ao34 t536.length co34, .int .i64 t539] 64 (0, 0)) (by (with_reducible repeat (first | refine blk_drewN ?_ _ | refine blk_drew ?_ | refine blk_alloc ?_ _)); refine blk_far ?_ NB544_545.out _; refine blk_far ?_ NB544_545.out _; refine blk_put (cs := #[.slice Ao34 t536.length co34, .int .i64 0]) ?_ 1 _ rfl; refine blk_put (cs := #[.slice none 0 0, .int .i64 0]) ?_ 0 _ rfl; exact BK544.out) hb); replace BK545 := zA (blk_below (g := gb545) (o := .cells #[.slice Ao37 t540.length co37, .int .i64 t543] 64 (0, 0)) (by (with_reducible repeat (first | refine blk_drewN ?_ _ | refine blk_drew ?_ | refine blk_alloc ?_ _)); refine blk_put (cs := #[.slice Ao37 t540.length co37, .int .i64 0]) ?_ 1 _ rfl; refine blk_put (cs := #[.slice none 0 0, .int .i64 0]) ?_ 0 _ rfl; refine blk_far ?_ NB545_544.out _; refine blk_far ?_ NB545_544.out _; exact BK545.out) hb); replace HB := zf hb; (try clear hk); have hcz57_0 : w56.cell? ⟨gb544, 0, none⟩ = some (.slice Ao34 t536.length co34) := (blk_cell BK544.out 0).trans rfl; have hcz57_1 : w56.cell? ⟨gb544, 1, none⟩ = some (.int .i64 t539) := (blk_cell BK544.out 1).trans rfl; have hfz57_0 := blk_frozen BK544.out 0; have hfz57_1 := blk_frozen BK544.out 1) | (go_at_call 50; (with_reducible refine (round_amount_zero.calls _ _ t536 t539 t547 _ ?side1 ?side2 A49.out).mono ?_); (case side1 => exact zk (R_reads' HO538.out).2.2); (case side2 => exact (R_reads' HO538.out).2.1); rintro e w58 ⟨rfl, hb⟩; replace HO538 := zA (R_below (ru HO538.out) hb); replace HO542 := zA (R_below (ru HO542.out) hb); replace BK527 := zb BK527 hb; replace BK528 := zb BK528 hb; replace BK534 := zb BK534 hb; replace BK535 := zb BK535 hb; replace BK544 := zb BK544 hb; replace BK545 := zb BK545 hb; replace HB := zf hb))
    go_meet
    case rel => exact ⟨_, (t547), zi, H', ⟨by have := HJ2.out; first | omega | exact Nat.le_refl _⟩, ⟨ru HO538.out⟩, ⟨ru HO542.out⟩, ⟨zu BK527⟩, ⟨zu BK528⟩, ⟨zu BK534⟩, ⟨zu BK535⟩, ⟨zu BK544⟩, ⟨zu BK545⟩, ⟨zs⟩⟩
   case rest =>
    clear HC16
    try clear c41
    try clear hcz47_0 hcz47_1 hfz47_0 hfz47_1
    try clear hcz55_0 hcz55_1 hfz55_0 hfz55_1
    try clear hcz57_0 hcz57_1 hfz57_0 hfz57_1
    obtain ⟨kq, x10_15, rfl, HA, HJ15, HO_545000, HO_546000, BK527, BK528, BK534, BK535, BK544, BK545, HB⟩ := hcut
    cases kq with
    | zero => exact absurd HA.out (by simp [round_Decide.j1])
    | succ kj15 =>
     have H := HA.out
     clear HA
     simp only [round_Decide.j1] at H
     have HC59 := zA H
     clear H
     go_upto_region 7 with (fail)
     go_cut [50] (fun v50 wc => ∃ (kq : Nat) (x50_58 : Bool), v50 = .bool x50_58 ∧ Aside0 (round_Decide.j2 kq x10_15 x50_58 t530 t531 = some (r1, r2, r3, r4)) ∧ Aside0 (kq ≤ kj15) ∧ Aside0 (Kd.R (Kd.int .u64) 26 wc w.heap.size (fun k_ => some k_ ≠ ((.slice Ao37 t540.length co37) : Value).ownBlock) (.slice Ao34 t536.length co34) t536) ∧ Aside0 (Kd.R (Kd.int .u64) 26 wc w.heap.size (fun k_ => some k_ ≠ ((.slice Ao34 t536.length co34) : Value).ownBlock) (.slice Ao37 t540.length co37) t540) ∧ Aside0 (wc.heap[gb527]? = some (.cells #[.bool a0_0, (.slice A0_1 l0_1.length c0_1), .int .i64 a0_2, .bool a0_3, (.slice A0_4 l0_4.length c0_4), .int .i64 a0_5] 49 (0, 0))) ∧ Aside0 (wc.heap[gb528]? = some (.cells #[.int .u64 x529000_2, .int .u8 x529001_2] 29 (0, 0))) ∧ Aside0 (wc.heap[gb534]? = some (.cells #[.int .u64 t530, .int .u8 t531] 29 (0, 0))) ∧ Aside0 (wc.heap[gb535]? = some (.cells #[.int .u64 t532, .int .u8 t533] 29 (0, 0))) ∧ Aside0 (wc.heap[gb544]? = some (.cells #[(.slice Ao34 t536.length co34), .int .i64 t539] 64 (0, 0))) ∧ Aside0 (wc.heap[gb545]? = some (.cells #[(.slice Ao37 t540.length co37), .int .i64 t543] 64 (0, 0))) ∧ Aside0 (Below w.heap.size w wc))
     case first =>
      have H := HC59.out
      clear HC59
      by_cases c60 : t530 = t532
      ·rw [if_pos c60] at H
       have c60b0 := beq_iff_eq.mpr c60
       have c60b1 := bne_eq_false_iff_eq.mpr c60
       clear c60
       (first | rw [c60b0] | (simp only [i64_w, i32_w]; rw [c60b0]) | skip)
       obtain ⟨t548, A61, H⟩ := zh H
       by_cases c62 : t548 = true
       ·subst c62
        rw [if_pos rfl] at H
        have H' := zA H
        clear H
        have hnb63 := NB534_527.out
        have hnc63 := NB527_534.out
        have hnb64 := NB534_528.out
        have hnc64 := NB528_534.out
        have hnb65 := NB534_535.out
        have hnc65 := NB535_534.out
        have hnb66 := NB534_544.out
        have hnc66 := NB544_534.out
        have hnb67 := NB534_545.out
        have hnc67 := NB545_534.out
        have hcz68_0 : wc.cell? ⟨gb534, 0, none⟩ = some (.int .u64 t530) := (blk_cell BK534.out 0).trans rfl
        have hcz68_1 : wc.cell? ⟨gb534, 1, none⟩ = some (.int .u8 t531) := (blk_cell BK534.out 1).trans rfl
        have hfz68_0 := blk_frozen BK534.out 0
        have hfz68_1 := blk_frozen BK534.out 1
        have hnb69 := NB535_527.out
        have hnc69 := NB527_535.out
        have hnb70 := NB535_528.out
        have hnc70 := NB528_535.out
        have hnb71 := NB535_544.out
        have hnc71 := NB544_535.out
        have hnb72 := NB535_545.out
        have hnc72 := NB545_535.out
        have hcz73_0 : wc.cell? ⟨gb535, 0, none⟩ = some (.int .u64 t532) := (blk_cell BK535.out 0).trans rfl
        have hcz73_1 : wc.cell? ⟨gb535, 1, none⟩ = some (.int .u8 t533) := (blk_cell BK535.out 1).trans rfl
        have hfz73_0 := blk_frozen BK535.out 0
        have hfz73_1 := blk_frozen BK535.out 1
        have hnb74 := NB545_527.out
        have hnc74 := NB527_545.out
        have hnb75 := NB545_528.out
        have hnc75 := NB528_545.out
        have hnb76 := NB545_544.out
        have hnc76 := NB544_545.out
        have hcz77_0 : wc.cell? ⟨gb545, 0, none⟩ = some (.slice Ao37 t540.length co37) := (blk_cell BK545.out 0).trans rfl
        have hcz77_1 : wc.cell? ⟨gb545, 1, none⟩ = some (.int .i64 t543) := (blk_cell BK545.out 1).trans rfl
        have hfz77_0 := blk_frozen BK545.out 0
        have hfz77_1 := blk_frozen BK545.out 1
        go_wp2_with (first | (go_at_call 36; (with_reducible refine (round_amount_tiny.calls kj15 _ _ t540 t543 true _ ?side1 ?side2 (laid_below hT zs) A61.out).mono ?_); (case side1 => exact zk (R_reads' HO_546000.out).2.2); (case side2 => exact (R_reads' HO_546000.out).2.1); rintro e w78 ⟨rfl, hb⟩; replace HO_545000 := zA (R_below (ru HO_545000.out) hb); replace HO_546000 := zA (R_below (ru HO_546000.out) hb); replace BK527 := zb BK527 hb; replace BK528 := zb BK528 hb; replace BK534 := zb BK534 hb; replace BK535 := zb BK535 hb; replace BK544 := zb BK544 hb; replace BK545 := zb BK545 hb; replace HB := zf hb))
        go_meet
        case rel => exact ⟨_, ((x10_15 != true)), zi, H', ⟨by have := HJ2.out; have := HJ15.out; first | omega | exact Nat.le_refl _⟩, ⟨ru HO_545000.out⟩, ⟨ru HO_546000.out⟩, ⟨zu BK527⟩, ⟨zu BK528⟩, ⟨zu BK534⟩, ⟨zu BK535⟩, ⟨zu BK544⟩, ⟨zu BK545⟩, ⟨zs⟩⟩
       replace c62 := Bool.eq_false_iff.mpr c62
       subst c62
       rw [if_neg (show ¬ (false = true) by decide)] at H
       obtain ⟨t549, A79, H⟩ := zh H
       have H' := zA H
       clear H
       have hnb80 := NB534_527.out
       have hnc80 := NB527_534.out
       have hnb81 := NB534_528.out
       have hnc81 := NB528_534.out
       have hnb82 := NB534_535.out
       have hnc82 := NB535_534.out
       have hnb83 := NB534_544.out
       have hnc83 := NB544_534.out
       have hnb84 := NB534_545.out
       have hnc84 := NB545_534.out
       have hcz85_0 : wc.cell? ⟨gb534, 0, none⟩ = some (.int .u64 t530) := (blk_cell BK534.out 0).trans rfl
       have hcz85_1 : wc.cell? ⟨gb534, 1, none⟩ = some (.int .u8 t531) := (blk_cell BK534.out 1).trans rfl
       have hfz85_0 := blk_frozen BK534.out 0
       have hfz85_1 := blk_frozen BK534.out 1
       have hnb86 := NB535_527.out
       have hnc86 := NB527_535.out
       have hnb87 := NB535_528.out
       have hnc87 := NB528_535.out
       have hnb88 := NB535_544.out
       have hnc88 := NB544_535.out
       have hnb89 := NB535_545.out
       have hnc89 := NB545_535.out
       have hcz90_0 : wc.cell? ⟨gb535, 0, none⟩ = some (.int .u64 t532) := (blk_cell BK535.out 0).trans rfl
       have hcz90_1 : wc.cell? ⟨gb535, 1, none⟩ = some (.int .u8 t533) := (blk_cell BK535.out 1).trans rfl
       have hfz90_0 := blk_frozen BK535.out 0
       have hfz90_1 := blk_frozen BK535.out 1
       have hnb91 := NB545_527.out
       have hnc91 := NB527_545.out
       have hnb92 := NB545_528.out
       have hnc92 := NB528_545.out
       have hnb93 := NB545_544.out
       have hnc93 := NB544_545.out
       have hcz94_0 : wc.cell? ⟨gb545, 0, none⟩ = some (.slice Ao37 t540.length co37) := (blk_cell BK545.out 0).trans rfl
       have hcz94_1 : wc.cell? ⟨gb545, 1, none⟩ = some (.int .i64 t543) := (blk_cell BK545.out 1).trans rfl
       have hfz94_0 := blk_frozen BK545.out 0
       have hfz94_1 := blk_frozen BK545.out 1
       go_wp2_with (first | (go_at_call 36; (with_reducible refine (round_amount_tiny.calls kj15 _ _ t540 t543 false _ ?side1 ?side2 (laid_below hT zs) A61.out).mono ?_); (case side1 => exact zk (R_reads' HO_546000.out).2.2); (case side2 => exact (R_reads' HO_546000.out).2.1); rintro e w95 ⟨rfl, hb⟩; replace HO_545000 := zA (R_below (ru HO_545000.out) hb); replace HO_546000 := zA (R_below (ru HO_546000.out) hb); replace BK527 := zb BK527 hb; replace BK528 := zb BK528 hb; replace BK534 := zb BK534 hb; replace BK535 := zb BK535 hb; replace BK544 := zb BK544 hb; replace BK545 := zb BK545 hb; replace HB := zf hb; have hcz96_0 : w95.cell? ⟨gb545, 0, none⟩ = some (.slice Ao37 t540.length co37) := (blk_cell BK545.out 0).trans rfl; have hcz96_1 : w95.cell? ⟨gb545, 1, none⟩ = some (.int .i64 t543) := (blk_cell BK545.out 1).trans rfl; have hfz96_0 := blk_frozen BK545.out 0; have hfz96_1 := blk_frozen BK545.out 1) | (go_at_call 50; (with_reducible refine (round_amount_zero.calls _ _ t540 t543 t549 _ ?side1 ?side2 A79.out).mono ?_); (case side1 => exact zk (R_reads' HO_546000.out).2.2); (case side2 => exact (R_reads' HO_546000.out).2.1); rintro e w97 ⟨rfl, hb⟩; replace HO_545000 := zA (R_below (ru HO_545000.out) hb); replace HO_546000 := zA (R_below (ru HO_546000.out) hb); replace BK527 := zb BK527 hb; replace BK528 := zb BK528 hb; replace BK534 := zb BK534 hb; replace BK535 := zb BK535 hb; replace BK544 := zb BK544 hb; replace BK545 := zb BK545 hb; replace HB := zf hb))
       go_meet
       case rel => exact ⟨_, ((x10_15 != t549)), zi, H', ⟨by have := HJ2.out; have := HJ15.out; first | omega | exact Nat.le_refl _⟩, ⟨ru HO_545000.out⟩, ⟨ru HO_546000.out⟩, ⟨zu BK527⟩, ⟨zu BK528⟩, ⟨zu BK534⟩, ⟨zu BK535⟩, ⟨zu BK544⟩, ⟨zu BK545⟩, ⟨zs⟩⟩
      rw [if_neg c60] at H
      have c60b0 := beq_eq_false_iff_ne.mpr c60
      have c60b1 := bne_iff_ne.mpr c60
      (first | rw [c60b0] | (simp only [i64_w, i32_w]; rw [c60b0]) | skip)
      have H' := zA H
      clear H
      have hnb98 := NB534_527.out
      have hnc98 := NB527_534.out
      have hnb99 := NB534_528.out
      have hnc99 := NB528_534.out
      have hnb100 := NB534_535.out
      have hnc100 := NB535_534.out
      have hnb101 := NB534_544.out
      have hnc101 := NB544_534.out
      have hnb102 := NB534_545.out
      have hnc102 := NB545_534.out
      have hcz103_0 : wc.cell? ⟨gb534, 0, none⟩ = some (.int .u64 t530) := (blk_cell BK534.out 0).trans rfl
      have hcz103_1 : wc.cell? ⟨gb534, 1, none⟩ = some (.int .u8 t531) := (blk_cell BK534.out 1).trans rfl
      have hfz103_0 := blk_frozen BK534.out 0
      have hfz103_1 := blk_frozen BK534.out 1
      have hnb104 := NB535_527.out
      have hnc104 := NB527_535.out
      have hnb105 := NB535_528.out
      have hnc105 := NB528_535.out
      have hnb106 := NB535_544.out
      have hnc106 := NB544_535.out
      have hnb107 := NB535_545.out
      have hnc107 := NB545_535.out
      have hcz108_0 : wc.cell? ⟨gb535, 0, none⟩ = some (.int .u64 t532) := (blk_cell BK535.out 0).trans rfl
      have hcz108_1 : wc.cell? ⟨gb535, 1, none⟩ = some (.int .u8 t533) := (blk_cell BK535.out 1).trans rfl
      have hfz108_0 := blk_frozen BK535.out 0
      have hfz108_1 := blk_frozen BK535.out 1
      go_wp2
      go_meet
      case rel => exact ⟨_, (true), zi, H', ⟨by have := HJ2.out; have := HJ15.out; first | omega | exact Nat.le_refl _⟩, ⟨ru HO_545000.out⟩, ⟨ru HO_546000.out⟩, ⟨zu BK527⟩, ⟨zu BK528⟩, ⟨zu BK534⟩, ⟨zu BK535⟩, ⟨zu BK544⟩, ⟨zu BK545⟩, ⟨zs⟩⟩
     case rest =>
      clear HC59
      try clear c9
      try clear c41
      try clear c60
      try clear c60b0
      try clear c60b1
      try clear c62
      try clear hcz103_0 hcz103_1 hfz103_0 hfz103_1
      try clear hcz108_0 hcz108_1 hfz108_0 hfz108_1
      try clear hcz47_0 hcz47_1 hfz47_0 hfz47_1
      try clear hcz55_0 hcz55_1 hfz55_0 hfz55_1
      try clear hcz57_0 hcz57_1 hfz57_0 hfz57_1
      try clear hcz68_0 hcz68_1 hfz68_0 hfz68_1
      try clear hcz73_0 hcz73_1 hfz73_0 hfz73_1
      try clear hcz77_0 hcz77_1 hfz77_0 hfz77_1
      try clear hcz85_0 hcz85_1 hfz85_0 hfz85_1
      try clear hcz90_0 hcz90_1 hfz90_0 hfz90_1
      try clear hcz94_0 hcz94_1 hfz94_0 hfz94_1
      try clear hcz96_0 hcz96_1 hfz96_0 hfz96_1
      obtain ⟨kq, x50_58, rfl, HA, HJ58, HO_545000, HO_546000, BK527, BK528, BK534, BK535, BK544, BK545, HB⟩ := hcut
      cases kq with
      | zero => exact absurd HA.out (by simp [round_Decide.j2])
      | succ kj58 =>
       have H := HA.out
       clear HA
       simp only [round_Decide.j2] at H
       have HC109 := zA H
       clear H
       go_upto_if 50 with (fail)
       go_cut [] (fun wc => ∃ (kq : Nat) (x529000_108 : Int) (x529001_108 : Int), Aside0 (round_Decide.j3 kq x10_15 t530 t531 = some (r1, r2, r3, r4)) ∧ Aside0 (kq ≤ kj58) ∧ Aside0 (Kd.R (Kd.int .u64) 26 wc w.heap.size (fun k_ => some k_ ≠ ((.slice Ao37 t540.length co37) : Value).ownBlock) (.slice Ao34 t536.length co34) t536) ∧ Aside0 (Kd.R (Kd.int .u64) 26 wc w.heap.size (fun k_ => some k_ ≠ ((.slice Ao34 t536.length co34) : Value).ownBlock) (.slice Ao37 t540.length co37) t540) ∧ Aside0 (wc.heap[gb527]? = some (.cells #[.bool a0_0, (.slice A0_1 l0_1.length c0_1), .int .i64 a0_2, .bool a0_3, (.slice A0_4 l0_4.length c0_4), .int .i64 a0_5] 49 (0, 0))) ∧ Aside0 (wc.heap[gb528]? = some (.cells #[.int .u64 x529000_108, .int .u8 x529001_108] 29 (0, 0))) ∧ Aside0 (wc.heap[gb534]? = some (.cells #[.int .u64 t530, .int .u8 t531] 29 (0, 0))) ∧ Aside0 (wc.heap[gb535]? = some (.cells #[.int .u64 t532, .int .u8 t533] 29 (0, 0))) ∧ Aside0 (wc.heap[gb544]? = some (.cells #[(.slice Ao34 t536.length co34), .int .i64 t539] 64 (0, 0))) ∧ Aside0 (wc.heap[gb545]? = some (.cells #[(.slice Ao37 t540.length co37), .int .i64 t543] 64 (0, 0))) ∧ Aside0 (Below w.heap.size w wc))
       case first =>
        have H := HC109.out
        clear HC109
        by_cases c110 : x50_58 = true
        ·subst c110
         rw [if_pos rfl] at H
         simp only [Option.some.injEq, Prod.mk.injEq] at H
         obtain ⟨rfl, rfl, rfl, rfl⟩ := H
         have hnb111 := NB528_527.out
         have hnc111 := NB527_528.out
         have hnb112 := NB528_534.out
         have hnc112 := NB534_528.out
         have hnb113 := NB528_535.out
         have hnc113 := NB535_528.out
         have hnb114 := NB528_544.out
         have hnc114 := NB544_528.out
         have hnb115 := NB528_545.out
         have hnc115 := NB545_528.out
         have hcz116_0 : wc.cell? ⟨gb528, 0, none⟩ = some (.int .u64 x529000_2) := (blk_cell BK528.out 0).trans rfl
         have hcz116_1 : wc.cell? ⟨gb528, 1, none⟩ = some (.int .u8 x529001_2) := (blk_cell BK528.out 1).trans rfl
         have hfz116_0 := blk_frozen BK528.out 0
         have hfz116_1 := blk_frozen BK528.out 1
         go_wp2
         refine bodyPost_ret (results_ctt rfl _ _ gb528 29 #[.int .u64 0, .int .u8 0] (0, 0) _ rfl (by (with_reducible repeat (first | refine blk_drewN ?_ _ | refine blk_drew ?_ | refine blk_alloc ?_ _)); refine blk_put (cs := #[.int .u64 0, .int .u8 x529001_2]) ?_ 1 _ rfl; refine blk_put (cs := #[.int .u64 x529000_2, .int .u8 x529001_2]) ?_ 0 _ rfl; exact BK528.out) Tryd.underlying29 rfl (by kernel_rfl)) rfl ?_
         exact ⟨er, zs⟩
        replace c110 := Bool.eq_false_iff.mpr c110
        subst c110
        rw [if_neg (show ¬ (false = true) by decide)] at H
        have H' := zA H
        clear H
        go_wp2
        go_meet
        case rel => exact ⟨_, (x529000_2), (x529001_2), H', ⟨by have := HJ2.out; have := HJ15.out; have := HJ58.out; first | omega | exact Nat.le_refl _⟩, ⟨ru HO_545000.out⟩, ⟨ru HO_546000.out⟩, ⟨zu BK527⟩, ⟨zu BK528⟩, ⟨zu BK534⟩, ⟨zu BK535⟩, ⟨zu BK544⟩, ⟨zu BK545⟩, ⟨zs⟩⟩
       case rest =>
        clear HC109
        try clear c9
        try clear c41
        try clear c60
        try clear c60b0
        try clear c60b1
        try clear c62
        try clear c110
        try clear hcz103_0 hcz103_1 hfz103_0 hfz103_1
        try clear hcz108_0 hcz108_1 hfz108_0 hfz108_1
        try clear hcz116_0 hcz116_1 hfz116_0 hfz116_1
        try clear hcz47_0 hcz47_1 hfz47_0 hfz47_1
        try clear hcz55_0 hcz55_1 hfz55_0 hfz55_1
        try clear hcz57_0 hcz57_1 hfz57_0 hfz57_1
        try clear hcz68_0 hcz68_1 hfz68_0 hfz68_1
        try clear hcz73_0 hcz73_1 hfz73_0 hfz73_1
        try clear hcz77_0 hcz77_1 hfz77_0 hfz77_1
        try clear hcz85_0 hcz85_1 hfz85_0 hfz85_1
        try clear hcz90_0 hcz90_1 hfz90_0 hfz90_1
        try clear hcz94_0 hcz94_1 hfz94_0 hfz94_1
        try clear hcz96_0 hcz96_1 hfz96_0 hfz96_1
        obtain ⟨kq, x529000_108, x529001_108, HA, HJ108, HO_545000, HO_546000, BK527, BK528, BK534, BK535, BK544, BK545, HB⟩ := hcut
        cases kq with
        | zero => exact absurd HA.out (by simp [round_Decide.j3])
        | succ kj108 =>
         have H := HA.out
         clear HA
         simp only [round_Decide.j3] at H
         obtain ⟨t551, A117, H⟩ := zh H
         by_cases c118 : t551 = 9218868437227405312
         ·rw [if_pos c118] at H
          have c118b0 := beq_iff_eq.mpr c118
          have c118b1 := bne_eq_false_iff_eq.mpr c118
          clear c118
          simp only [Option.some.injEq, Prod.mk.injEq] at H
          obtain ⟨rfl, rfl, rfl, rfl⟩ := H
          have hnb119 := NB534_527.out
          have hnc119 := NB527_534.out
          have hnb120 := NB534_528.out
          have hnc120 := NB528_534.out
          have hnb121 := NB534_535.out
          have hnc121 := NB535_534.out
          have hnb122 := NB534_544.out
          have hnc122 := NB544_534.out
          have hnb123 := NB534_545.out
          have hnc123 := NB545_534.out
          have hcz124_0 : wc.cell? ⟨gb534, 0, none⟩ = some (.int .u64 t530) := (blk_cell BK534.out 0).trans rfl
          have hcz124_1 : wc.cell? ⟨gb534, 1, none⟩ = some (.int .u8 t531) := (blk_cell BK534.out 1).trans rfl
          have hfz124_0 := blk_frozen BK534.out 0
          have hfz124_1 := blk_frozen BK534.out 1
          go_wp2_with (first | ((with_reducible refine zD 11 rfl ?_); refine zn (N := 11) (cs := #[.int .u64 0, .int .u8 0]) (t := 29) rfl rfl ?_; intro gb550 hg w125 hbox hb; replace HO_545000 := zA (R_below (ru HO_545000.out) hb); replace HO_546000 := zA (R_below (ru HO_546000.out) hb); have BK550 := zA (hbox); have GW550 := zx hg; have GE550 := zx hg; replace HB := zf hb; have NB527_550 := zl BK527 hg; have NB550_527 := zg BK527 hg; replace BK527 := zb BK527 hb; have NB528_550 := zl BK528 hg; have NB550_528 := zg BK528 hg; replace BK528 := zb BK528 hb; have NB534_550 := zl BK534 hg; have NB550_534 := zg BK534 hg; replace BK534 := zb BK534 hb; have NB535_550 := zl BK535 hg; have NB550_535 := zg BK535 hg; replace BK535 := zb BK535 hb; have NB544_550 := zl BK544 hg; have NB550_544 := zg BK544 hg; replace BK544 := zb BK544 hb; have NB545_550 := zl BK545 hg; have NB550_545 := zg BK545 hg; replace BK545 := zb BK545 hb; clear hb hbox hg; have hnb126 := NB550_527.out; have hnc126 := NB527_550.out; have hnb127 := NB550_528.out; have hnc127 := NB528_550.out; have hnb128 := NB550_534.out; have hnc128 := NB534_550.out; have hnb129 := NB550_535.out; have hnc129 := NB535_550.out; have hnb130 := NB550_544.out; have hnc130 := NB544_550.out; have hnb131 := NB550_545.out; have hnc131 := NB545_550.out; have hcz132_0 : w125.cell? ⟨gb550, 0, none⟩ = some (.int .u64 0) := (blk_cell BK550.out 0).trans rfl; have hcz132_1 : w125.cell? ⟨gb550, 1, none⟩ = some (.int .u8 0) := (blk_cell BK550.out 1).trans rfl; have hfz132_0 := blk_frozen BK550.out 0; have hfz132_1 := blk_frozen BK550.out 1; have hcz133_0 : w125.cell? ⟨gb534, 0, none⟩ = some (.int .u64 t530) := (blk_cell BK534.out 0).trans rfl; have hcz133_1 : w125.cell? ⟨gb534, 1, none⟩ = some (.int .u8 t531) := (blk_cell BK534.out 1).trans rfl; have hfz133_0 := blk_frozen BK534.out 0; have hfz133_1 := blk_frozen BK534.out 1) | ((with_reducible refine zG 51 rfl ?_); refine zL (some 58) rfl rfl Tryd.func51 #[.int .u64 t530] rfl ?_; (with_reducible refine (bits_Abs.calls t530 t551 _ A117.out).mono ?_); rintro e w' ⟨rfl, ⟨nd, rfl⟩⟩; refine ⟨_, rfl, ?_⟩; have hnb134 := NB528_527.out; have hnc134 := NB527_528.out; have hnb135 := NB528_535.out; have hnc135 := NB535_528.out; have hnb136 := NB528_544.out; have hnc136 := NB544_528.out; have hnb137 := NB528_545.out; have hnc137 := NB545_528.out; have hcz138_0 : w125.cell? ⟨gb528, 0, none⟩ = some (.int .u64 x529000_108) := (blk_cell BK528.out 0).trans rfl; have hcz138_1 : w125.cell? ⟨gb528, 1, none⟩ = some (.int .u8 x529001_108) := (blk_cell BK528.out 1).trans rfl; have hfz138_0 := blk_frozen BK528.out 0; have hfz138_1 := blk_frozen BK528.out 1) | ((with_reducible refine zD 70 rfl ?_); refine cells2_ (g := gb550) (t := 29) (cs := #[.int .u64 t530, .int .u8 (Go.bits .or .u8 16 4)]) ?hb ?_; (case hb => refine blk_put (cs := #[.int .u64 t530, .int .u8 16]) ?_ 1 _ rfl; refine blk_drewN ?_ _; refine blk_put (cs := #[.int .u64 t530, .int .u8 0]) ?_ 1 _ rfl; refine blk_put (cs := #[.int .u64 0, .int .u8 0]) ?_ 0 _ rfl; exact BK550.out); intro q0_ q1_; replace q0_ := q0_.trans rfl; replace q1_ := q1_.trans rfl; go_step))
          refine bodyPost_ret (results_ctt rfl _ _ gb528 29 #[.int .u64 t530, .int .u8 (Go.bits .or .u8 16 4)] (0, 0) _ rfl (by (with_reducible repeat (first | refine blk_drewN ?_ _ | refine blk_drew ?_ | refine blk_alloc ?_ _)); refine blk_put (cs := #[.int .u64 t530, .int .u8 x529001_108]) ?_ 1 _ rfl; refine blk_put (cs := #[.int .u64 x529000_108, .int .u8 x529001_108]) ?_ 0 _ rfl; refine blk_far ?_ NB528_550.out _; refine blk_far ?_ NB528_550.out _; refine blk_far ?_ NB528_550.out _; exact BK528.out) Tryd.underlying29 rfl (by kernel_rfl)) rfl ?_
          exact ⟨er, zs⟩
         rw [if_neg c118] at H
         have c118b0 := beq_eq_false_iff_ne.mpr c118
         have c118b1 := bne_iff_ne.mpr c118
         by_cases c139 : x10_15 = true
         ·subst c139
          rw [if_pos rfl] at H
          simp only [Option.some.injEq, Prod.mk.injEq] at H
          obtain ⟨rfl, rfl, rfl, rfl⟩ := H
          have hnb140 := NB534_527.out
          have hnc140 := NB527_534.out
          have hnb141 := NB534_528.out
          have hnc141 := NB528_534.out
          have hnb142 := NB534_535.out
          have hnc142 := NB535_534.out
          have hnb143 := NB534_544.out
          have hnc143 := NB544_534.out
          have hnb144 := NB534_545.out
          have hnc144 := NB545_534.out
          have hcz145_0 : wc.cell? ⟨gb534, 0, none⟩ = some (.int .u64 t530) := (blk_cell BK534.out 0).trans rfl
          have hcz145_1 : wc.cell? ⟨gb534, 1, none⟩ = some (.int .u8 t531) := (blk_cell BK534.out 1).trans rfl
          have hfz145_0 := blk_frozen BK534.out 0
          have hfz145_1 := blk_frozen BK534.out 1
          go_wp2_with (first | ((with_reducible refine zD 11 rfl ?_); refine zn (N := 11) (cs := #[.int .u64 0, .int .u8 0]) (t := 29) rfl rfl ?_; intro gb550 hg w146 hbox hb; replace HO_545000 := zA (R_below (ru HO_545000.out) hb); replace HO_546000 := zA (R_below (ru HO_546000.out) hb); have BK550 := zA (hbox); have GW550 := zx hg; have GE550 := zx hg; replace HB := zf hb; have NB527_550 := zl BK527 hg; have NB550_527 := zg BK527 hg; replace BK527 := zb BK527 hb; have NB528_550 := zl BK528 hg; have NB550_528 := zg BK528 hg; replace BK528 := zb BK528 hb; have NB534_550 := zl BK534 hg; have NB550_534 := zg BK534 hg; replace BK534 := zb BK534 hb; have NB535_550 := zl BK535 hg; have NB550_535 := zg BK535 hg; replace BK535 := zb BK535 hb; have NB544_550 := zl BK544 hg; have NB550_544 := zg BK544 hg; replace BK544 := zb BK544 hb; have NB545_550 := zl BK545 hg; have NB550_545 := zg BK545 hg; replace BK545 := zb BK545 hb; clear hb hbox hg; have hnb147 := NB550_527.out; have hnc147 := NB527_550.out; have hnb148 := NB550_528.out; have hnc148 := NB528_550.out; have hnb149 := NB550_534.out; have hnc149 := NB534_550.out; have hnb150 := NB550_535.out; have hnc150 := NB535_550.out; have hnb151 := NB550_544.out; have hnc151 := NB544_550.out; have hnb152 := NB550_545.out; have hnc152 := NB545_550.out; have hcz153_0 : w146.cell? ⟨gb550, 0, none⟩ = some (.int .u64 0) := (blk_cell BK550.out 0).trans rfl; have hcz153_1 : w146.cell? ⟨gb550, 1, none⟩ = some (.int .u8 0) := (blk_cell BK550.out 1).trans rfl; have hfz153_0 := blk_frozen BK550.out 0; have hfz153_1 := blk_frozen BK550.out 1; have hcz154_0 : w146.cell? ⟨gb534, 0, none⟩ = some (.int .u64 t530) := (blk_cell BK534.out 0).trans rfl; have hcz154_1 : w146.cell? ⟨gb534, 1, none⟩ = some (.int .u8 t531) := (blk_cell BK534.out 1).trans rfl; have hfz154_0 := blk_frozen BK534.out 0; have hfz154_1 := blk_frozen BK534.out 1) | ((with_reducible refine zG 51 rfl ?_); refine zL (some 58) rfl rfl Tryd.func51 #[.int .u64 t530] rfl ?_; (with_reducible refine (bits_Abs.calls t530 t551 _ A117.out).mono ?_); rintro e w' ⟨rfl, ⟨nd, rfl⟩⟩; refine ⟨_, rfl, ?_⟩; have hnb155 := NB528_527.out; have hnc155 := NB527_528.out; have hnb156 := NB528_535.out; have hnc156 := NB535_528.out; have hnb157 := NB528_544.out; have hnc157 := NB544_528.out; have hnb158 := NB528_545.out; have hnc158 := NB545_528.out; have hcz159_0 : w146.cell? ⟨gb528, 0, none⟩ = some (.int .u64 x529000_108) := (blk_cell BK528.out 0).trans rfl; have hcz159_1 : w146.cell? ⟨gb528, 1, none⟩ = some (.int .u8 x529001_108) := (blk_cell BK528.out 1).trans rfl; have hfz159_0 := blk_frozen BK528.out 0; have hfz159_1 := blk_frozen BK528.out 1) | ((with_reducible refine zD 70 rfl ?_); refine cells2_ (g := gb550) (t := 29) (cs := #[.int .u64 t530, .int .u8 (Go.bits .or .u8 16 8)]) ?hb ?_; (case hb => refine blk_put (cs := #[.int .u64 t530, .int .u8 16]) ?_ 1 _ rfl; refine blk_drewN ?_ _; refine blk_put (cs := #[.int .u64 t530, .int .u8 0]) ?_ 1 _ rfl; refine blk_put (cs := #[.int .u64 0, .int .u8 0]) ?_ 0 _ rfl; exact BK550.out); intro q0_ q1_; replace q0_ := q0_.trans rfl; replace q1_ := q1_.trans rfl; go_step))
          refine bodyPost_ret (results_ctt rfl _ _ gb528 29 #[.int .u64 t530, .int .u8 (Go.bits .or .u8 16 8)] (0, 0) _ rfl (by (with_reducible repeat (first | refine blk_drewN ?_ _ | refine blk_drew ?_ | refine blk_alloc ?_ _)); refine blk_put (cs := #[.int .u64 t530, .int .u8 x529001_108]) ?_ 1 _ rfl; refine blk_put (cs := #[.int .u64 x529000_108, .int .u8 x529001_108]) ?_ 0 _ rfl; refine blk_far ?_ NB528_550.out _; refine blk_far ?_ NB528_550.out _; refine blk_far ?_ NB528_550.out _; exact BK528.out) Tryd.underlying29 rfl (by kernel_rfl)) rfl ?_
          exact ⟨er, zs⟩
         replace c139 := Bool.eq_false_iff.mpr c139
         subst c139
         rw [if_neg (show ¬ (false = true) by decide)] at H
         simp only [Option.some.injEq, Prod.mk.injEq] at H
         obtain ⟨rfl, rfl, rfl, rfl⟩ := H
         have hnb160 := NB534_527.out
         have hnc160 := NB527_534.out
         have hnb161 := NB534_528.out
         have hnc161 := NB528_534.out
         have hnb162 := NB534_535.out
         have hnc162 := NB535_534.out
         have hnb163 := NB534_544.out
         have hnc163 := NB544_534.out
         have hnb164 := NB534_545.out
         have hnc164 := NB545_534.out
         have hcz165_0 : wc.cell? ⟨gb534, 0, none⟩ = some (.int .u64 t530) := (blk_cell BK534.out 0).trans rfl
         have hcz165_1 : wc.cell? ⟨gb534, 1, none⟩ = some (.int .u8 t531) := (blk_cell BK534.out 1).trans rfl
         have hfz165_0 := blk_frozen BK534.out 0
         have hfz165_1 := blk_frozen BK534.out 1
         go_wp2_with (first | ((with_reducible refine zD 11 rfl ?_); refine zn (N := 11) (cs := #[.int .u64 0, .int .u8 0]) (t := 29) rfl rfl ?_; intro gb550 hg w166 hbox hb; replace HO_545000 := zA (R_below (ru HO_545000.out) hb); replace HO_546000 := zA (R_below (ru HO_546000.out) hb); have BK550 := zA (hbox); have GW550 := zx hg; have GE550 := zx hg; replace HB := zf hb; have NB527_550 := zl BK527 hg; have NB550_527 := zg BK527 hg; replace BK527 := zb BK527 hb; have NB528_550 := zl BK528 hg; have NB550_528 := zg BK528 hg; replace BK528 := zb BK528 hb; have NB534_550 := zl BK534 hg; have NB550_534 := zg BK534 hg; replace BK534 := zb BK534 hb; have NB535_550 := zl BK535 hg; have NB550_535 := zg BK535 hg; replace BK535 := zb BK535 hb; have NB544_550 := zl BK544 hg; have NB550_544 := zg BK544 hg; replace BK544 := zb BK544 hb; have NB545_550 := zl BK545 hg; have NB550_545 := zg BK545 hg; replace BK545 := zb BK545 hb; clear hb hbox hg; have hnb167 := NB550_527.out; have hnc167 := NB527_550.out; have hnb168 := NB550_528.out; have hnc168 := NB528_550.out; have hnb169 := NB550_534.out; have hnc169 := NB534_550.out; have hnb170 := NB550_535.out; have hnc170 := NB535_550.out; have hnb171 := NB550_544.out; have hnc171 := NB544_550.out; have hnb172 := NB550_545.out; have hnc172 := NB545_550.out; have hcz173_0 : w166.cell? ⟨gb550, 0, none⟩ = some (.int .u64 0) := (blk_cell BK550.out 0).trans rfl; have hcz173_1 : w166.cell? ⟨gb550, 1, none⟩ = some (.int .u8 0) := (blk_cell BK550.out 1).trans rfl; have hfz173_0 := blk_frozen BK550.out 0; have hfz173_1 := blk_frozen BK550.out 1; have hcz174_0 : w166.cell? ⟨gb534, 0, none⟩ = some (.int .u64 t530) := (blk_cell BK534.out 0).trans rfl; have hcz174_1 : w166.cell? ⟨gb534, 1, none⟩ = some (.int .u8 t531) := (blk_cell BK534.out 1).trans rfl; have hfz174_0 := blk_frozen BK534.out 0; have hfz174_1 := blk_frozen BK534.out 1) | ((with_reducible refine zG 51 rfl ?_); refine zL (some 58) rfl rfl Tryd.func51 #[.int .u64 t530] rfl ?_; (with_reducible refine (bits_Abs.calls t530 t551 _ A117.out).mono ?_); rintro e w' ⟨rfl, ⟨nd, rfl⟩⟩; refine ⟨_, rfl, ?_⟩; have hnb175 := NB528_527.out; have hnc175 := NB527_528.out; have hnb176 := NB528_535.out; have hnc176 := NB535_528.out; have hnb177 := NB528_544.out; have hnc177 := NB544_528.out; have hnb178 := NB528_545.out; have hnc178 := NB545_528.out; have hcz179_0 : w166.cell? ⟨gb528, 0, none⟩ = some (.int .u64 x529000_108) := (blk_cell BK528.out 0).trans rfl; have hcz179_1 : w166.cell? ⟨gb528, 1, none⟩ = some (.int .u8 x529001_108) := (blk_cell BK528.out 1).trans rfl; have hfz179_0 := blk_frozen BK528.out 0; have hfz179_1 := blk_frozen BK528.out 1) | ((with_reducible refine zD 70 rfl ?_); refine cells2_ (g := gb550) (t := 29) (cs := #[.int .u64 t530, .int .u8 16]) ?hb ?_; (case hb => refine blk_drewN ?_ _; refine blk_put (cs := #[.int .u64 t530, .int .u8 0]) ?_ 1 _ rfl; refine blk_put (cs := #[.int .u64 0, .int .u8 0]) ?_ 0 _ rfl; exact BK550.out); intro q0_ q1_; replace q0_ := q0_.trans rfl; replace q1_ := q1_.trans rfl; go_step))
         refine bodyPost_ret (results_ctt rfl _ _ gb528 29 #[.int .u64 t530, .int .u8 16] (0, 0) _ rfl (by (with_reducible repeat (first | refine blk_drewN ?_ _ | refine blk_drew ?_ | refine blk_alloc ?_ _)); refine blk_put (cs := #[.int .u64 t530, .int .u8 x529001_108]) ?_ 1 _ rfl; refine blk_put (cs := #[.int .u64 x529000_108, .int .u8 x529001_108]) ?_ 0 _ rfl; refine blk_far ?_ NB528_550.out _; refine blk_far ?_ NB528_550.out _; exact BK528.out) Tryd.underlying29 rfl (by kernel_rfl)) rfl ?_
         exact ⟨er, zs⟩
end Go.Proofs.YtnjfckadjklmfaaDoor.PAll
