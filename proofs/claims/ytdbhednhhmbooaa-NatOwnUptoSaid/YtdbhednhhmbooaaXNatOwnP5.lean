/- Printed functions, merged by a program of this session. -/
import Derived.Test.YtdbhednhhmbooaaXNatOwnP0
import Derived.Test.YtdbhednhhmbooaaXNatOwnP1
import Derived.Test.YtdbhednhhmbooaaXNatOwnP2
import Derived.Test.YtdbhednhhmbooaaXNatOwnP3
import Derived.Test.YtdbhednhhmbooaaXNatOwnP4
import Derived.Laws.StructEq
import Derived.Test.YtdbhednhhmbooaaXNatOwnSh
namespace Go.Proofs.Ytdbhednhhmbooaa.PAll
open Go.RowKit Go.Proofs.YtdbhednhhmbooaaW.PrintWords Go.Proofs.YtdbhednhhmbooaaW.PrintLast Go.Proofs.YtdbhednhhmbooaaW.PrintMore
attribute [local go_sem] max2_int min2_int max_two min_two max_three min_three max_four min_four   -- for this text's walks alone
set_option linter.unusedVariables false
set_option linter.unusedSimpArgs false
attribute [local go_sem] ext65 ext71
def nat_number_div.l0 : Nat → Int → List Int → List Int → Int → List Int → Int → Option (List Int × List Int)
 | 0, _, _, _, _, _, _ => none
 | k + 1, x8, x9, x10, x11, x12, x13 => if x13 ≥ 0 then (if 0 ≤ (wrap64 (x13 + x11)) then (if (wrap64 (x13 + x11)) < (x10.length : Int) then (if 0 ≤ (wrap64 ((wrap64 (x13 + x11)) - 1)) then (if (wrap64 ((wrap64 (x13 + x11)) - 1)) < (x10.length : Int) then (if 0 ≤ (wrap64 ((wrap64 (x13 + x11)) - 2)) then (if (wrap64 ((wrap64 (x13 + x11)) - 2)) < (x10.length : Int) then (if 0 ≤ (wrap64 (x11 - 1)) then (if (wrap64 (x11 - 1)) < (x9.length : Int) then (if 0 ≤ (wrap64 (x11 - 2)) then (if (wrap64 (x11 - 2)) < (x9.length : Int) then ((nat_digit.f k (rd x10 (wrap64 (x13 + x11))) (rd x10 (wrap64 ((wrap64 (x13 + x11)) - 1))) (rd x10 (wrap64 ((wrap64 (x13 + x11)) - 2))) (rd x9 (wrap64 (x11 - 1))) (rd x9 (wrap64 (x11 - 2)))).bind fun t332 => (if 0 ≤ x13 then (if x13 ≤ (wrap64 ((wrap64 (x13 + x11)) + 1)) then (if (wrap64 ((wrap64 (x13 + x11)) + 1)) ≤ (x10.length : Int) then ((nat_number_lessAt.f k x10 x13 (wrap64 ((wrap64 (x13 + x11)) + 1)) x9 t332).bind fun bt337 => (if bt337.1 = true then ((nat_number_backAt.f k bt337.2 x13 (wrap64 ((wrap64 (x13 + x11)) + 1)) x9).bind fun t343 => (if x13 < (x12.length : Int) then (nat_number_div.l0 k x8 x9 t343 x11 (x12.set (x13 : Int).toNat (IntKind.u64.wrap (t332 - 1))) (wrap64 (x13 - 1))) else (none))) else (if x13 < (x12.length : Int) then (nat_number_div.l0 k x8 x9 bt337.2 x11 (x12.set (x13 : Int).toNat t332) (wrap64 (x13 - 1))) else (none)))) else (none)) else (none)) else (none))) else (none)) else (none)) else (none)) else (none)) else (none)) else (none)) else (none)) else (none)) else (none)) else (none)) else (if 0 ≤ x11 then (if x11 ≤ (x10.length : Int) then ((nat_norm.f k (x10.take (x11 : Int).toNat)).bind fun t317 => ((nat_number_shr.f k t317 x8).bind fun bt320 => ((nat_norm.f k x12).bind fun t324 => (some (t324, bt320.1))))) else (none)) else (none))
def nat_number_div.f (k : Nat) (l0 : List Int) (l1 : List Int) : Option (List Int × List Int) := (nat_number_cmp.f k l0 l1).bind fun t287 => (if t287 < 0 then (some (([] : List Int), l0)) else (if (l1.length : Int) = 1 then (if 0 < (l1.length : Int) then ((nat_number_short.f k l0 (rd l1 0)).bind fun bt289 => ((nat_norm.f k (([bt289.2] : List Int))).bind fun t296 => (some (bt289.1, t296)))) else (none)) else (if 0 ≤ (wrap64 ((l1.length : Int) - 1)) then (if (wrap64 ((l1.length : Int) - 1)) < (l1.length : Int) then ((bits_LeadingZeros64.f k (rd l1 (wrap64 ((l1.length : Int) - 1)))).bind fun t300 => ((nat_number_shl.f k l1 t300).bind fun t301 => (if 0 ≤ (wrap64 ((l0.length : Int) + 1)) then (if (wrap64 ((l0.length : Int) + 1) : Int).toNat ≤ 35184372088832 then ((some (List.replicate (wrap64 ((l0.length : Int) + 1) : Int).toNat 0 : List Int)).bind fun y304 => ((nat_number_shl.f k l0 t300).bind fun t307 => (if 0 ≤ (wrap64 ((wrap64 ((l0.length : Int) - (t301.length : Int))) + 1)) then (if (wrap64 ((wrap64 ((l0.length : Int) - (t301.length : Int))) + 1) : Int).toNat ≤ 35184372088832 then (nat_number_div.l0 k t300 t301 (t307.take (min t307.length y304.length) ++ y304.drop (min t307.length y304.length)) (t301.length : Int) (List.replicate (wrap64 ((wrap64 ((l0.length : Int) - (t301.length : Int))) + 1) : Int).toNat 0) (wrap64 ((l0.length : Int) - (t301.length : Int)))) else (none)) else (none)))) else (none)) else (none)))) else (none)) else (none))))
theorem nat_number_div.mono_l : ∀ k, (∀ y0 y1 y2 y3 y4 y5, LeO (nat_number_div.l0 k y0 y1 y2 y3 y4 y5) (nat_number_div.l0 (k + 1) y0 y1 y2 y3 y4 y5))
 | 0 => fun _ _ _ _ _ _ r h => by simp [nat_number_div.l0] at h
 | k + 1 => by
  have ih0 := nat_number_div.mono_l k
  ·intro y0 y1 y2 y3 y4 y5
   unfold nat_number_div.l0
   repeat' first
   | (with_reducible exact ih0 _ _ _ _ _ _)
   | (with_reducible exact bits_LeadingZeros64.mono _ _)
   | (with_reducible exact nat_digit.mono _ _ _ _ _ _)
   | (with_reducible exact nat_norm.mono _ _)
   | (with_reducible exact nat_number_back.mono _ _ _)
   | (with_reducible exact nat_number_cmp.mono _ _ _)
   | (with_reducible exact nat_number_less.mono _ _ _ _)
   | (with_reducible exact nat_number_shl.mono _ _ _)
   | (with_reducible exact nat_number_short.mono _ _ _)
   | (with_reducible exact nat_number_shr.mono _ _ _)
   | (with_reducible exact LeO.refl _)
   | (with_reducible exact LeO.none _)
   | (with_reducible refine LeO.ite ?_ ?_)
   | (with_reducible refine LeO.bind ?_ (fun _ => ?_))
   | exact ih0 _ _ _ _ _ _
   | exact bits_LeadingZeros64.mono _ _
   | exact nat_digit.mono _ _ _ _ _ _
   | exact nat_norm.mono _ _
   | exact nat_number_back.mono _ _ _
   | exact nat_number_cmp.mono _ _ _
   | exact nat_number_less.mono _ _ _ _
   | exact nat_number_shl.mono _ _ _
   | exact nat_number_short.mono _ _ _
   | exact nat_number_shr.mono _ _ _
   | exact LeO.none _
   | refine LeO.ite ?_ ?_
   | refine LeO.bind ?_ (fun _ => ?_)
theorem nat_number_div.mono : ∀ a0 a1 k, LeO (nat_number_div.f k a0 a1) (nat_number_div.f (k + 1) a0 a1) := by
 intro a0 a1 k
 have ih0 := nat_number_div.mono_l k
 unfold nat_number_div.f
 repeat' first
   | (with_reducible exact ih0 _ _ _ _ _ _)
   | (with_reducible exact bits_LeadingZeros64.mono _ _)
   | (with_reducible exact nat_digit.mono _ _ _ _ _ _)
   | (with_reducible exact nat_norm.mono _ _)
   | (with_reducible exact nat_number_back.mono _ _ _)
   | (with_reducible exact nat_number_cmp.mono _ _ _)
   | (with_reducible exact nat_number_less.mono _ _ _ _)
   | (with_reducible exact nat_number_shl.mono _ _ _)
   | (with_reducible exact nat_number_short.mono _ _ _)
   | (with_reducible exact nat_number_shr.mono _ _ _)
   | (with_reducible exact LeO.refl _)
   | (with_reducible exact LeO.none _)
   | (with_reducible refine LeO.ite ?_ ?_)
   | (with_reducible refine LeO.bind ?_ (fun _ => ?_))
   | exact ih0 _ _ _ _ _ _
   | exact bits_LeadingZeros64.mono _ _
   | exact nat_digit.mono _ _ _ _ _ _
   | exact nat_norm.mono _ _
   | exact nat_number_back.mono _ _ _
   | exact nat_number_cmp.mono _ _ _
   | exact nat_number_less.mono _ _ _ _
   | exact nat_number_shl.mono _ _ _
   | exact nat_number_short.mono _ _ _
   | exact nat_number_shr.mono _ _ _
   | exact LeO.none _
   | refine LeO.ite ?_ ?_
   | refine LeO.bind ?_ (fun _ => ?_)
def nat_number_div.T15 : Bool × List (List Nat × List Nat) := (true, [([], []), ([], []), ([], []), ([1, 2], [1, 2]), ([0, 3], [0, 3]), ([4], [4]), ([], []), ([], []), ([], []), ([7, 8], [7, 8]), ([9], [9]), ([6, 10], [6, 10]), ([11], [11]), ([], []), ([], []), ([], []), ([14, 15], [14, 15]), ([16], [16]), ([13, 17], [13, 17]), ([18], [18]), ([], []), ([], []), ([21], [21]), ([20, 22], [20, 22]), ([23], [23]), ([], []), ([], []), ([26], [26]), ([25, 27], [25, 27]), ([28], [28]), ([5, 12, 19, 24, 29], [5, 12, 19, 24, 29]), ([30, 30, 0, 1, 2, 3, 4, 5, 6, 7, 8, 9, 10, 11, 12, 13, 14, 15, 16, 17, 18, 19, 20, 21, 22, 23, 24, 25, 26, 27, 28, 29, 30], [30])])
def nat_number_div.B15 : List Nat := [0, 0, 0, 6, 15, 31, 0, 0, 0, 384, 896, 1984, 4032, 0, 0, 0, 49152, 114688, 253952, 516096, 0, 0, 2097152, 7340032, 15728640, 0, 0, 67108864, 234881024, 503316480, 1073741823, 2147483647]
theorem nat_number_div.tab15 : rtab .any (opsOf Try.f48 15) = nat_number_div.T15 := by kernel_rfl
theorem nat_number_div.bits15 : waitsOk nat_number_div.T15.2 nat_number_div.B15 = true := by kernel_rfl
set_option maxHeartbeats 8000000 in
set_option maxRecDepth 100000 in
theorem nat_number_div.calls (k : Nat) (P0_ : Nat → Prop) (A0 : Option Addr) (c0 : Nat) (l0 : List Int) (A1 : Option Addr) (c1 : Nat) (l1 : List Int) (r1 : List Int) (r2 : List Int) (w : World) (hs0 : Kd.V (Kd.int .u64) 47 w w.heap.size (fun k_ => P0_ k_) (.slice A0 l0.length c0) l0) (hr1 : Kd.C (Kd.int .u64) w A1 l1.length l1) (hc1 : l1.length ≤ c1) (h : nat_number_div.f k l0 l1 = some (r1, r2)) :
  Calls Try.prog 48 #[.slice A0 l0.length c0, .slice A1 l1.length c1] w fun e w' => ∃ v0_ v1_ : Value, e = .returned (.tuple #[v0_, v1_]) ∧ Kd.V (Kd.int .u64) 47 w' w.heap.size (fun k_ => (P0_ k_ ∨ w.heap.size ≤ k_)) v0_ r1 ∧ Kd.V (Kd.int .u64) 47 w' w.heap.size (fun k_ => (P0_ k_ ∨ w.heap.size ≤ k_)) v1_ r2 ∧ Below w.heap.size w w' := by
 have HO0 := Aside0.mk (show Kd.V (Kd.int .u64) 47 w w.heap.size (fun k_ => (P0_ k_ ∨ w.heap.size ≤ k_)) (.slice A0 l0.length c0) l0 from Kd.V_mono hs0 (fun k_ hk => .inl hk))
 have HR1 := Aside0.mk hr1
 have HC1 := Aside0.mk hc1
 clear hr1 hc1
 have HB := Aside0.mk (Below.refl w.heap.size w)
 have H : ((nat_number_cmp.f k l0 l1).bind fun t287 => (if t287 < 0 then (some (([] : List Int), l0)) else (if (l1.length : Int) = 1 then (if 0 < (l1.length : Int) then ((nat_number_short.f k l0 (rd l1 0)).bind fun bt289 => ((nat_norm.f k (([bt289.2] : List Int))).bind fun t296 => (some (bt289.1, t296)))) else (none)) else (if 0 ≤ (wrap64 ((l1.length : Int) - 1)) then (if (wrap64 ((l1.length : Int) - 1)) < (l1.length : Int) then ((bits_LeadingZeros64.f k (rd l1 (wrap64 ((l1.length : Int) - 1)))).bind fun t300 => ((nat_number_shl.f k l1 t300).bind fun t301 => (if 0 ≤ (wrap64 ((l0.length : Int) + 1)) then (if (wrap64 ((l0.length : Int) + 1) : Int).toNat ≤ 35184372088832 then ((some (List.replicate (wrap64 ((l0.length : Int) + 1) : Int).toNat 0 : List Int)).bind fun y304 => ((nat_number_shl.f k l0 t300).bind fun t307 => (if 0 ≤ (wrap64 ((wrap64 ((l0.length : Int) - (t301.length : Int))) + 1)) then (if (wrap64 ((wrap64 ((l0.length : Int) - (t301.length : Int))) + 1) : Int).toNat ≤ 35184372088832 then (nat_number_div.l0 k t300 t301 (t307.take (min t307.length y304.length) ++ y304.drop (min t307.length y304.length)) (t301.length : Int) (List.replicate (wrap64 ((wrap64 ((l0.length : Int) - (t301.length : Int))) + 1) : Int).toNat 0) (wrap64 ((l0.length : Int) - (t301.length : Int)))) else (none)) else (none)))) else (none)) else (none)))) else (none)) else (none))))) = some (r1, r2) := h
 clear h
 replace H := Option.bind_eq_some_iff.mp H
 obtain ⟨t287, A30, H⟩ := H
 (try dsimp only at H)
 have A3 := Aside0.mk A30
 clear A30
 by_cases c4 : t287 < 0
 ·rw [if_pos c4] at H
  have c4b0 : decide (t287 < 0) = true := decide_eq_true c4
  clear c4
  simp only [Option.some.injEq, Prod.mk.injEq] at H
  obtain ⟨rfl, rfl⟩ := H
  go_enter Try.func48, Try.ntmps48
  go_wp2_with (first | ((with_reducible refine gate_callee (f := 55) rfl ?_); refine goesL_ (some 20) rfl rfl Try.func55 (by kernel_rfl) rfl #[.slice A0 l0.length c0, .slice A1 l1.length c1] rfl ga ?_; (with_reducible refine (nat_number_cmp.calls k _ _ l0 _ _ l1 t287 _ ?side1 ?side2 ?side3 ?side4 A3.out).mono ?_); (case side1 => repeat (first | exact (Kd.V_reads' HO0.out).2.2 | (with_reducible refine Kd.C_alloc ?_ _) | (with_reducible refine Kd.C_drewN ?_ _) | (with_reducible refine Kd.C_drew ?_))); (case side2 => exact (Kd.V_reads' HO0.out).2.1); (case side3 => repeat (first | exact HR1.out | (with_reducible refine Kd.C_alloc ?_ _) | (with_reducible refine Kd.C_drewN ?_ _) | (with_reducible refine Kd.C_drew ?_))); (case side4 => exact HC1.out); rintro e w' ⟨rfl, ⟨nd, rfl⟩⟩; refine ⟨_, rfl, ?_⟩))
  go_ret2
  exact ⟨_, _, er, Kd.V_nil _ _ _ _ _, by (with_reducible repeat (first | apply Kd.V_alloc | apply Kd.V_drewN | apply Kd.V_drew)); exact HO0.out, bq⟩
 ·rw [if_neg c4] at H
  have c4b0 : decide (t287 < 0) = false := decide_eq_false c4
  clear c4
  by_cases c5 : (l1.length : Int) = 1
  ·rw [if_pos c5] at H
   have c5b0 : ((l1.length : Int) == 1) = true := beq_iff_eq.mpr c5
   have c5b1 : ((l1.length : Int) != 1) = false := bne_eq_false_iff_eq.mpr c5
   clear c5
   replace H := dn H
   obtain ⟨c6, H⟩ := H
   have c6b0 : decide (0 < (l1.length : Int)) = true := decide_eq_true c6
   have c6b1 : decide (0 < l1.length) = true := decide_eq_true (by omega)
   clear c6
   replace H := Option.bind_eq_some_iff.mp H
   obtain ⟨⟨t289, t292⟩, A70, H⟩ := H
   (try dsimp only at H)
   have A7 := Aside0.mk A70
   clear A70
   obtain ⟨y293, hy293⟩ : ∃ y_ : List Int, y_ = (([t292] : List Int)) := ⟨_, rfl⟩
   replace H : ((nat_norm.f k y293).bind fun t296 => (some (t289, t296))) = some (r1, r2) := by first | (rw [hy293]; with_reducible exact H) | (have H2_ := (Option.bind_some _ _).symm.trans H; rw [hy293]; with_reducible exact H2_) | (have H2_ := (Option.bind_some _ _).symm.trans H; with_reducible exact H2_) | with_reducible exact H | (rw [hy293]; exact H) | exact H
   have Ny293 := Aside0.mk hy293
   clear hy293
   replace H := Option.bind_eq_some_iff.mp H
   obtain ⟨t296, A80, H⟩ := H
   (try dsimp only at H)
   have A8 := Aside0.mk A80
   clear A80
   simp only [Option.some.injEq, Prod.mk.injEq] at H
   obtain ⟨rfl, rfl⟩ := H
   go_enter Try.func48, Try.ntmps48
   go_wp2_with (first | ((with_reducible refine gate_callee (f := 55) rfl ?_); refine goesL_ (some 20) rfl rfl Try.func55 (by kernel_rfl) rfl #[.slice A0 l0.length c0, .slice A1 l1.length c1] rfl ga ?_; (with_reducible refine (nat_number_cmp.calls k _ _ l0 _ _ l1 t287 _ ?side1 ?side2 ?side3 ?side4 A3.out).mono ?_); (case side1 => repeat (first | exact (Kd.V_reads' HO0.out).2.2 | (with_reducible refine Kd.C_alloc ?_ _) | (with_reducible refine Kd.C_drewN ?_ _) | (with_reducible refine Kd.C_drew ?_))); (case side2 => exact (Kd.V_reads' HO0.out).2.1); (case side3 => repeat (first | exact HR1.out | (with_reducible refine Kd.C_alloc ?_ _) | (with_reducible refine Kd.C_drewN ?_ _) | (with_reducible refine Kd.C_drew ?_))); (case side4 => exact HC1.out); rintro e w' ⟨rfl, ⟨nd, rfl⟩⟩; refine ⟨_, rfl, ?_⟩; have p288 : 0 ≤ (0 : Int) := (by omega); have q288 : 0 < (l1.length : Int) := od; obtain ⟨ad288, e288, hx288_0⟩ := Kd.at_int HR1.out 0 p288 q288; cases e288; have qi288 : (0 < l1.length) = True := eq_true (by omega); (try rw [show ((0 : Int)).toNat = 0 from rfl] at hx288_0); (try rw [Addr.add_zero'] at hx288_0); replace p288 := eq_true p288; replace q288 := eq_true q288) | ((with_reducible refine gate_callee (f := 35) rfl ?_); refine goesL_ (some 32) rfl rfl Try.func35 (by kernel_rfl) rfl #[.slice A0 l0.length c0, .int .u64 (rd l1 0)] rfl ga ?_; (with_reducible refine (nat_number_short.calls k _ _ l0 (rd l1 0) t289 t292 _ ?side1 ?side2 A7.out).mono ?_); (case side1 => repeat (first | exact (Kd.V_reads' HO0.out).2.2 | (with_reducible refine Kd.C_alloc ?_ _) | (with_reducible refine Kd.C_drewN ?_ _) | (with_reducible refine Kd.C_drew ?_))); (case side2 => exact (Kd.V_reads' HO0.out).2.1); rintro e w9 ⟨v290, rfl, ho0, hb⟩; refine ⟨_, rfl, ?_⟩; have n0_ := Aside0.mk (Kd.V_below (vu HO0.out) hb); have n1_ := Aside0.mk (Kd.V_lower (Kd.V_mono (ok' := fun k_ => (P0_ k_ ∨ w.heap.size ≤ k_)) ho0 (fun k_ hk_ => (.inr (Nat.le_trans (below_size bq) hk_)))) (below_size bq)); have n2_ := Aside0.mk (below_step bq hb); clear HO0; clear HB; have HO0 := n0_; have HO291 := n1_; have HB := n2_; clear n0_ n1_ n2_; (try clear hb); (try clear hb2); (try clear hk); (try clear hi); (try clear ho0)) | ((with_reducible refine gate_dst (N := 37) rfl ?_); refine Kd.R_lit (Kd.int .u64) _ 47 ?hg (N := 37) ?hd (xs := ([t292] : List Int)) (inner := [.int .u64 t292]) (ok := fun _ => True) (okp := fun _ => True) ?hr ?hp (fun _ hk => hk) trivial (Below.refl _ _) (Nat.le_refl _) (by simp) ?_; (case hd => rfl); (case hg => rfl); (case hr => first | (go_simp; done) | (go_simp; rfl)); (case hp => exact (Reps.one (show Kd.M (Kd.int .u64) _ _ _ t292 [.int .u64 t292] from rfl) (Reps.none _ _))); intro v294 w10 ho11 hb hg_ hnew_; clear hg_ hnew_; (first | rw [← Ny293.out] at ho11 | (simp only [Int.reduceToNat] at ho11; rw [← Ny293.out] at ho11)); have n0_ := Aside0.mk (Kd.V_elder' (vu HO0.out) (Kd.R_base ho11) hb); have n1_ := Aside0.mk (Kd.V_elder' (vu HO291.out) (Kd.R_base ho11) hb); have n2_ := Aside0.mk (Kd.R_lower (Kd.R_newM (M := fun k_ => (w.heap.size ≤ k_)) ho11 (below_size bq) (fun k_ h_ => h_)) (below_size bq)); have n3_ := Aside0.mk (below_step bq hb); clear HO0; clear HO291; clear HB; have HO0 := n0_; have HO291 := n1_; have HO295 := n2_; have HB := n3_; clear n0_ n1_ n2_ n3_; clear hb ho11; obtain ⟨Ao12, co12, eo12⟩ := Kd.R_slice HO295.out; subst eo12) | ((with_reducible refine gate_callee (f := 62) rfl ?_); refine goesL_ (some 38) rfl rfl Try.func62 (by kernel_rfl) rfl #[.slice Ao12 y293.length co12] rfl ga ?_; (with_reducible refine (nat_norm.calls k (fun k_ => some k_ = (.slice Ao12 y293.length co12 : Value).ownBlock) _ _ y293 t296 _ ?side1 A8.out).mono ?_); (case side1 => exact Kd.R_V (Kd.R_tight rfl (HO295.out))); rintro e w13 ⟨v297, rfl, ho0, hb⟩; refine ⟨_, rfl, ?_⟩; have n0_ := Aside0.mk (Kd.V_below (vu HO0.out) hb); have n1_ := Aside0.mk (Kd.V_below (vu HO291.out) hb); have n2_ := Aside0.mk (Kd.R_below (ru HO295.out) hb); have n3_ := Aside0.mk (Kd.V_lower (Kd.V_mono (ok' := fun k_ => (P0_ k_ ∨ w.heap.size ≤ k_)) ho0 (fun k_ hk_ => Or.elim hk_ (fun hs_ => (.inr (((HO295.out).1 k_ hs_.symm).1))) (fun hn_ => (.inr (Nat.le_trans (below_size bq) hn_))))) (below_size bq)); have n4_ := Aside0.mk (below_step bq hb); clear HO0; clear HO291; clear HO295; clear HB; have HO0 := n0_; have HO291 := n1_; have HO295 := n2_; have HO298 := n3_; have HB := n4_; clear n0_ n1_ n2_ n3_ n4_; (try clear hb); (try clear hb2); (try clear hk); (try clear hi); (try clear ho0)))
   go_ret2
   exact ⟨_, _, er, by (with_reducible repeat (first | apply Kd.V_alloc | apply Kd.V_drewN | apply Kd.V_drew)); exact Kd.V_mono HO291.out (fun _ hk => hk.1), by (with_reducible repeat (first | apply Kd.V_alloc | apply Kd.V_drewN | apply Kd.V_drew)); exact HO298.out, bq⟩
  ·rw [if_neg c5] at H
   have c5b0 : ((l1.length : Int) == 1) = false := beq_eq_false_iff_ne.mpr c5
   have c5b1 : ((l1.length : Int) != 1) = true := bne_iff_ne.mpr c5
   replace H := dn H
   obtain ⟨c14, H⟩ := H
   have c14b0 : decide (0 ≤ (wrap64 ((l1.length : Int) - 1))) = true := decide_eq_true c14
   clear c14
   replace H := dn H
   obtain ⟨c15, H⟩ := H
   have c15b0 : decide ((wrap64 ((l1.length : Int) - 1)) < (l1.length : Int)) = true := decide_eq_true c15
   clear c15
   replace H := Option.bind_eq_some_iff.mp H
   obtain ⟨t300, A160, H⟩ := H
   (try dsimp only at H)
   have A16 := Aside0.mk A160
   clear A160
   replace H := Option.bind_eq_some_iff.mp H
   obtain ⟨t301, A170, H⟩ := H
   (try dsimp only at H)
   have A17 := Aside0.mk A170
   clear A170
   replace H := dn H
   obtain ⟨c18, H⟩ := H
   have c18b0 := eq_true c18
   have c18b1 : decide (0 ≤ (wrap64 ((l0.length : Int) + 1))) = true := decide_eq_true c18
   replace H := dn H
   obtain ⟨c19, H⟩ := H
   have c19b0 := eq_true c19
   have c19b1 : decide ((wrap64 ((l0.length : Int) + 1) : Int).toNat ≤ 35184372088832) = true := decide_eq_true c19
   obtain ⟨y304, hy304⟩ : ∃ y_ : List Int, y_ = (List.replicate (wrap64 ((l0.length : Int) + 1) : Int).toNat 0) := ⟨_, rfl⟩
   replace H : ((nat_number_shl.f k l0 t300).bind fun t307 => (if 0 ≤ (wrap64 ((wrap64 ((l0.length : Int) - (t301.length : Int))) + 1)) then (if (wrap64 ((wrap64 ((l0.length : Int) - (t301.length : Int))) + 1) : Int).toNat ≤ 35184372088832 then (nat_number_div.l0 k t300 t301 (t307.take (min t307.length y304.length) ++ y304.drop (min t307.length y304.length)) (t301.length : Int) (List.replicate (wrap64 ((wrap64 ((l0.length : Int) - (t301.length : Int))) + 1) : Int).toNat 0) (wrap64 ((l0.length : Int) - (t301.length : Int)))) else (none)) else (none))) = some (r1, r2) := by first | (rw [hy304]; with_reducible exact H) | (have H2_ := (Option.bind_some _ _).symm.trans H; rw [hy304]; with_reducible exact H2_) | (have H2_ := (Option.bind_some _ _).symm.trans H; with_reducible exact H2_) | with_reducible exact H | (rw [hy304]; exact H) | exact H
   have Ny304 := Aside0.mk hy304
   clear hy304
   replace H := Option.bind_eq_some_iff.mp H
   obtain ⟨t307, A200, H⟩ := H
   (try dsimp only at H)
   have A20 := Aside0.mk A200
   clear A200
   obtain ⟨y310, hy310⟩ : ∃ y_ : List Int, y_ = (t307.take (min t307.length y304.length) ++ y304.drop (min t307.length y304.length)) := ⟨_, rfl⟩
   replace H : (if 0 ≤ (wrap64 ((wrap64 ((l0.length : Int) - (t301.length : Int))) + 1)) then (if (wrap64 ((wrap64 ((l0.length : Int) - (t301.length : Int))) + 1) : Int).toNat ≤ 35184372088832 then (nat_number_div.l0 k t300 t301 y310 (t301.length : Int) (List.replicate (wrap64 ((wrap64 ((l0.length : Int) - (t301.length : Int))) + 1) : Int).toNat 0) (wrap64 ((l0.length : Int) - (t301.length : Int)))) else (none)) else (none)) = some (r1, r2) := by first | (rw [hy310]; with_reducible exact H) | (have H2_ := (Option.bind_some _ _).symm.trans H; rw [hy310]; with_reducible exact H2_) | (have H2_ := (Option.bind_some _ _).symm.trans H; with_reducible exact H2_) | with_reducible exact H | (rw [hy310]; exact H) | exact H
   have Ny310 := Aside0.mk hy310
   clear hy310
   replace H := dn H
   obtain ⟨c21, H⟩ := H
   have c21b0 := eq_true c21
   have c21b1 : decide (0 ≤ (wrap64 ((wrap64 ((l0.length : Int) - (t301.length : Int))) + 1))) = true := decide_eq_true c21
   replace H := dn H
   obtain ⟨c22, H⟩ := H
   have c22b0 := eq_true c22
   have c22b1 : decide ((wrap64 ((wrap64 ((l0.length : Int) - (t301.length : Int))) + 1) : Int).toNat ≤ 35184372088832) = true := decide_eq_true c22
   obtain ⟨y311, hy311⟩ : ∃ y_ : List Int, y_ = (List.replicate (wrap64 ((wrap64 ((l0.length : Int) - (t301.length : Int))) + 1) : Int).toNat 0) := ⟨_, rfl⟩
   replace H : (nat_number_div.l0 k t300 t301 y310 (t301.length : Int) y311 (wrap64 ((l0.length : Int) - (t301.length : Int)))) = some (r1, r2) := by first | (rw [hy311]; with_reducible exact H) | (have H2_ := (Option.bind_some _ _).symm.trans H; rw [hy311]; with_reducible exact H2_) | (have H2_ := (Option.bind_some _ _).symm.trans H; with_reducible exact H2_) | with_reducible exact H | (rw [hy311]; exact H) | exact H
   have Ny311 := Aside0.mk hy311
   clear hy311
   have H' := Aside0.mk H
   clear H
   go_enter Try.func48, Try.ntmps48
   go_wp2_with (first | ((with_reducible refine gate_callee (f := 55) rfl ?_); refine goesL_ (some 20) rfl rfl Try.func55 (by kernel_rfl) rfl #[.slice A0 l0.length c0, .slice A1 l1.length c1] rfl ga ?_; (with_reducible refine (nat_number_cmp.calls k _ _ l0 _ _ l1 t287 _ ?side1 ?side2 ?side3 ?side4 A3.out).mono ?_); (case side1 => repeat (first | exact (Kd.V_reads' HO0.out).2.2 | (with_reducible refine Kd.C_alloc ?_ _) | (with_reducible refine Kd.C_drewN ?_ _) | (with_reducible refine Kd.C_drew ?_))); (case side2 => exact (Kd.V_reads' HO0.out).2.1); (case side3 => repeat (first | exact HR1.out | (with_reducible refine Kd.C_alloc ?_ _) | (with_reducible refine Kd.C_drewN ?_ _) | (with_reducible refine Kd.C_drew ?_))); (case side4 => exact HC1.out); rintro e w' ⟨rfl, ⟨nd, rfl⟩⟩; refine ⟨_, rfl, ?_⟩; have p299 : 0 ≤ ((wrap64 ((l1.length : Int) - 1)) : Int) := od; have q299 : (wrap64 ((l1.length : Int) - 1)) < (l1.length : Int) := od; obtain ⟨ad299, e299, hx299_0⟩ := Kd.at_int HR1.out (wrap64 ((l1.length : Int) - 1)) p299 q299; cases e299; replace p299 := eq_true p299; replace q299 := eq_true q299) | ((with_reducible refine gate_callee (f := 67) rfl ?_); refine goesL_ (some 45) rfl rfl Try.func67 (by kernel_rfl) rfl #[.int .u64 (rd l1 (wrap64 ((l1.length : Int) - 1)))] rfl ga ?_; (with_reducible refine (bits_LeadingZeros64.calls k (rd l1 (wrap64 ((l1.length : Int) - 1))) t300 _ A16.out).mono ?_); rintro e w' ⟨rfl, ⟨nd, rfl⟩⟩; refine ⟨_, rfl, ?_⟩) | ((with_reducible refine gate_callee (f := 50) rfl ?_); refine goesL_ (some 48) rfl rfl Try.func50 (by kernel_rfl) rfl #[.slice (some ad299) l1.length c1, .int .i64 t300] rfl ga ?_; (with_reducible refine (nat_number_shl.calls k _ _ l1 t300 t301 _ ?side1 ?side2 A17.out).mono ?_); (case side1 => repeat (first | exact HR1.out | (with_reducible refine Kd.C_alloc ?_ _) | (with_reducible refine Kd.C_drewN ?_ _) | (with_reducible refine Kd.C_drew ?_))); (case side2 => exact HC1.out); rintro e w23 ⟨v302, rfl, ho0, hb⟩; refine ⟨_, rfl, ?_⟩; have n0_ := Aside0.mk (Kd.V_below (vu HO0.out) hb); have n1_ := Aside0.mk (Kd.V_lower (Kd.V_mono (ok' := fun k_ => (P0_ k_ ∨ w.heap.size ≤ k_)) ho0 (fun k_ hk_ => (.inr (Nat.le_trans (below_size bq) hk_)))) (below_size bq)); have n2_ := Aside0.mk (below_step bq hb); clear HO0; clear HB; have HO0 := n0_; have HO303 := n1_; have HB := n2_; clear n0_ n1_ n2_; (try clear hb); (try clear hb2); (try clear hk); (try clear hi); (try clear ho0)) | ((with_reducible refine gate_dst (N := 52) rfl ?_); refine Kd.R_make (Kd.int .u64) _ 47 rfl (N := 52) rfl 49 _ _ rfl (wrap64 ((l0.length : Int) + 1)) rfl rfl Try.underlying49 (.int .u64 0) 8 info47 rfl (by decide) (by omega) 0 (ok := fun _ => True) (okp := fun _ => True) rfl (fun _ hk => hk) trivial (od) (Nat.le_trans (Nat.mul_le_mul_right _ (od : (wrap64 ((l0.length : Int) + 1)).toNat ≤ 35184372088832)) (by omega)) (Below.refl _ _) (Nat.le_refl _) ?_; intro v305 w24 ho25 hb hg_ hnew_; clear hg_ hnew_; (first | rw [← Ny304.out] at ho25 | (simp only [Int.reduceToNat] at ho25; rw [← Ny304.out] at ho25)); have n0_ := Aside0.mk (Kd.V_elder' (vu HO0.out) (Kd.R_base ho25) hb); have n1_ := Aside0.mk (Kd.V_elder' (vu HO303.out) (Kd.R_base ho25) hb); have n2_ := Aside0.mk (Kd.R_lower (Kd.R_newM (M := fun k_ => (w.heap.size ≤ k_)) ho25 (below_size bq) (fun k_ h_ => h_)) (below_size bq)); have n3_ := Aside0.mk (below_step bq hb); clear HO0; clear HO303; clear HB; have HO0 := n0_; have HO303 := n1_; have HO306 := n2_; have HB := n3_; clear n0_ n1_ n2_ n3_; clear hb ho25) | ((with_reducible refine gate_callee (f := 50) rfl ?_); refine goesL_ (some 56) rfl rfl Try.func50 (by kernel_rfl) rfl #[.slice A0 l0.length c0, .int .i64 t300] rfl ga ?_; (with_reducible refine (nat_number_shl.calls k _ _ l0 t300 t307 _ ?side1 ?side2 A20.out).mono ?_); (case side1 => repeat (first | exact (Kd.V_reads' HO0.out).2.2 | (with_reducible refine Kd.C_alloc ?_ _) | (with_reducible refine Kd.C_drewN ?_ _) | (with_reducible refine Kd.C_drew ?_))); (case side2 => exact (Kd.V_reads' HO0.out).2.1); rintro e w26 ⟨v308, rfl, ho0, hb⟩; refine ⟨_, rfl, ?_⟩; have n0_ := Aside0.mk (Kd.V_below (vu HO0.out) hb); have n1_ := Aside0.mk (Kd.V_below (vu HO303.out) hb); have n2_ := Aside0.mk (Kd.R_below (ru HO306.out) hb); have n3_ := Aside0.mk (Kd.V_lower (Kd.V_mono (ok' := fun k_ => (P0_ k_ ∨ w.heap.size ≤ k_) ∧ some k_ ≠ (v305 : Value).ownBlock) ho0 (fun k_ hk_ => ⟨(.inr (Nat.le_trans (below_size bq) hk_)), (Kd.fresh' (Kd.R_lt (ru HO306.out)) k_ hk_)⟩)) (below_size bq)); have n4_ := Aside0.mk (below_step bq hb); clear HO0; clear HO303; clear HO306; clear HB; have HO0 := n0_; have HO303 := n1_; have HO306 := n2_; have HO309 := n3_; have HB := n4_; clear n0_ n1_ n2_ n3_ n4_; (try clear hb); (try clear hb2); (try clear hk); (try clear hi); (try clear ho0); obtain ⟨Ao29, co29, eo29⟩ := Kd.V_slice HO309.out; subst eo29; obtain ⟨Ao30, co30, eo30⟩ := Kd.R_slice HO306.out; subst eo30; have n_ := Aside0.mk (Kd.R_mono (ok' := (fun k_ => (w.heap.size ≤ k_))) HO306.out (fun k_ hk => hk.1)); clear HO306; have HO306 := n_; clear n_) | ((with_reducible refine gate_builtin (b := .copy) (xs := #[.tmp 53, .tmp 56]) rfl ?_); refine Kd.R_copy (enc := Value.int .u64) (h1 := fun _ => rfl) 0 (w0 := w) w.heap.size rfl (.tmp 53) (.tmp 56) 49 49 47 rfl Try.underlying49 (by kernel_rfl) (.slice Ao30 y304.length co30) y304 t307 Ao29 t307.length co29 (fun k_ => (w.heap.size ≤ k_)) ?hs ?hx ?HO ?HR ?HB ?Hb ?_; (case hs => rfl); (case hx => rfl); (case HO => exact by (with_reducible repeat (first | apply Kd.R_alloc | apply Kd.R_drewN | apply Kd.R_drew)); exact HO306.out); (case HR => repeat (first | exact (Kd.V_reads' HO309.out).2.2 | (with_reducible refine Kd.C_alloc ?_ _) | (with_reducible refine Kd.C_drewN ?_ _) | (with_reducible refine Kd.C_drew ?_))); (case HB => exact HB.out); (case Hb => exact below_size HB.out); intro w28 ho_ hb_ hg; have hp_ : Kd.R (Kd.int .u64) 47 w28 w.heap.size (fun k_ => (w.heap.size ≤ k_)) (.slice Ao30 y304.length co30) y310 := (by rw [Ny310.out]; exact ho_); clear ho_; have n0_ := Aside0.mk (Kd.V_afterv (v := (.slice Ao30 y304.length co30)) (v1 := (.slice Ao30 y304.length co30)) (ok := (fun k_ => (P0_ k_ ∨ w.heap.size ≤ k_))) (vu HO0.out) hg (.inl rfl)); have n1_ := Aside0.mk (Kd.V_afterv (v := (.slice Ao30 y304.length co30)) (v1 := (.slice Ao30 y304.length co30)) (ok := (fun k_ => (P0_ k_ ∨ w.heap.size ≤ k_))) (vu HO303.out) hg (.inl rfl)); have n2_ := Aside0.mk (hp_); have n3_ := Aside0.mk (Kd.V_afterv (v := (.slice Ao30 y304.length co30)) (v1 := (.slice Ao30 y304.length co30)) (ok := (fun k_ => (P0_ k_ ∨ w.heap.size ≤ k_))) (vu HO309.out) hg (.inl rfl)); have n4_ := Aside0.mk (hb_); clear HO0; clear HO303; clear HO306; clear HO309; clear HB; have HO0 := n0_; have HO303 := n1_; have HO306 := n2_; have HO309 := n3_; have HB := n4_; clear n0_ n1_ n2_ n3_ n4_; clear hg hp_; clear hb_; obtain ⟨Ao31, co31, eo31⟩ := Kd.V_slice HO303.out; subst eo31) | ((with_reducible refine gate_dst (N := 65) rfl ?_); refine Kd.R_make (Kd.int .u64) _ 47 rfl (N := 65) rfl 49 _ _ rfl (wrap64 ((wrap64 ((l0.length : Int) - (t301.length : Int))) + 1)) rfl rfl Try.underlying49 (.int .u64 0) 8 info47 rfl (by decide) (by omega) 0 (ok := fun _ => True) (okp := fun _ => True) rfl (fun _ hk => hk) trivial (od) (Nat.le_trans (Nat.mul_le_mul_right _ (od : (wrap64 ((wrap64 ((l0.length : Int) - (t301.length : Int))) + 1)).toNat ≤ 35184372088832)) (by omega)) (Below.refl _ _) (Nat.le_refl _) ?_; intro v312 w32 ho33 hb hg_ hnew_; clear hg_ hnew_; (first | rw [← Ny311.out] at ho33 | (simp only [Int.reduceToNat] at ho33; rw [← Ny311.out] at ho33)); have n0_ := Aside0.mk (Kd.V_elder' (vu HO0.out) (Kd.R_base ho33) hb); have n1_ := Aside0.mk (Kd.V_elder' (vu HO303.out) (Kd.R_base ho33) hb); have n2_ := Aside0.mk (Kd.R_elder' (ru HO306.out) (Kd.R_base ho33) hb); have n3_ := Aside0.mk (Kd.V_elder' (vu HO309.out) (Kd.R_base ho33) hb); have n4_ := Aside0.mk (Kd.R_lower (Kd.R_new' (Kd.R_newM (M := fun k_ => (w.heap.size ≤ k_)) ho33 (below_size bq) (fun k_ h_ => h_)) (Kd.R_lt (ru HO306.out))) (below_size bq)); have n5_ := Aside0.mk (below_step bq hb); clear HO0; clear HO303; clear HO306; clear HO309; clear HB; have HO0 := n0_; have HO303 := n1_; have HO306 := n2_; have HO309 := n3_; have HO313 := n4_; have HB := n5_; clear n0_ n1_ n2_ n3_ n4_ n5_; clear hb ho33))
   go_loopg [13] k (fun kq v13 w' => ∃ (x9_1 : List Int) (x10_1 : List Int) (x12_1 : List Int) (x13_1 : Int), v13 = .int .i64 x13_1 ∧ Aside0 (nat_number_div.l0 kq t300 x9_1 x10_1 (t301.length : Int) x12_1 x13_1 = some (r1, r2)) ∧ Aside0 (kq ≤ k) ∧ Aside0 (Kd.V (Kd.int .u64) 47 w' w.heap.size (fun k_ => (P0_ k_ ∨ w.heap.size ≤ k_) ∧ some k_ ≠ ((.slice Ao30 y304.length co30) : Value).ownBlock ∧ some k_ ≠ (v312 : Value).ownBlock) (.slice Ao31 t301.length co31) x9_1) ∧ Aside0 (Kd.R (Kd.int .u64) 47 w' w.heap.size (fun k_ => (w.heap.size ≤ k_) ∧ some k_ ≠ (v312 : Value).ownBlock) (.slice Ao30 y304.length co30) x10_1) ∧ Aside0 (Kd.R (Kd.int .u64) 47 w' w.heap.size (fun k_ => (w.heap.size ≤ k_) ∧ some k_ ≠ ((.slice Ao30 y304.length co30) : Value).ownBlock) v312 x12_1) ∧ Aside0 (Below w.heap.size w w'))
   case atStart => exact ⟨(t301), (y310), (y311), (wrap64 ((l0.length : Int) - (t301.length : Int))), (by first | rfl | (simp; done) | (simp [*]; done)), H', ⟨Nat.le_refl _⟩, ⟨by (with_reducible repeat (first | apply Kd.V_alloc | apply Kd.V_drewN | apply Kd.V_drew)); exact Kd.V_mono HO303.out (fun _ hk => ⟨hk.1.1, ⟨hk.1.2, hk.2⟩⟩)⟩, ⟨by (with_reducible repeat (first | apply Kd.R_alloc | apply Kd.R_drewN | apply Kd.R_drew)); exact HO306.out⟩, ⟨by (with_reducible repeat (first | apply Kd.R_alloc | apply Kd.R_drewN | apply Kd.R_drew)); exact Kd.R_mono HO313.out (fun _ hk => ⟨hk.1.1, hk.2⟩)⟩, ⟨bq⟩⟩
   case round =>
    clear H'
    try clear c1
    try clear c2
    try clear p2
    try clear q2
    try clear hx2
    try clear qi2
    try clear c3
    try clear c4
    try clear c4b0
    try clear c5
    try clear c5b0
    try clear c5b1
    try clear c6
    try clear c6b0
    try clear c6b1
    try clear p6
    try clear c14
    try clear c14b0
    try clear c15
    try clear c15b0
    try clear c18
    try clear c18b0
    try clear c18b1
    try clear c19
    try clear c19b0
    try clear c19b1
    try clear c21
    try clear c21b0
    try clear c21b1
    try clear c22
    try clear c22b0
    try clear c22b1
    try clear p28
    try clear q28
    try clear hx28
    try clear qi28
    try clear p29
    try clear q29
    try clear hx29
    try clear hx288_0
    try clear hx299_0
    try clear p288
    try clear p299
    try clear q288
    try clear q299
    obtain ⟨x9_1, x10_1, x12_1, x13_1, rfl, HA, HK1, HO_9, HO_10, HO_12, HB⟩ := hrel
    have hl9_1 := (Kd.V_reads' HO_9.out).1
    rw [hl9_1] at HO_9
    (try simp only [hl9_1])
    (try simp only [hl9_1] at HO_10)
    (try simp only [hl9_1] at HO_12)
    have hl10_1 := (Kd.R_reads' HO_10.out).1
    rw [hl10_1] at HO_10
    (try simp only [hl10_1])
    (try simp only [hl10_1] at HO_9)
    (try simp only [hl10_1] at HO_12)
    cases gk with
    | zero => exact absurd HA.out (by simp [nat_number_div.l0])
    | succ k1 =>
     have H := HA.out
     clear HA
     simp only [nat_number_div.l0] at H
     simp only [hl9_1] at H
     by_cases c34 : x13_1 ≥ 0
     ·rw [if_pos c34] at H
      have c34b0 : decide (0 ≤ x13_1) = true := decide_eq_true c34
      clear c34
      replace H := dn H
      obtain ⟨c35, H⟩ := H
      have c35b0 : decide (0 ≤ (wrap64 (x13_1 + (x9_1.length : Int)))) = true := decide_eq_true c35
      have keepo_c35b0 := c35b0
      (try rw [hl9_1] at c35b0)
      (try rw [hl10_1] at c35b0)
      clear c35
      replace H := dn H
      obtain ⟨c36, H⟩ := H
      have c36b0 : decide ((wrap64 (x13_1 + (x9_1.length : Int))) < (x10_1.length : Int)) = true := decide_eq_true c36
      have keepo_c36b0 := c36b0
      (try rw [hl9_1] at c36b0)
      (try rw [hl10_1] at c36b0)
      clear c36
      replace H := dn H
      obtain ⟨c37, H⟩ := H
      have c37b0 : decide (0 ≤ (wrap64 ((wrap64 (x13_1 + (x9_1.length : Int))) - 1))) = true := decide_eq_true c37
      have keepo_c37b0 := c37b0
      (try rw [hl9_1] at c37b0)
      (try rw [hl10_1] at c37b0)
      clear c37
      replace H := dn H
      obtain ⟨c38, H⟩ := H
      have c38b0 : decide ((wrap64 ((wrap64 (x13_1 + (x9_1.length : Int))) - 1)) < (x10_1.length : Int)) = true := decide_eq_true c38
      have keepo_c38b0 := c38b0
      (try rw [hl9_1] at c38b0)
      (try rw [hl10_1] at c38b0)
      clear c38
      replace H := dn H
      obtain ⟨c39, H⟩ := H
      have c39b0 : decide (0 ≤ (wrap64 ((wrap64 (x13_1 + (x9_1.length : Int))) - 2))) = true := decide_eq_true c39
      have keepo_c39b0 := c39b0
      (try rw [hl9_1] at c39b0)
      (try rw [hl10_1] at c39b0)
      clear c39
      replace H := dn H
      obtain ⟨c40, H⟩ := H
      have c40b0 : decide ((wrap64 ((wrap64 (x13_1 + (x9_1.length : Int))) - 2)) < (x10_1.length : Int)) = true := decide_eq_true c40
      have keepo_c40b0 := c40b0
      (try rw [hl9_1] at c40b0)
      (try rw [hl10_1] at c40b0)
      clear c40
      replace H := dn H
      obtain ⟨c41, H⟩ := H
      have c41b0 : decide (0 ≤ (wrap64 ((x9_1.length : Int) - 1))) = true := decide_eq_true c41
      have keepo_c41b0 := c41b0
      (try rw [hl9_1] at c41b0)
      (try rw [hl10_1] at c41b0)
      clear c41
      replace H := dn H
      obtain ⟨c42, H⟩ := H
      have c42b0 : decide ((wrap64 ((x9_1.length : Int) - 1)) < (x9_1.length : Int)) = true := decide_eq_true c42
      have keepo_c42b0 := c42b0
      (try rw [hl9_1] at c42b0)
      (try rw [hl10_1] at c42b0)
      clear c42
      replace H := dn H
      obtain ⟨c43, H⟩ := H
      have c43b0 : decide (0 ≤ (wrap64 ((x9_1.length : Int) - 2))) = true := decide_eq_true c43
      have keepo_c43b0 := c43b0
      (try rw [hl9_1] at c43b0)
      (try rw [hl10_1] at c43b0)
      clear c43
      replace H := dn H
      obtain ⟨c44, H⟩ := H
      have c44b0 : decide ((wrap64 ((x9_1.length : Int) - 2)) < (x9_1.length : Int)) = true := decide_eq_true c44
      have keepo_c44b0 := c44b0
      (try rw [hl9_1] at c44b0)
      (try rw [hl10_1] at c44b0)
      clear c44
      replace H := Option.bind_eq_some_iff.mp H
      obtain ⟨t332, A450, H⟩ := H
      (try dsimp only at H)
      have A45 := Aside0.mk A450
      clear A450
      replace H := dn H
      obtain ⟨c46, H⟩ := H
      have c46b0 := eq_true c46
      have c46b1 : decide (0 ≤ x13_1) = true := decide_eq_true c46
      clear c46
      replace H := dn H
      obtain ⟨c47, H⟩ := H
      have c47b0 := eq_true c47
      have c47b1 : decide (x13_1 ≤ (wrap64 ((wrap64 (x13_1 + (x9_1.length : Int))) + 1))) = true := decide_eq_true c47
      have keepo_c47b1 := c47b1
      (try rw [hl9_1] at c47b1)
      (try rw [hl10_1] at c47b1)
      replace H := dn H
      obtain ⟨c48, H⟩ := H
      have c48b0 := eq_true c48
      have c48b1 : decide ((wrap64 ((wrap64 (x13_1 + (x9_1.length : Int))) + 1)) ≤ (x10_1.length : Int)) = true := decide_eq_true c48
      have keepo_c48b1 := c48b1
      (try rw [hl9_1] at c48b1)
      (try rw [hl10_1] at c48b1)
      obtain ⟨y333, hy333⟩ : ∃ y_ : List Int, y_ = ((x10_1.take ((wrap64 ((wrap64 (x13_1 + (x9_1.length : Int))) + 1)) : Int).toNat).drop (x13_1 : Int).toNat) := ⟨_, rfl⟩
      replace H : ((nat_number_lessAt.f k1 x10_1 x13_1 (wrap64 ((wrap64 (x13_1 + (x9_1.length : Int))) + 1)) x9_1 t332).bind fun bt337 => (if bt337.1 = true then ((nat_number_backAt.f k1 bt337.2 x13_1 (wrap64 ((wrap64 (x13_1 + (x9_1.length : Int))) + 1)) x9_1).bind fun t343 => (if x13_1 < (x12_1.length : Int) then (nat_number_div.l0 k1 t300 x9_1 t343 (x9_1.length : Int) (x12_1.set (x13_1 : Int).toNat (IntKind.u64.wrap (t332 - 1))) (wrap64 (x13_1 - 1))) else (none))) else (if x13_1 < (x12_1.length : Int) then (nat_number_div.l0 k1 t300 x9_1 bt337.2 (x9_1.length : Int) (x12_1.set (x13_1 : Int).toNat t332) (wrap64 (x13_1 - 1))) else (none)))) = some (r1, r2) := by first | (rw [hy333]; with_reducible exact H) | (have H2_ := (Option.bind_some _ _).symm.trans H; rw [hy333]; with_reducible exact H2_) | (have H2_ := (Option.bind_some _ _).symm.trans H; with_reducible exact H2_) | with_reducible exact H | (rw [hy333]; exact H) | exact H
      have Ny333 := Aside0.mk hy333
      clear hy333
      replace H := Option.bind_eq_some_iff.mp H
      obtain ⟨⟨t337, t338⟩, A490, H⟩ := H
      (try dsimp only at H)
      have A49 := Aside0.mk A490
      clear A490
      by_cases c50 : t337 = true
      ·subst c50
       rw [if_pos rfl] at H
       have c51b0 := eq_true (od : 0 ≤ x13_1)
       have c52b0 := eq_true (od : x13_1 ≤ (wrap64 ((wrap64 (x13_1 + (x9_1.length : Int))) + 1)))
       have c53b0 := eq_true (od : (wrap64 ((wrap64 (x13_1 + (x9_1.length : Int))) + 1)) ≤ (x10_1.length : Int))
       obtain ⟨y339, hy339⟩ : ∃ y_ : List Int, y_ = ((t338.take ((wrap64 ((wrap64 (x13_1 + (x9_1.length : Int))) + 1)) : Int).toNat).drop (x13_1 : Int).toNat) := ⟨_, rfl⟩
       replace H : ((nat_number_backAt.f k1 t338 x13_1 (wrap64 ((wrap64 (x13_1 + (x9_1.length : Int))) + 1)) x9_1).bind fun t343 => (if x13_1 < (x12_1.length : Int) then (nat_number_div.l0 k1 t300 x9_1 t343 (x9_1.length : Int) (x12_1.set (x13_1 : Int).toNat (IntKind.u64.wrap (t332 - 1))) (wrap64 (x13_1 - 1))) else (none))) = some (r1, r2) := by first | (rw [hy339]; with_reducible exact H) | (have H2_ := (Option.bind_some _ _).symm.trans H; rw [hy339]; with_reducible exact H2_) | (have H2_ := (Option.bind_some _ _).symm.trans H; with_reducible exact H2_) | with_reducible exact H | (rw [hy339]; exact H) | exact H
       have Ny339 := Aside0.mk hy339
       clear hy339
       replace H := Option.bind_eq_some_iff.mp H
       obtain ⟨t343, A540, H⟩ := H
       (try dsimp only at H)
       have A54 := Aside0.mk A540
       clear A540
       replace H := dn H
       obtain ⟨c55, H⟩ := H
       have c55b0 : decide (x13_1 < (x12_1.length : Int)) = true := decide_eq_true c55
       have keepo_c55b0 := c55b0
       (try rw [hl9_1] at c55b0)
       (try rw [hl10_1] at c55b0)
       clear c55
       obtain ⟨y344, hy344⟩ : ∃ y_ : List Int, y_ = (x12_1.set (x13_1 : Int).toNat (IntKind.u64.wrap (t332 - 1))) := ⟨_, rfl⟩
       replace H : (nat_number_div.l0 k1 t300 x9_1 t343 (x9_1.length : Int) y344 (wrap64 (x13_1 - 1))) = some (r1, r2) := by first | (rw [hy344]; with_reducible exact H) | (have H2_ := (Option.bind_some _ _).symm.trans H; rw [hy344]; with_reducible exact H2_) | (have H2_ := (Option.bind_some _ _).symm.trans H; with_reducible exact H2_) | with_reducible exact H | (rw [hy344]; exact H) | exact H
       have Ny344 := Aside0.mk hy344
       clear hy344
       have H' := Aside0.mk H
       clear H
       try go_wp2
       have n0_ := Aside0.mk (Kd.V_drew HO_9.out)
       have n1_ := Aside0.mk (Kd.R_drew HO_10.out)
       have n2_ := Aside0.mk (Kd.R_drew HO_12.out)
       have n3_ := Aside0.mk (below_drew1 HB.out)
       clear HO_9
       clear HO_10
       clear HO_12
       clear HB
       have HO_9 := n0_
       have HO_10 := n1_
       have HO_12 := n2_
       have HB := n3_
       clear n0_ n1_ n2_ n3_
       have p327 : 0 ≤ ((wrap64 (x13_1 + (x9_1.length : Int))) : Int) := od
       have q327 : (wrap64 (x13_1 + (x9_1.length : Int))) < (x10_1.length : Int) := od
       obtain ⟨ad327, e327, hx327_0⟩ := Kd.at_int (Kd.R_reads' HO_10.out).2.2 (wrap64 (x13_1 + (x9_1.length : Int))) p327 q327
       cases e327
       (try simp only [hl9_1, hl10_1] at p327)
       (try simp only [hl9_1, hl10_1] at q327)
       (try simp only [hl9_1, hl10_1] at hx327_0)
       replace p327 := eq_true p327
       replace q327 := eq_true q327
       have p328 : 0 ≤ ((wrap64 ((wrap64 (x13_1 + (x9_1.length : Int))) - 1)) : Int) := od
       have q328 : (wrap64 ((wrap64 (x13_1 + (x9_1.length : Int))) - 1)) < (x10_1.length : Int) := od
       obtain ⟨ad328, e328, hx328_0⟩ := Kd.at_int (Kd.R_reads' HO_10.out).2.2 (wrap64 ((wrap64 (x13_1 + (x9_1.length : Int))) - 1)) p328 q328
       obtain rfl : ad327 = ad328 := (by injection e328)
       (try simp only [hl9_1, hl10_1] at p328)
       (try simp only [hl9_1, hl10_1] at q328)
       (try simp only [hl9_1, hl10_1] at hx328_0)
       replace p328 := eq_true p328
       replace q328 := eq_true q328
       have p329 : 0 ≤ ((wrap64 ((wrap64 (x13_1 + (x9_1.length : Int))) - 2)) : Int) := od
       have q329 : (wrap64 ((wrap64 (x13_1 + (x9_1.length : Int))) - 2)) < (x10_1.length : Int) := od
       obtain ⟨ad329, e329, hx329_0⟩ := Kd.at_int (Kd.R_reads' HO_10.out).2.2 (wrap64 ((wrap64 (x13_1 + (x9_1.length : Int))) - 2)) p329 q329
       obtain rfl : ad327 = ad329 := (by injection e329)
       (try simp only [hl9_1, hl10_1] at p329)
       (try simp only [hl9_1, hl10_1] at q329)
       (try simp only [hl9_1, hl10_1] at hx329_0)
       replace p329 := eq_true p329
       replace q329 := eq_true q329
       have p330 : 0 ≤ ((wrap64 ((x9_1.length : Int) - 1)) : Int) := od
       have q330 : (wrap64 ((x9_1.length : Int) - 1)) < (x9_1.length : Int) := od
       obtain ⟨ad330, e330, hx330_0⟩ := Kd.at_int (Kd.V_reads' HO_9.out).2.2 (wrap64 ((x9_1.length : Int) - 1)) p330 q330
       cases e330
       (try simp only [hl9_1, hl10_1] at p330)
       (try simp only [hl9_1, hl10_1] at q330)
       (try simp only [hl9_1, hl10_1] at hx330_0)
       replace p330 := eq_true p330
       replace q330 := eq_true q330
       have p331 : 0 ≤ ((wrap64 ((x9_1.length : Int) - 2)) : Int) := od
       have q331 : (wrap64 ((x9_1.length : Int) - 2)) < (x9_1.length : Int) := od
       obtain ⟨ad331, e331, hx331_0⟩ := Kd.at_int (Kd.V_reads' HO_9.out).2.2 (wrap64 ((x9_1.length : Int) - 2)) p331 q331
       obtain rfl : ad330 = ad331 := (by injection e331)
       (try simp only [hl9_1, hl10_1] at p331)
       (try simp only [hl9_1, hl10_1] at q331)
       (try simp only [hl9_1, hl10_1] at hx331_0)
       replace p331 := eq_true p331
       replace q331 := eq_true q331
       refine start_ (n := 32) (S := fun w' => w'.cell? (ad327.add ((wrap64 (x13_1 + (x9_1.length : Int)))).toNat) = some (.int .u64 (rd x10_1 (wrap64 (x13_1 + (x9_1.length : Int))))) ∧ w'.cell? (ad327.add ((wrap64 ((wrap64 (x13_1 + (x9_1.length : Int))) - 1))).toNat) = some (.int .u64 (rd x10_1 (wrap64 ((wrap64 (x13_1 + (x9_1.length : Int))) - 1)))) ∧ w'.cell? (ad327.add ((wrap64 ((wrap64 (x13_1 + (x9_1.length : Int))) - 2))).toNat) = some (.int .u64 (rd x10_1 (wrap64 ((wrap64 (x13_1 + (x9_1.length : Int))) - 2)))) ∧ w'.cell? (ad330.add ((wrap64 ((x9_1.length : Int) - 1))).toNat) = some (.int .u64 (rd x9_1 (wrap64 ((x9_1.length : Int) - 1)))) ∧ w'.cell? (ad330.add ((wrap64 ((x9_1.length : Int) - 2))).toNat) = some (.int .u64 (rd x9_1 (wrap64 ((x9_1.length : Int) - 2))))) (ds := []) #[false, false, false, false, false, false, false, false, false, false, false, false, false, false, false, false, false, false, false, false, false, false, false, false, false, false, false, false, false, false, false, false] (by kernel_rfl) rfl rfl ⟨hx327_0, hx328_0, hx329_0, hx330_0, hx331_0⟩ (fun hHeld => ?_); refine with_tabW nat_number_div.tab15 nat_number_div.bits15 (fun HT_ HW_ => ?_)
       generalize wr.drew = w57 at HO_9 HO_10 HO_12 HB hx327_0 hx328_0 hx329_0 hx330_0 hx331_0 hHeld ⊢
       refine pure_ (i := 0) (N := some 74) (v := ?_) (a' := ?_) #[true, false, false, false, false, false, false, false, false, false, false, false, false, false, false, false, false, false, false, false, false, false, false, false, false, false, false, false, false, false, false, false] rfl rfl (any_of HT_.out (by kernel_rfl)) (fun _ _ _ h => h) (Or.inl ⟨by rfl, ?_⟩) ?_ ?_
       rotate_left
       ·intro w'
        go_simp
        with_reducible rfl
       rotate_left
       ·simp only [Act.put, List.setIfInBounds_toArray, List.set_cons_zero, List.set_cons_succ, i64_w, i32_w]
        rfl
       refine pure_ (i := 1) (N := some 75) (v := ?_) (a' := ?_) #[true, true, false, false, false, false, false, false, false, false, false, false, false, false, false, false, false, false, false, false, false, false, false, false, false, false, false, false, false, false, false, false] rfl rfl (any_of HT_.out (by kernel_rfl)) (fun _ _ _ h => h) (Or.inl ⟨by rfl, ?_⟩) ?_ ?_
       rotate_left
       ·intro w'
        go_simp
        with_reducible rfl
       rotate_left
       ·simp only [Act.put, List.setIfInBounds_toArray, List.set_cons_zero, List.set_cons_succ, i64_w, i32_w]
        rfl
       refine pure_ (i := 2) (N := some 76) (v := ?_) (a' := ?_) #[true, true, true, false, false, false, false, false, false, false, false, false, false, false, false, false, false, false, false, false, false, false, false, false, false, false, false, false, false, false, false, false] rfl rfl (any_of HT_.out (by kernel_rfl)) (fun _ _ _ h => h) (Or.inl ⟨by rfl, ?_⟩) ?_ ?_
       rotate_left
       ·intro w'
        go_simp
        with_reducible rfl
       rotate_left
       ·simp only [Act.put, List.setIfInBounds_toArray, List.set_cons_zero, List.set_cons_succ, i64_w, i32_w]
        rfl
       refine pure_ (i := 3) (N := some 77) (v := ?_) (a' := ?_) #[true, true, true, true, false, false, false, false, false, false, false, false, false, false, false, false, false, false, false, false, false, false, false, false, false, false, false, false, false, false, false, false] rfl rfl (any_of HT_.out (by kernel_rfl)) (fun _ _ _ h => h) (Or.inl ⟨by rfl, ?_⟩) ?_ ?_
       rotate_left
       ·intro w'
        go_simp
        with_reducible rfl
       rotate_left
       ·simp only [Act.put, List.setIfInBounds_toArray, List.set_cons_zero, List.set_cons_succ, i64_w, i32_w]
        rfl
       refine pure_ (i := 4) (N := some 78) (v := ?_) (a' := ?_) #[true, true, true, true, true, false, false, false, false, false, false, false, false, false, false, false, false, false, false, false, false, false, false, false, false, false, false, false, false, false, false, false] rfl rfl (any_of HT_.out (by kernel_rfl)) (fun _ _ _ h => h) (Or.inl ⟨by rfl, ?_⟩) ?_ ?_
       rotate_left
       ·intro w'
        go_simp
        with_reducible rfl
       rotate_left
       ·simp only [Act.put, List.setIfInBounds_toArray, List.set_cons_zero, List.set_cons_succ, i64_w, i32_w]
        rfl
       refine pure_ (i := 6) (N := some 80) (v := ?_) (a' := ?_) #[true, true, true, true, true, false, true, false, false, false, false, false, false, false, false, false, false, false, false, false, false, false, false, false, false, false, false, false, false, false, false, false] rfl rfl (any_of HT_.out (by kernel_rfl)) (fun _ _ _ h => h) (Or.inl ⟨by rfl, ?_⟩) ?_ ?_
       rotate_left
       ·intro w'
        go_simp
        with_reducible rfl
       rotate_left
       ·simp only [Act.put, List.setIfInBounds_toArray, List.set_cons_zero, List.set_cons_succ, i64_w, i32_w]
        rfl
       refine pure_ (i := 7) (N := some 81) (v := ?_) (a' := ?_) #[true, true, true, true, true, false, true, true, false, false, false, false, false, false, false, false, false, false, false, false, false, false, false, false, false, false, false, false, false, false, false, false] rfl rfl (any_of HT_.out (by kernel_rfl)) (fun _ _ _ h => h) (Or.inl ⟨by rfl, ?_⟩) ?_ ?_
       rotate_left
       ·intro w'
        go_simp
        with_reducible rfl
       rotate_left
       ·simp only [Act.put, List.setIfInBounds_toArray, List.set_cons_zero, List.set_cons_succ, i64_w, i32_w]
        rfl
       refine pure_ (i := 8) (N := some 82) (v := ?_) (a' := ?_) #[true, true, true, true, true, false, true, true, true, false, false, false, false, false, false, false, false, false, false, false, false, false, false, false, false, false, false, false, false, false, false, false] rfl rfl (any_of HT_.out (by kernel_rfl)) (fun _ _ _ h => h) (Or.inl ⟨by rfl, ?_⟩) ?_ ?_
       rotate_left
       ·intro w'
        go_simp
        with_reducible rfl
       rotate_left
       ·simp only [Act.put, List.setIfInBounds_toArray, List.set_cons_zero, List.set_cons_succ, i64_w, i32_w]
        rfl
       refine pure_ (i := 9) (N := some 83) (v := ?_) (a' := ?_) #[true, true, true, true, true, false, true, true, true, true, false, false, false, false, false, false, false, false, false, false, false, false, false, false, false, false, false, false, false, false, false, false] rfl rfl (any_of HT_.out (by kernel_rfl)) (fun _ _ _ h => h) (Or.inl ⟨by rfl, ?_⟩) ?_ ?_
       rotate_left
       ·intro w'
        go_simp
        with_reducible rfl
       rotate_left
       ·simp only [Act.put, List.setIfInBounds_toArray, List.set_cons_zero, List.set_cons_succ, i64_w, i32_w]
        rfl
       refine pure_ (i := 10) (N := some 84) (v := ?_) (a' := ?_) #[true, true, true, true, true, false, true, true, true, true, true, false, false, false, false, false, false, false, false, false, false, false, false, false, false, false, false, false, false, false, false, false] rfl rfl (any_of HT_.out (by kernel_rfl)) (fun _ _ _ h => h) (Or.inl ⟨by rfl, ?_⟩) ?_ ?_
       rotate_left
       ·intro w'
        go_simp
        with_reducible rfl
       rotate_left
       ·simp only [Act.put, List.setIfInBounds_toArray, List.set_cons_zero, List.set_cons_succ, i64_w, i32_w]
        rfl
       refine pure_ (i := 11) (N := some 85) (v := ?_) (a' := ?_) #[true, true, true, true, true, false, true, true, true, true, true, true, false, false, false, false, false, false, false, false, false, false, false, false, false, false, false, false, false, false, false, false] rfl rfl (any_of HT_.out (by kernel_rfl)) (fun _ _ _ h => h) (Or.inl ⟨by rfl, ?_⟩) ?_ ?_
       rotate_left
       ·intro w'
        go_simp
        with_reducible rfl
       rotate_left
       ·simp only [Act.put, List.setIfInBounds_toArray, List.set_cons_zero, List.set_cons_succ, i64_w, i32_w]
        rfl
       refine pure_ (i := 13) (N := some 87) (v := ?_) (a' := ?_) #[true, true, true, true, true, false, true, true, true, true, true, true, false, true, false, false, false, false, false, false, false, false, false, false, false, false, false, false, false, false, false, false] rfl rfl (any_of HT_.out (by kernel_rfl)) (fun _ _ _ h => h) (Or.inl ⟨by rfl, ?_⟩) ?_ ?_
       rotate_left
       ·intro w'
        go_simp
        with_reducible rfl
       rotate_left
       ·simp only [Act.put, List.setIfInBounds_toArray, List.set_cons_zero, List.set_cons_succ, i64_w, i32_w]
        rfl
       refine pure_ (i := 14) (N := some 88) (v := ?_) (a' := ?_) #[true, true, true, true, true, false, true, true, true, true, true, true, false, true, true, false, false, false, false, false, false, false, false, false, false, false, false, false, false, false, false, false] rfl rfl (any_of HT_.out (by kernel_rfl)) (fun _ _ _ h => h) (Or.inl ⟨by rfl, ?_⟩) ?_ ?_
       rotate_left
       ·intro w'
        go_simp
        with_reducible rfl
       rotate_left
       ·simp only [Act.put, List.setIfInBounds_toArray, List.set_cons_zero, List.set_cons_succ, i64_w, i32_w]
        rfl
       refine pure_ (i := 15) (N := some 89) (v := ?_) (a' := ?_) #[true, true, true, true, true, false, true, true, true, true, true, true, false, true, true, true, false, false, false, false, false, false, false, false, false, false, false, false, false, false, false, false] rfl rfl (any_of HT_.out (by kernel_rfl)) (fun _ _ _ h => h) (Or.inl ⟨by rfl, ?_⟩) ?_ ?_
       rotate_left
       ·intro w'
        go_simp
        with_reducible rfl
       rotate_left
       ·simp only [Act.put, List.setIfInBounds_toArray, List.set_cons_zero, List.set_cons_succ, i64_w, i32_w]
        rfl
       refine pure_ (i := 16) (N := some 90) (v := ?_) (a' := ?_) #[true, true, true, true, true, false, true, true, true, true, true, true, false, true, true, true, true, false, false, false, false, false, false, false, false, false, false, false, false, false, false, false] rfl rfl (any_of HT_.out (by kernel_rfl)) (fun _ _ _ h => h) (Or.inl ⟨by rfl, ?_⟩) ?_ ?_
       rotate_left
       ·intro w'
        go_simp
        with_reducible rfl
       rotate_left
       ·simp only [Act.put, List.setIfInBounds_toArray, List.set_cons_zero, List.set_cons_succ, i64_w, i32_w]
        rfl
       refine pure_ (i := 17) (N := some 91) (v := ?_) (a' := ?_) #[true, true, true, true, true, false, true, true, true, true, true, true, false, true, true, true, true, true, false, false, false, false, false, false, false, false, false, false, false, false, false, false] rfl rfl (any_of HT_.out (by kernel_rfl)) (fun _ _ _ h => h) (Or.inl ⟨by rfl, ?_⟩) ?_ ?_
       rotate_left
       ·intro w'
        go_simp
        with_reducible rfl
       rotate_left
       ·simp only [Act.put, List.setIfInBounds_toArray, List.set_cons_zero, List.set_cons_succ, i64_w, i32_w]
        rfl
       refine pure_ (i := 18) (N := some 92) (v := ?_) (a' := ?_) #[true, true, true, true, true, false, true, true, true, true, true, true, false, true, true, true, true, true, true, false, false, false, false, false, false, false, false, false, false, false, false, false] rfl rfl (any_of HT_.out (by kernel_rfl)) (fun _ _ _ h => h) (Or.inl ⟨by rfl, ?_⟩) ?_ ?_
       rotate_left
       ·intro w'
        go_simp
        with_reducible rfl
       rotate_left
       ·simp only [Act.put, List.setIfInBounds_toArray, List.set_cons_zero, List.set_cons_succ, i64_w, i32_w]
        rfl
       refine pure_ (i := 20) (N := some 94) (v := ?_) (a' := ?_) #[true, true, true, true, true, false, true, true, true, true, true, true, false, true, true, true, true, true, true, false, true, false, false, false, false, false, false, false, false, false, false, false] rfl rfl (any_of HT_.out (by kernel_rfl)) (fun _ _ _ h => h) (Or.inl ⟨by rfl, ?_⟩) ?_ ?_
       rotate_left
       ·intro w'
        go_simp
        with_reducible rfl
       rotate_left
       ·simp only [Act.put, List.setIfInBounds_toArray, List.set_cons_zero, List.set_cons_succ, i64_w, i32_w]
        rfl
       refine pure_ (i := 21) (N := some 95) (v := ?_) (a' := ?_) #[true, true, true, true, true, false, true, true, true, true, true, true, false, true, true, true, true, true, true, false, true, true, false, false, false, false, false, false, false, false, false, false] rfl rfl (any_of HT_.out (by kernel_rfl)) (fun _ _ _ h => h) (Or.inl ⟨by rfl, ?_⟩) ?_ ?_
       rotate_left
       ·intro w'
        go_simp
        with_reducible rfl
       rotate_left
       ·simp only [Act.put, List.setIfInBounds_toArray, List.set_cons_zero, List.set_cons_succ, i64_w, i32_w]
        rfl
       refine pure_ (i := 22) (N := some 96) (v := ?_) (a' := ?_) #[true, true, true, true, true, false, true, true, true, true, true, true, false, true, true, true, true, true, true, false, true, true, true, false, false, false, false, false, false, false, false, false] rfl rfl (any_of HT_.out (by kernel_rfl)) (fun _ _ _ h => h) (Or.inl ⟨by rfl, ?_⟩) ?_ ?_
       rotate_left
       ·intro w'
        go_simp
        with_reducible rfl
       rotate_left
       ·simp only [Act.put, List.setIfInBounds_toArray, List.set_cons_zero, List.set_cons_succ, i64_w, i32_w]
        rfl
       refine pure_ (i := 23) (N := some 97) (v := ?_) (a' := ?_) #[true, true, true, true, true, false, true, true, true, true, true, true, false, true, true, true, true, true, true, false, true, true, true, true, false, false, false, false, false, false, false, false] rfl rfl (any_of HT_.out (by kernel_rfl)) (fun _ _ _ h => h) (Or.inl ⟨by rfl, ?_⟩) ?_ ?_
       rotate_left
       ·intro w'
        go_simp
        with_reducible rfl
       rotate_left
       ·simp only [Act.put, List.setIfInBounds_toArray, List.set_cons_zero, List.set_cons_succ, i64_w, i32_w]
        rfl
       refine pure_ (i := 25) (N := some 99) (v := ?_) (a' := ?_) #[true, true, true, true, true, false, true, true, true, true, true, true, false, true, true, true, true, true, true, false, true, true, true, true, false, true, false, false, false, false, false, false] rfl rfl (any_of HT_.out (by kernel_rfl)) (fun _ _ _ h => h) (Or.inl ⟨by rfl, ?_⟩) ?_ ?_
       rotate_left
       ·intro w'
        go_simp
        with_reducible rfl
       rotate_left
       ·simp only [Act.put, List.setIfInBounds_toArray, List.set_cons_zero, List.set_cons_succ, i64_w, i32_w]
        rfl
       refine pure_ (i := 26) (N := some 100) (v := ?_) (a' := ?_) #[true, true, true, true, true, false, true, true, true, true, true, true, false, true, true, true, true, true, true, false, true, true, true, true, false, true, true, false, false, false, false, false] rfl rfl (any_of HT_.out (by kernel_rfl)) (fun _ _ _ h => h) (Or.inl ⟨by rfl, ?_⟩) ?_ ?_
       rotate_left
       ·intro w'
        go_simp
        with_reducible rfl
       rotate_left
       ·simp only [Act.put, List.setIfInBounds_toArray, List.set_cons_zero, List.set_cons_succ, i64_w, i32_w]
        rfl
       refine pure_ (i := 27) (N := some 101) (v := ?_) (a' := ?_) #[true, true, true, true, true, false, true, true, true, true, true, true, false, true, true, true, true, true, true, false, true, true, true, true, false, true, true, true, false, false, false, false] rfl rfl (any_of HT_.out (by kernel_rfl)) (fun _ _ _ h => h) (Or.inl ⟨by rfl, ?_⟩) ?_ ?_
       rotate_left
       ·intro w'
        go_simp
        with_reducible rfl
       rotate_left
       ·simp only [Act.put, List.setIfInBounds_toArray, List.set_cons_zero, List.set_cons_succ, i64_w, i32_w]
        rfl
       refine pure_ (i := 28) (N := some 102) (v := ?_) (a' := ?_) #[true, true, true, true, true, false, true, true, true, true, true, true, false, true, true, true, true, true, true, false, true, true, true, true, false, true, true, true, true, false, false, false] rfl rfl (any_of HT_.out (by kernel_rfl)) (fun _ _ _ h => h) (Or.inl ⟨by rfl, ?_⟩) ?_ ?_
       rotate_left
       ·intro w'
        go_simp
        with_reducible rfl
       rotate_left
       ·simp only [Act.put, List.setIfInBounds_toArray, List.set_cons_zero, List.set_cons_succ, i64_w, i32_w]
        rfl
       refine take_ (i := 5) (N := some 79) (v := ?_) (a' := ?_) #[true, true, true, true, true, true, true, true, true, true, true, true, false, true, true, true, true, true, true, false, true, true, true, true, false, true, true, true, true, false, false, false] rfl rfl (take_ofW HT_.out HW_.out (by kernel_rfl)) (fun _ _ _ h => h) (Or.inl ⟨by rfl, ?_⟩) hHeld ?_ ?_
       rotate_left
       ·rintro w' ⟨s0, s1, s2, s3, s4⟩
        go_simp
        with_reducible rfl
       rotate_left
       ·simp only [Act.put, List.setIfInBounds_toArray, List.set_cons_zero, List.set_cons_succ, i64_w, i32_w]
        rfl
       refine take_ (i := 12) (N := some 86) (v := ?_) (a' := ?_) #[true, true, true, true, true, true, true, true, true, true, true, true, true, true, true, true, true, true, true, false, true, true, true, true, false, true, true, true, true, false, false, false] rfl rfl (take_ofW HT_.out HW_.out (by kernel_rfl)) (fun _ _ _ h => h) (Or.inl ⟨by rfl, ?_⟩) hHeld ?_ ?_
       rotate_left
       ·rintro w' ⟨s0, s1, s2, s3, s4⟩
        go_simp
        with_reducible rfl
       rotate_left
       ·simp only [Act.put, List.setIfInBounds_toArray, List.set_cons_zero, List.set_cons_succ, i64_w, i32_w]
        rfl
       refine take_ (i := 19) (N := some 93) (v := ?_) (a' := ?_) #[true, true, true, true, true, true, true, true, true, true, true, true, true, true, true, true, true, true, true, true, true, true, true, true, false, true, true, true, true, false, false, false] rfl rfl (take_ofW HT_.out HW_.out (by kernel_rfl)) (fun _ _ _ h => h) (Or.inl ⟨by rfl, ?_⟩) hHeld ?_ ?_
       rotate_left
       ·rintro w' ⟨s0, s1, s2, s3, s4⟩
        go_simp
        with_reducible rfl
       rotate_left
       ·simp only [Act.put, List.setIfInBounds_toArray, List.set_cons_zero, List.set_cons_succ, i64_w, i32_w]
        rfl
       refine take_ (i := 24) (N := some 98) (v := ?_) (a' := ?_) #[true, true, true, true, true, true, true, true, true, true, true, true, true, true, true, true, true, true, true, true, true, true, true, true, true, true, true, true, true, false, false, false] rfl rfl (take_ofW HT_.out HW_.out (by kernel_rfl)) (fun _ _ _ h => h) (Or.inl ⟨by rfl, ?_⟩) hHeld ?_ ?_
       rotate_left
       ·rintro w' ⟨s0, s1, s2, s3, s4⟩
        go_simp
        with_reducible rfl
       rotate_left
       ·simp only [Act.put, List.setIfInBounds_toArray, List.set_cons_zero, List.set_cons_succ, i64_w, i32_w]
        rfl
       refine take_ (i := 29) (N := some 103) (v := ?_) (a' := ?_) #[true, true, true, true, true, true, true, true, true, true, true, true, true, true, true, true, true, true, true, true, true, true, true, true, true, true, true, true, true, true, false, false] rfl rfl (take_ofW HT_.out HW_.out (by kernel_rfl)) (fun _ _ _ h => h) (Or.inl ⟨by rfl, ?_⟩) hHeld ?_ ?_
       rotate_left
       ·rintro w' ⟨s0, s1, s2, s3, s4⟩
        go_simp
        with_reducible rfl
       rotate_left
       ·simp only [Act.put, List.setIfInBounds_toArray, List.set_cons_zero, List.set_cons_succ, i64_w, i32_w]
        rfl
       refine one_ (i := 30) (N := some 104) #[true, true, true, true, true, true, true, true, true, true, true, true, true, true, true, true, true, true, true, true, true, true, true, true, true, true, true, true, true, true, true, false] rfl rfl (one_of HT_.out (by kernel_rfl)) (by decide) (fun K hK => ?_)
       refine goes_ Try.func68 (by kernel_rfl) rfl #[.int .u64 (rd x10_1 (wrap64 (x13_1 + (x9_1.length : Int)))), .int .u64 (rd x10_1 (wrap64 ((wrap64 (x13_1 + (x9_1.length : Int))) - 1))), .int .u64 (rd x10_1 (wrap64 ((wrap64 (x13_1 + (x9_1.length : Int))) - 2))), .int .u64 (rd x9_1 (wrap64 ((x9_1.length : Int) - 1))), .int .u64 (rd x9_1 (wrap64 ((x9_1.length : Int) - 2)))] (by rfl) rfl rfl ga ?_
       with_reducible refine (nat_digit.calls k1 (rd x10_1 (wrap64 (x13_1 + (x9_1.length : Int)))) (rd x10_1 (wrap64 ((wrap64 (x13_1 + (x9_1.length : Int))) - 1))) (rd x10_1 (wrap64 ((wrap64 (x13_1 + (x9_1.length : Int))) - 2))) (rd x9_1 (wrap64 ((x9_1.length : Int) - 1))) (rd x9_1 (wrap64 ((x9_1.length : Int) - 2))) t332 _ A45.out).mono ?_
       rintro e w' ⟨rfl, ⟨nd, rfl⟩⟩
       refine ⟨_, rfl, ?_⟩
       refine hK.out _ _ ⟨hHeld.1, hHeld.2.1, hHeld.2.2.1, hHeld.2.2.2.1, hHeld.2.2.2.2⟩ (fun hHeld => ?_)
       clear hK K
       refine norm_ (a' := ?_) ?_ ?_
       rotate_left
       ·show Act.put _ (some 104) _ = _
        simp only [Act.put, List.setIfInBounds_toArray, List.set_cons_zero, List.set_cons_succ, i64_w, i32_w]
        rfl
       refine pure_ (i := 31) (N := some 14) (v := ?_) (a' := ?_) #[true, true, true, true, true, true, true, true, true, true, true, true, true, true, true, true, true, true, true, true, true, true, true, true, true, true, true, true, true, true, true, true] rfl rfl (any_of HT_.out (by kernel_rfl)) (fun _ _ _ h => h) (Or.inl ⟨by rfl, ?_⟩) ?_ ?_
       rotate_left
       ·intro w'
        go_simp
        with_reducible rfl
       rotate_left
       ·simp only [Act.put, List.setIfInBounds_toArray, List.set_cons_zero, List.set_cons_succ, i64_w, i32_w]
        rfl
       refine done_ (done_of HT_.out (by kernel_rfl)) ?_
       have q58 : ((wrap64 ((wrap64 (x13_1 + (x9_1.length : Int))) + 1)) : Int) ≤ ((x10_1.length : Int) : Int) := od
       obtain ⟨i058, hi058, _, hsz58, _⟩ := info_parts info47
       have hroom58 : x10_1.length ≤ co30 := (Kd.R_reads' HO_10.out).2.1
       have hC58 : Kd.C (Kd.int .u64) _ (some ad327) x10_1.length x10_1 := (Kd.R_reads' HO_10.out).2.2
       have ql58 : (x13_1 : Int) ≤ ((wrap64 ((wrap64 (x13_1 + (x9_1.length : Int))) + 1)) : Int) := od
       have q058 : (0 : Int) ≤ (x13_1 : Int) := od
       have hcut58 := cut_mid (P := Try.prog) 49 47 .i64 .i64 Try.underlying49 hi058 1 hsz58 (some ad327) x10_1.length co30 x13_1 (wrap64 ((wrap64 (x13_1 + (x9_1.length : Int))) + 1)) q058 ql58 q58 hroom58
       have hr58 := Kd.C_mid (lo := (x13_1 : Int).toNat) (hi := ((wrap64 ((wrap64 (x13_1 + (x9_1.length : Int))) + 1)) : Int).toNat) (c := co30) hC58 (by omega) (by omega) hroom58
       obtain ⟨A58, hA58⟩ : ∃ A1, A1 = (if co30 = (x13_1 : Int).toNat then (some ad327) else ((some ad327) : Option Addr).map (·.add ((x13_1 : Int).toNat * 1))) := ⟨_, rfl⟩
       obtain ⟨c58, hc58⟩ : ∃ c1, c1 = co30 - (x13_1 : Int).toNat := ⟨_, rfl⟩
       have hy58 : y333.length = ((wrap64 ((wrap64 (x13_1 + (x9_1.length : Int))) + 1)) : Int).toNat - (x13_1 : Int).toNat := (by rw [Ny333.out, List.length_drop, List.length_take] <;> omega)
       rw [show ((x10_1).take ((wrap64 ((wrap64 (x13_1 + (x9_1.length : Int))) + 1)) : Int).toNat).drop (x13_1 : Int).toNat = y333 from Ny333.out.symm] at hr58
       replace hr58 : Kd.C (Kd.int .u64) _ A58 y333.length y333 := (by rw [hA58]; exact hr58)
       rw [← hy58, ← hA58, ← hc58] at hcut58
       have HR336 := Aside0.mk hr58
       have HC336 := Aside0.mk (show y333.length ≤ c58 from by rw [hy58, hc58]; exact Nat.sub_le_sub_right (Nat.le_trans (by omega) hroom58) _)
       have KC58 := Aside0.mk hc58
       clear hr58 hC58 hroom58 hi058 hsz58 hc58
       have KY58 := Aside0.mk hy58
       have KA58 := Aside0.mk hA58
       clear hy58 hA58
       have KL58 := Aside0.mk (show ((wrap64 ((wrap64 (x13_1 + (x9_1.length : Int))) + 1)) : Int).toNat ≤ x10_1.length from by omega)
       have KM58 := Aside0.mk (show (x13_1 : Int).toNat ≤ ((wrap64 ((wrap64 (x13_1 + (x9_1.length : Int))) + 1)) : Int).toNat from by omega)
       replace q58 := eq_true q58
       try go_wp2_with (first | ((with_reducible refine gate_callee (f := 69) rfl ?_); refine goesL_ (some 114) rfl rfl Try.func69 (by kernel_rfl) rfl #[.slice A58 y333.length c58, .slice (some ad330) x9_1.length co31, .int .u64 t332] rfl ga ?_; (with_reducible refine (nat_number_lessAt.calls (hq := (by rw [KA58.out, KC58.out, KY58.out]; simp only [viewOf])) k1 (fun k_ => some k_ = (.slice (some ad327) x10_1.length co30 : Value).ownBlock) (.slice (some ad327) x10_1.length co30) x10_1 x13_1 (wrap64 ((wrap64 (x13_1 + (x9_1.length : Int))) + 1)) _ _ x9_1 t332 true t338 w _ ?side1 ?side2 ?side3 ?side4 A49.out).mono ?_); (case side1 => repeat (first | (with_reducible first | exact HB.out | apply below_alloc | apply pw_below_drewN | apply below_drew1) | exact HB.out)); (case side2 => exact Kd.R_tight rfl HO_10.out); (case side3 => first | exact Kd.C_kept_ownV (HO_9.out) (fun k_ hk_ hs_ => (hk_.2.1) hs_) | exact Kd.C_kept_ownV (Kd.V_drewN (HO_9.out) _) (fun k_ hk_ hs_ => (hk_.2.1) hs_)); (case side4 => exact (Kd.V_reads' HO_9.out).2.1); rintro e w59 ⟨rfl, hy0, hb, hkp⟩; refine ⟨_, rfl, ?_⟩; have n0_ := Aside0.mk (Kd.V_mono (ok' := fun k_ => (P0_ k_ ∨ w.heap.size ≤ k_) ∧ some k_ ≠ (.slice (some ad327) x10_1.length co30 : Value).ownBlock ∧ some k_ ≠ (v312 : Value).ownBlock) (Kd.V_keptB (HO_9.out) hkp (fun k_ hk_ hs_ => (hk_.2.1) hs_)) (fun k_ hk_ => ⟨hk_.1.1, hk_.1.2.1, hk_.1.2.2⟩)); have n1_ := Aside0.mk (Kd.R_reok rfl hy0 (fun k_ e_ => HO_10.out.1 k_ e_)); have n2_ := Aside0.mk (Kd.R_mono (ok' := fun k_ => (w.heap.size ≤ k_) ∧ some k_ ≠ (.slice (some ad327) x10_1.length co30 : Value).ownBlock) (Kd.R_keptB (HO_12.out) hkp (fun k_ hk_ hs_ => (hk_.2) hs_)) (fun k_ hk_ => ⟨hk_.1.1, hk_.1.2⟩)); have n3_ := Aside0.mk (hb); clear HO_9; clear HO_10; clear HO_12; clear HB; have HO_9 := n0_; have HO_10 := n1_; have HO_12 := n2_; have HB := n3_; clear n0_ n1_ n2_ n3_; (try clear hb); (try clear hkp); (try clear hy0); have hlx60 := (Kd.R_reads' HO_10.out).1; have q60 : ((wrap64 ((wrap64 (x13_1 + (x9_1.length : Int))) + 1)) : Int) ≤ ((x10_1.length : Int) : Int) := od; obtain ⟨i060, hi060, _, hsz60, _⟩ := info_parts info47; have hroom60 : x10_1.length ≤ co30 := (Kd.R_reads' HO_10.out).2.1; have hroomc60 : t338.length ≤ co30 := (by rw [← hlx60]; exact hroom60); have hC60 : Kd.C (Kd.int .u64) _ (some ad327) t338.length t338 := (Kd.R_reads' HO_10.out).2.2; have ql60 : (x13_1 : Int) ≤ ((wrap64 ((wrap64 (x13_1 + (x9_1.length : Int))) + 1)) : Int) := od; have q060 : (0 : Int) ≤ (x13_1 : Int) := od; have hcut60 := cut_mid (P := Try.prog) 49 47 .i64 .i64 Try.underlying49 hi060 1 hsz60 (some ad327) x10_1.length co30 x13_1 (wrap64 ((wrap64 (x13_1 + (x9_1.length : Int))) + 1)) q060 ql60 q60 hroom60; have hr60 := Kd.C_mid (lo := (x13_1 : Int).toNat) (hi := ((wrap64 ((wrap64 (x13_1 + (x9_1.length : Int))) + 1)) : Int).toNat) (c := co30) hC60 (by omega) (by omega) hroomc60; obtain ⟨A60, hA60⟩ : ∃ A1, A1 = (if co30 = (x13_1 : Int).toNat then (some ad327) else ((some ad327) : Option Addr).map (·.add ((x13_1 : Int).toNat * 1))) := ⟨_, rfl⟩; obtain ⟨c60, hc60⟩ : ∃ c1, c1 = co30 - (x13_1 : Int).toNat := ⟨_, rfl⟩; have hy60 : y339.length = ((wrap64 ((wrap64 (x13_1 + (x9_1.length : Int))) + 1)) : Int).toNat - (x13_1 : Int).toNat := (by rw [Ny339.out, List.length_drop, List.length_take] <;> omega); rw [show ((t338).take ((wrap64 ((wrap64 (x13_1 + (x9_1.length : Int))) + 1)) : Int).toNat).drop (x13_1 : Int).toNat = y339 from Ny339.out.symm] at hr60; replace hr60 : Kd.C (Kd.int .u64) _ A60 y339.length y339 := (by rw [hA60]; exact hr60); rw [← hy60, ← hA60, ← hc60] at hcut60; have HR342 := Aside0.mk hr60; have HC342 := Aside0.mk (show y339.length ≤ c60 from by rw [hy60, hc60]; exact Nat.sub_le_sub_right (Nat.le_trans (by omega) hroom60) _); have KC60 := Aside0.mk hc60; clear hr60 hC60 hroom60 hi060 hsz60 hc60 hroomc60; have KY60 := Aside0.mk hy60; have KA60 := Aside0.mk hA60; clear hy60 hA60; have KE60 := Aside0.mk hlx60; have KL60 := Aside0.mk (show ((wrap64 ((wrap64 (x13_1 + (x9_1.length : Int))) + 1)) : Int).toNat ≤ t338.length from by omega); have KM60 := Aside0.mk (show (x13_1 : Int).toNat ≤ ((wrap64 ((wrap64 (x13_1 + (x9_1.length : Int))) + 1)) : Int).toNat from by omega); clear hlx60; replace q60 := eq_true q60) | ((with_reducible refine gate_callee (f := 70) rfl ?_); refine goesL_ (some 125) rfl rfl Try.func70 (by kernel_rfl) rfl #[.slice A58 y333.length c58, .slice (some ad330) x9_1.length co31] rfl ga ?_; (with_reducible refine (nat_number_backAt.calls (hq := (by rw [KA58.out, KC58.out, KY58.out]; simp only [viewOf])) k1 (fun k_ => some k_ = (.slice (some ad327) x10_1.length co30 : Value).ownBlock) (.slice (some ad327) x10_1.length co30) t338 x13_1 (wrap64 ((wrap64 (x13_1 + (x9_1.length : Int))) + 1)) _ _ x9_1 t343 w _ ?side1 ?side2 ?side3 ?side4 A54.out).mono ?_); (case side1 => repeat (first | (with_reducible first | exact HB.out | apply below_alloc | apply pw_below_drewN | apply below_drew1) | exact HB.out)); (case side2 => exact Kd.R_tight rfl HO_10.out); (case side3 => first | exact Kd.C_kept_ownV (HO_9.out) (fun k_ hk_ hs_ => (hk_.2.1) hs_) | exact Kd.C_kept_ownV (Kd.V_drewN (HO_9.out) _) (fun k_ hk_ hs_ => (hk_.2.1) hs_)); (case side4 => exact (Kd.V_reads' HO_9.out).2.1); rintro e w61 ⟨rfl, hy0, hb, hkp⟩; refine ⟨_, rfl, ?_⟩; have n0_ := Aside0.mk (Kd.V_mono (ok' := fun k_ => (P0_ k_ ∨ w.heap.size ≤ k_) ∧ some k_ ≠ (.slice (some ad327) x10_1.length co30 : Value).ownBlock ∧ some k_ ≠ (v312 : Value).ownBlock) (Kd.V_keptB (HO_9.out) hkp (fun k_ hk_ hs_ => (hk_.2.1) hs_)) (fun k_ hk_ => ⟨hk_.1.1, hk_.1.2.1, hk_.1.2.2⟩)); have n1_ := Aside0.mk (Kd.R_reok rfl hy0 (fun k_ e_ => HO_10.out.1 k_ e_)); have n2_ := Aside0.mk (Kd.R_mono (ok' := fun k_ => (w.heap.size ≤ k_) ∧ some k_ ≠ (.slice (some ad327) x10_1.length co30 : Value).ownBlock) (Kd.R_keptB (HO_12.out) hkp (fun k_ hk_ hs_ => (hk_.2) hs_)) (fun k_ hk_ => ⟨hk_.1.1, hk_.1.2⟩)); have n3_ := Aside0.mk (hb); clear HO_9; clear HO_10; clear HO_12; clear HB; have HO_9 := n0_; have HO_10 := n1_; have HO_12 := n2_; have HB := n3_; clear n0_ n1_ n2_ n3_; (try clear hb); (try clear hkp); (try clear hy0); have p56 : 0 ≤ (x13_1 : Int) := od; have q56 : (x13_1 : Int) < ((x12_1.length : Int) : Int) := od; obtain ⟨go56, co56, eo56, gb56, gl56, cl56, HG56⟩ := Kd.R_form HO_12.out (by omega); (first | cases eo56 | (injection eo56 with ea_ en_ ec_; (first | subst ea_ | (injection ea_ with ea_; subst ea_)); subst ec_; clear en_)); have GB56 := Aside0.mk gb56; have GG56 := Aside0.mk HG56; clear gb56 gl56 HG56; obtain ⟨hx56_0, hf56_0⟩ := Kd.R_celln 0 HO_12.out (x13_1 : Int) p56 q56; replace p56 := eq_true p56; replace q56 := eq_true q56; obtain ⟨hy62_, hz62_⟩ := Kd.R_celln 0 HO_12.out (x13_1 : Int) (od) (od); have HP62 := Kd.R_putg HO_12.out (x13_1 : Int) (IntKind.u64.wrap (t332 - 1))) | ((with_reducible refine gate_store (t := 47) (p := 129) rfl ?_); refine store_event (t := 47) (p := 129) (v := ?vo_w63) (w1 := (w61.setCell ⟨go56, (x13_1 : Int).toNat, none⟩ (.int .u64 (IntKind.u64.wrap (t332 - 1))))) ?hg ?ho ?hn ?hr ?_; (case ho => rfl); (case hg => rfl); (case hn => rfl); (case hr => first | (go_simp; done) | (go_simp; rfl)); intro w63 hw; have hg : w61.grownBy w63 (some go56) := (by rw [hw]; exact HP62.2); have hp_ : Kd.R (Kd.int .u64) 47 w63 w.heap.size (fun k_ => (w.heap.size ≤ k_) ∧ some k_ ≠ (.slice (some ad327) x10_1.length co30 : Value).ownBlock) (.slice (some ⟨go56, 0, none⟩) x12_1.length co56) y344 := (by rw [hw, Ny344.out]; exact HP62.1); clear HP62; have n0_ := Aside0.mk (Kd.V_afterv (v := (.slice (some ⟨go56, 0, none⟩) x12_1.length co56)) (v1 := (.slice (some ⟨go56, 0, none⟩) x12_1.length co56)) (ok := (fun k_ => (P0_ k_ ∨ w.heap.size ≤ k_) ∧ some k_ ≠ (.slice (some ad327) x10_1.length co30 : Value).ownBlock)) (by (with_reducible repeat (first | apply Kd.V_alloc | apply Kd.V_drewN | apply Kd.V_drew)); exact Kd.V_mono HO_9.out (fun _ hk => ⟨⟨hk.1, hk.2.1⟩, hk.2.2⟩)) hg (.inl rfl)); have n1_ := Aside0.mk (Kd.R_after (v := (.slice (some ⟨go56, 0, none⟩) x12_1.length co56)) (v1 := (.slice (some ⟨go56, 0, none⟩) x12_1.length co56)) (ok := (fun k_ => (w.heap.size ≤ k_))) (ru HO_10.out) hg (.inl rfl)); have n2_ := Aside0.mk (hp_); have n3_ := Aside0.mk ((by rw [hw]; exact below_set (HB.out) GB56.out : Below w.heap.size w w63)); clear HO_9; clear HO_10; clear HO_12; clear HB; have HO_9 := n0_; have HO_10 := n1_; have HO_12 := n2_; have HB := n3_; clear n0_ n1_ n2_ n3_; clear hg hw hp_))
       (try simp only [← hl9_1, ← hl10_1])
       go_roundg k1
       case measure => have := HK1.out; omega
       case rel => exact ⟨(x9_1), (t343), (y344), (wrap64 (x13_1 - 1)), (by first | rfl | (simp; done) | (simp [*]; done)), (by first | exact H' | (rw [hl9_1]; exact H')), ⟨by have := HK1.out; omega⟩, ⟨by (try simp only [hl9_1]); (try simp only [hl10_1]); (with_reducible repeat (first | apply Kd.V_alloc | apply Kd.V_drewN | apply Kd.V_drew)); exact Kd.V_mono HO_9.out (fun _ hk => ⟨hk.1.1, ⟨hk.1.2, hk.2⟩⟩)⟩, ⟨by (try simp only [hl9_1]); (try simp only [hl10_1]); (with_reducible repeat (first | apply Kd.R_alloc | apply Kd.R_drewN | apply Kd.R_drew)); exact HO_10.out⟩, ⟨by (try simp only [hl9_1]); (try simp only [hl10_1]); (with_reducible repeat (first | apply Kd.R_alloc | apply Kd.R_drewN | apply Kd.R_drew)); exact HO_12.out⟩, ⟨bq⟩⟩
      ·replace c50 := Bool.eq_false_iff.mpr c50
       subst c50
       rw [if_neg (show ¬ (false = true) by decide)] at H
       replace H := dn H
       obtain ⟨c64, H⟩ := H
       have c64b0 : decide (x13_1 < (x12_1.length : Int)) = true := decide_eq_true c64
       have keepo_c64b0 := c64b0
       (try rw [hl9_1] at c64b0)
       (try rw [hl10_1] at c64b0)
       clear c64
       obtain ⟨y345, hy345⟩ : ∃ y_ : List Int, y_ = (x12_1.set (x13_1 : Int).toNat t332) := ⟨_, rfl⟩
       replace H : (nat_number_div.l0 k1 t300 x9_1 t338 (x9_1.length : Int) y345 (wrap64 (x13_1 - 1))) = some (r1, r2) := by first | (rw [hy345]; with_reducible exact H) | (have H2_ := (Option.bind_some _ _).symm.trans H; rw [hy345]; with_reducible exact H2_) | (have H2_ := (Option.bind_some _ _).symm.trans H; with_reducible exact H2_) | with_reducible exact H | (rw [hy345]; exact H) | exact H
       have Ny345 := Aside0.mk hy345
       clear hy345
       have H' := Aside0.mk H
       clear H
       try go_wp2
       have n0_ := Aside0.mk (Kd.V_drew HO_9.out)
       have n1_ := Aside0.mk (Kd.R_drew HO_10.out)
       have n2_ := Aside0.mk (Kd.R_drew HO_12.out)
       have n3_ := Aside0.mk (below_drew1 HB.out)
       clear HO_9
       clear HO_10
       clear HO_12
       clear HB
       have HO_9 := n0_
       have HO_10 := n1_
       have HO_12 := n2_
       have HB := n3_
       clear n0_ n1_ n2_ n3_
       have p327 : 0 ≤ ((wrap64 (x13_1 + (x9_1.length : Int))) : Int) := od
       have q327 : (wrap64 (x13_1 + (x9_1.length : Int))) < (x10_1.length : Int) := od
       obtain ⟨ad327, e327, hx327_0⟩ := Kd.at_int (Kd.R_reads' HO_10.out).2.2 (wrap64 (x13_1 + (x9_1.length : Int))) p327 q327
       cases e327
       (try simp only [hl9_1, hl10_1] at p327)
       (try simp only [hl9_1, hl10_1] at q327)
       (try simp only [hl9_1, hl10_1] at hx327_0)
       replace p327 := eq_true p327
       replace q327 := eq_true q327
       have p328 : 0 ≤ ((wrap64 ((wrap64 (x13_1 + (x9_1.length : Int))) - 1)) : Int) := od
       have q328 : (wrap64 ((wrap64 (x13_1 + (x9_1.length : Int))) - 1)) < (x10_1.length : Int) := od
       obtain ⟨ad328, e328, hx328_0⟩ := Kd.at_int (Kd.R_reads' HO_10.out).2.2 (wrap64 ((wrap64 (x13_1 + (x9_1.length : Int))) - 1)) p328 q328
       obtain rfl : ad327 = ad328 := (by injection e328)
       (try simp only [hl9_1, hl10_1] at p328)
       (try simp only [hl9_1, hl10_1] at q328)
       (try simp only [hl9_1, hl10_1] at hx328_0)
       replace p328 := eq_true p328
       replace q328 := eq_true q328
       have p329 : 0 ≤ ((wrap64 ((wrap64 (x13_1 + (x9_1.length : Int))) - 2)) : Int) := od
       have q329 : (wrap64 ((wrap64 (x13_1 + (x9_1.length : Int))) - 2)) < (x10_1.length : Int) := od
       obtain ⟨ad329, e329, hx329_0⟩ := Kd.at_int (Kd.R_reads' HO_10.out).2.2 (wrap64 ((wrap64 (x13_1 + (x9_1.length : Int))) - 2)) p329 q329
       obtain rfl : ad327 = ad329 := (by injection e329)
       (try simp only [hl9_1, hl10_1] at p329)
       (try simp only [hl9_1, hl10_1] at q329)
       (try simp only [hl9_1, hl10_1] at hx329_0)
       replace p329 := eq_true p329
       replace q329 := eq_true q329
       have p330 : 0 ≤ ((wrap64 ((x9_1.length : Int) - 1)) : Int) := od
       have q330 : (wrap64 ((x9_1.length : Int) - 1)) < (x9_1.length : Int) := od
       obtain ⟨ad330, e330, hx330_0⟩ := Kd.at_int (Kd.V_reads' HO_9.out).2.2 (wrap64 ((x9_1.length : Int) - 1)) p330 q330
       cases e330
       (try simp only [hl9_1, hl10_1] at p330)
       (try simp only [hl9_1, hl10_1] at q330)
       (try simp only [hl9_1, hl10_1] at hx330_0)
       replace p330 := eq_true p330
       replace q330 := eq_true q330
       have p331 : 0 ≤ ((wrap64 ((x9_1.length : Int) - 2)) : Int) := od
       have q331 : (wrap64 ((x9_1.length : Int) - 2)) < (x9_1.length : Int) := od
       obtain ⟨ad331, e331, hx331_0⟩ := Kd.at_int (Kd.V_reads' HO_9.out).2.2 (wrap64 ((x9_1.length : Int) - 2)) p331 q331
       obtain rfl : ad330 = ad331 := (by injection e331)
       (try simp only [hl9_1, hl10_1] at p331)
       (try simp only [hl9_1, hl10_1] at q331)
       (try simp only [hl9_1, hl10_1] at hx331_0)
       replace p331 := eq_true p331
       replace q331 := eq_true q331
       refine start_ (n := 32) (S := fun w' => w'.cell? (ad327.add ((wrap64 (x13_1 + (x9_1.length : Int)))).toNat) = some (.int .u64 (rd x10_1 (wrap64 (x13_1 + (x9_1.length : Int))))) ∧ w'.cell? (ad327.add ((wrap64 ((wrap64 (x13_1 + (x9_1.length : Int))) - 1))).toNat) = some (.int .u64 (rd x10_1 (wrap64 ((wrap64 (x13_1 + (x9_1.length : Int))) - 1)))) ∧ w'.cell? (ad327.add ((wrap64 ((wrap64 (x13_1 + (x9_1.length : Int))) - 2))).toNat) = some (.int .u64 (rd x10_1 (wrap64 ((wrap64 (x13_1 + (x9_1.length : Int))) - 2)))) ∧ w'.cell? (ad330.add ((wrap64 ((x9_1.length : Int) - 1))).toNat) = some (.int .u64 (rd x9_1 (wrap64 ((x9_1.length : Int) - 1)))) ∧ w'.cell? (ad330.add ((wrap64 ((x9_1.length : Int) - 2))).toNat) = some (.int .u64 (rd x9_1 (wrap64 ((x9_1.length : Int) - 2))))) (ds := []) #[false, false, false, false, false, false, false, false, false, false, false, false, false, false, false, false, false, false, false, false, false, false, false, false, false, false, false, false, false, false, false, false] (by kernel_rfl) rfl rfl ⟨hx327_0, hx328_0, hx329_0, hx330_0, hx331_0⟩ (fun hHeld => ?_); refine with_tabW nat_number_div.tab15 nat_number_div.bits15 (fun HT_ HW_ => ?_)
       generalize wr.drew = w66 at HO_9 HO_10 HO_12 HB hx327_0 hx328_0 hx329_0 hx330_0 hx331_0 hHeld ⊢
       refine pure_ (i := 0) (N := some 74) (v := ?_) (a' := ?_) #[true, false, false, false, false, false, false, false, false, false, false, false, false, false, false, false, false, false, false, false, false, false, false, false, false, false, false, false, false, false, false, false] rfl rfl (any_of HT_.out (by kernel_rfl)) (fun _ _ _ h => h) (Or.inl ⟨by rfl, ?_⟩) ?_ ?_
       rotate_left
       ·intro w'
        go_simp
        with_reducible rfl
       rotate_left
       ·simp only [Act.put, List.setIfInBounds_toArray, List.set_cons_zero, List.set_cons_succ, i64_w, i32_w]
        rfl
       refine pure_ (i := 1) (N := some 75) (v := ?_) (a' := ?_) #[true, true, false, false, false, false, false, false, false, false, false, false, false, false, false, false, false, false, false, false, false, false, false, false, false, false, false, false, false, false, false, false] rfl rfl (any_of HT_.out (by kernel_rfl)) (fun _ _ _ h => h) (Or.inl ⟨by rfl, ?_⟩) ?_ ?_
       rotate_left
       ·intro w'
        go_simp
        with_reducible rfl
       rotate_left
       ·simp only [Act.put, List.setIfInBounds_toArray, List.set_cons_zero, List.set_cons_succ, i64_w, i32_w]
        rfl
       refine pure_ (i := 2) (N := some 76) (v := ?_) (a' := ?_) #[true, true, true, false, false, false, false, false, false, false, false, false, false, false, false, false, false, false, false, false, false, false, false, false, false, false, false, false, false, false, false, false] rfl rfl (any_of HT_.out (by kernel_rfl)) (fun _ _ _ h => h) (Or.inl ⟨by rfl, ?_⟩) ?_ ?_
       rotate_left
       ·intro w'
        go_simp
        with_reducible rfl
       rotate_left
       ·simp only [Act.put, List.setIfInBounds_toArray, List.set_cons_zero, List.set_cons_succ, i64_w, i32_w]
        rfl
       refine pure_ (i := 3) (N := some 77) (v := ?_) (a' := ?_) #[true, true, true, true, false, false, false, false, false, false, false, false, false, false, false, false, false, false, false, false, false, false, false, false, false, false, false, false, false, false, false, false] rfl rfl (any_of HT_.out (by kernel_rfl)) (fun _ _ _ h => h) (Or.inl ⟨by rfl, ?_⟩) ?_ ?_
       rotate_left
       ·intro w'
        go_simp
        with_reducible rfl
       rotate_left
       ·simp only [Act.put, List.setIfInBounds_toArray, List.set_cons_zero, List.set_cons_succ, i64_w, i32_w]
        rfl
       refine pure_ (i := 4) (N := some 78) (v := ?_) (a' := ?_) #[true, true, true, true, true, false, false, false, false, false, false, false, false, false, false, false, false, false, false, false, false, false, false, false, false, false, false, false, false, false, false, false] rfl rfl (any_of HT_.out (by kernel_rfl)) (fun _ _ _ h => h) (Or.inl ⟨by rfl, ?_⟩) ?_ ?_
       rotate_left
       ·intro w'
        go_simp
        with_reducible rfl
       rotate_left
       ·simp only [Act.put, List.setIfInBounds_toArray, List.set_cons_zero, List.set_cons_succ, i64_w, i32_w]
        rfl
       refine pure_ (i := 6) (N := some 80) (v := ?_) (a' := ?_) #[true, true, true, true, true, false, true, false, false, false, false, false, false, false, false, false, false, false, false, false, false, false, false, false, false, false, false, false, false, false, false, false] rfl rfl (any_of HT_.out (by kernel_rfl)) (fun _ _ _ h => h) (Or.inl ⟨by rfl, ?_⟩) ?_ ?_
       rotate_left
       ·intro w'
        go_simp
        with_reducible rfl
       rotate_left
       ·simp only [Act.put, List.setIfInBounds_toArray, List.set_cons_zero, List.set_cons_succ, i64_w, i32_w]
        rfl
       refine pure_ (i := 7) (N := some 81) (v := ?_) (a' := ?_) #[true, true, true, true, true, false, true, true, false, false, false, false, false, false, false, false, false, false, false, false, false, false, false, false, false, false, false, false, false, false, false, false] rfl rfl (any_of HT_.out (by kernel_rfl)) (fun _ _ _ h => h) (Or.inl ⟨by rfl, ?_⟩) ?_ ?_
       rotate_left
       ·intro w'
        go_simp
        with_reducible rfl
       rotate_left
       ·simp only [Act.put, List.setIfInBounds_toArray, List.set_cons_zero, List.set_cons_succ, i64_w, i32_w]
        rfl
       refine pure_ (i := 8) (N := some 82) (v := ?_) (a' := ?_) #[true, true, true, true, true, false, true, true, true, false, false, false, false, false, false, false, false, false, false, false, false, false, false, false, false, false, false, false, false, false, false, false] rfl rfl (any_of HT_.out (by kernel_rfl)) (fun _ _ _ h => h) (Or.inl ⟨by rfl, ?_⟩) ?_ ?_
       rotate_left
       ·intro w'
        go_simp
        with_reducible rfl
       rotate_left
       ·simp only [Act.put, List.setIfInBounds_toArray, List.set_cons_zero, List.set_cons_succ, i64_w, i32_w]
        rfl
       refine pure_ (i := 9) (N := some 83) (v := ?_) (a' := ?_) #[true, true, true, true, true, false, true, true, true, true, false, false, false, false, false, false, false, false, false, false, false, false, false, false, false, false, false, false, false, false, false, false] rfl rfl (any_of HT_.out (by kernel_rfl)) (fun _ _ _ h => h) (Or.inl ⟨by rfl, ?_⟩) ?_ ?_
       rotate_left
       ·intro w'
        go_simp
        with_reducible rfl
       rotate_left
       ·simp only [Act.put, List.setIfInBounds_toArray, List.set_cons_zero, List.set_cons_succ, i64_w, i32_w]
        rfl
       refine pure_ (i := 10) (N := some 84) (v := ?_) (a' := ?_) #[true, true, true, true, true, false, true, true, true, true, true, false, false, false, false, false, false, false, false, false, false, false, false, false, false, false, false, false, false, false, false, false] rfl rfl (any_of HT_.out (by kernel_rfl)) (fun _ _ _ h => h) (Or.inl ⟨by rfl, ?_⟩) ?_ ?_
       rotate_left
       ·intro w'
        go_simp
        with_reducible rfl
       rotate_left
       ·simp only [Act.put, List.setIfInBounds_toArray, List.set_cons_zero, List.set_cons_succ, i64_w, i32_w]
        rfl
       refine pure_ (i := 11) (N := some 85) (v := ?_) (a' := ?_) #[true, true, true, true, true, false, true, true, true, true, true, true, false, false, false, false, false, false, false, false, false, false, false, false, false, false, false, false, false, false, false, false] rfl rfl (any_of HT_.out (by kernel_rfl)) (fun _ _ _ h => h) (Or.inl ⟨by rfl, ?_⟩) ?_ ?_
       rotate_left
       ·intro w'
        go_simp
        with_reducible rfl
       rotate_left
       ·simp only [Act.put, List.setIfInBounds_toArray, List.set_cons_zero, List.set_cons_succ, i64_w, i32_w]
        rfl
       refine pure_ (i := 13) (N := some 87) (v := ?_) (a' := ?_) #[true, true, true, true, true, false, true, true, true, true, true, true, false, true, false, false, false, false, false, false, false, false, false, false, false, false, false, false, false, false, false, false] rfl rfl (any_of HT_.out (by kernel_rfl)) (fun _ _ _ h => h) (Or.inl ⟨by rfl, ?_⟩) ?_ ?_
       rotate_left
       ·intro w'
        go_simp
        with_reducible rfl
       rotate_left
       ·simp only [Act.put, List.setIfInBounds_toArray, List.set_cons_zero, List.set_cons_succ, i64_w, i32_w]
        rfl
       refine pure_ (i := 14) (N := some 88) (v := ?_) (a' := ?_) #[true, true, true, true, true, false, true, true, true, true, true, true, false, true, true, false, false, false, false, false, false, false, false, false, false, false, false, false, false, false, false, false] rfl rfl (any_of HT_.out (by kernel_rfl)) (fun _ _ _ h => h) (Or.inl ⟨by rfl, ?_⟩) ?_ ?_
       rotate_left
       ·intro w'
        go_simp
        with_reducible rfl
       rotate_left
       ·simp only [Act.put, List.setIfInBounds_toArray, List.set_cons_zero, List.set_cons_succ, i64_w, i32_w]
        rfl
       refine pure_ (i := 15) (N := some 89) (v := ?_) (a' := ?_) #[true, true, true, true, true, false, true, true, true, true, true, true, false, true, true, true, false, false, false, false, false, false, false, false, false, false, false, false, false, false, false, false] rfl rfl (any_of HT_.out (by kernel_rfl)) (fun _ _ _ h => h) (Or.inl ⟨by rfl, ?_⟩) ?_ ?_
       rotate_left
       ·intro w'
        go_simp
        with_reducible rfl
       rotate_left
       ·simp only [Act.put, List.setIfInBounds_toArray, List.set_cons_zero, List.set_cons_succ, i64_w, i32_w]
        rfl
       refine pure_ (i := 16) (N := some 90) (v := ?_) (a' := ?_) #[true, true, true, true, true, false, true, true, true, true, true, true, false, true, true, true, true, false, false, false, false, false, false, false, false, false, false, false, false, false, false, false] rfl rfl (any_of HT_.out (by kernel_rfl)) (fun _ _ _ h => h) (Or.inl ⟨by rfl, ?_⟩) ?_ ?_
       rotate_left
       ·intro w'
        go_simp
        with_reducible rfl
       rotate_left
       ·simp only [Act.put, List.setIfInBounds_toArray, List.set_cons_zero, List.set_cons_succ, i64_w, i32_w]
        rfl
       refine pure_ (i := 17) (N := some 91) (v := ?_) (a' := ?_) #[true, true, true, true, true, false, true, true, true, true, true, true, false, true, true, true, true, true, false, false, false, false, false, false, false, false, false, false, false, false, false, false] rfl rfl (any_of HT_.out (by kernel_rfl)) (fun _ _ _ h => h) (Or.inl ⟨by rfl, ?_⟩) ?_ ?_
       rotate_left
       ·intro w'
        go_simp
        with_reducible rfl
       rotate_left
       ·simp only [Act.put, List.setIfInBounds_toArray, List.set_cons_zero, List.set_cons_succ, i64_w, i32_w]
        rfl
       refine pure_ (i := 18) (N := some 92) (v := ?_) (a' := ?_) #[true, true, true, true, true, false, true, true, true, true, true, true, false, true, true, true, true, true, true, false, false, false, false, false, false, false, false, false, false, false, false, false] rfl rfl (any_of HT_.out (by kernel_rfl)) (fun _ _ _ h => h) (Or.inl ⟨by rfl, ?_⟩) ?_ ?_
       rotate_left
       ·intro w'
        go_simp
        with_reducible rfl
       rotate_left
       ·simp only [Act.put, List.setIfInBounds_toArray, List.set_cons_zero, List.set_cons_succ, i64_w, i32_w]
        rfl
       refine pure_ (i := 20) (N := some 94) (v := ?_) (a' := ?_) #[true, true, true, true, true, false, true, true, true, true, true, true, false, true, true, true, true, true, true, false, true, false, false, false, false, false, false, false, false, false, false, false] rfl rfl (any_of HT_.out (by kernel_rfl)) (fun _ _ _ h => h) (Or.inl ⟨by rfl, ?_⟩) ?_ ?_
       rotate_left
       ·intro w'
        go_simp
        with_reducible rfl
       rotate_left
       ·simp only [Act.put, List.setIfInBounds_toArray, List.set_cons_zero, List.set_cons_succ, i64_w, i32_w]
        rfl
       refine pure_ (i := 21) (N := some 95) (v := ?_) (a' := ?_) #[true, true, true, true, true, false, true, true, true, true, true, true, false, true, true, true, true, true, true, false, true, true, false, false, false, false, false, false, false, false, false, false] rfl rfl (any_of HT_.out (by kernel_rfl)) (fun _ _ _ h => h) (Or.inl ⟨by rfl, ?_⟩) ?_ ?_
       rotate_left
       ·intro w'
        go_simp
        with_reducible rfl
       rotate_left
       ·simp only [Act.put, List.setIfInBounds_toArray, List.set_cons_zero, List.set_cons_succ, i64_w, i32_w]
        rfl
       refine pure_ (i := 22) (N := some 96) (v := ?_) (a' := ?_) #[true, true, true, true, true, false, true, true, true, true, true, true, false, true, true, true, true, true, true, false, true, true, true, false, false, false, false, false, false, false, false, false] rfl rfl (any_of HT_.out (by kernel_rfl)) (fun _ _ _ h => h) (Or.inl ⟨by rfl, ?_⟩) ?_ ?_
       rotate_left
       ·intro w'
        go_simp
        with_reducible rfl
       rotate_left
       ·simp only [Act.put, List.setIfInBounds_toArray, List.set_cons_zero, List.set_cons_succ, i64_w, i32_w]
        rfl
       refine pure_ (i := 23) (N := some 97) (v := ?_) (a' := ?_) #[true, true, true, true, true, false, true, true, true, true, true, true, false, true, true, true, true, true, true, false, true, true, true, true, false, false, false, false, false, false, false, false] rfl rfl (any_of HT_.out (by kernel_rfl)) (fun _ _ _ h => h) (Or.inl ⟨by rfl, ?_⟩) ?_ ?_
       rotate_left
       ·intro w'
        go_simp
        with_reducible rfl
       rotate_left
       ·simp only [Act.put, List.setIfInBounds_toArray, List.set_cons_zero, List.set_cons_succ, i64_w, i32_w]
        rfl
       refine pure_ (i := 25) (N := some 99) (v := ?_) (a' := ?_) #[true, true, true, true, true, false, true, true, true, true, true, true, false, true, true, true, true, true, true, false, true, true, true, true, false, true, false, false, false, false, false, false] rfl rfl (any_of HT_.out (by kernel_rfl)) (fun _ _ _ h => h) (Or.inl ⟨by rfl, ?_⟩) ?_ ?_
       rotate_left
       ·intro w'
        go_simp
        with_reducible rfl
       rotate_left
       ·simp only [Act.put, List.setIfInBounds_toArray, List.set_cons_zero, List.set_cons_succ, i64_w, i32_w]
        rfl
       refine pure_ (i := 26) (N := some 100) (v := ?_) (a' := ?_) #[true, true, true, true, true, false, true, true, true, true, true, true, false, true, true, true, true, true, true, false, true, true, true, true, false, true, true, false, false, false, false, false] rfl rfl (any_of HT_.out (by kernel_rfl)) (fun _ _ _ h => h) (Or.inl ⟨by rfl, ?_⟩) ?_ ?_
       rotate_left
       ·intro w'
        go_simp
        with_reducible rfl
       rotate_left
       ·simp only [Act.put, List.setIfInBounds_toArray, List.set_cons_zero, List.set_cons_succ, i64_w, i32_w]
        rfl
       refine pure_ (i := 27) (N := some 101) (v := ?_) (a' := ?_) #[true, true, true, true, true, false, true, true, true, true, true, true, false, true, true, true, true, true, true, false, true, true, true, true, false, true, true, true, false, false, false, false] rfl rfl (any_of HT_.out (by kernel_rfl)) (fun _ _ _ h => h) (Or.inl ⟨by rfl, ?_⟩) ?_ ?_
       rotate_left
       ·intro w'
        go_simp
        with_reducible rfl
       rotate_left
       ·simp only [Act.put, List.setIfInBounds_toArray, List.set_cons_zero, List.set_cons_succ, i64_w, i32_w]
        rfl
       refine pure_ (i := 28) (N := some 102) (v := ?_) (a' := ?_) #[true, true, true, true, true, false, true, true, true, true, true, true, false, true, true, true, true, true, true, false, true, true, true, true, false, true, true, true, true, false, false, false] rfl rfl (any_of HT_.out (by kernel_rfl)) (fun _ _ _ h => h) (Or.inl ⟨by rfl, ?_⟩) ?_ ?_
       rotate_left
       ·intro w'
        go_simp
        with_reducible rfl
       rotate_left
       ·simp only [Act.put, List.setIfInBounds_toArray, List.set_cons_zero, List.set_cons_succ, i64_w, i32_w]
        rfl
       refine take_ (i := 5) (N := some 79) (v := ?_) (a' := ?_) #[true, true, true, true, true, true, true, true, true, true, true, true, false, true, true, true, true, true, true, false, true, true, true, true, false, true, true, true, true, false, false, false] rfl rfl (take_ofW HT_.out HW_.out (by kernel_rfl)) (fun _ _ _ h => h) (Or.inl ⟨by rfl, ?_⟩) hHeld ?_ ?_
       rotate_left
       ·rintro w' ⟨s0, s1, s2, s3, s4⟩
        go_simp
        with_reducible rfl
       rotate_left
       ·simp only [Act.put, List.setIfInBounds_toArray, List.set_cons_zero, List.set_cons_succ, i64_w, i32_w]
        rfl
       refine take_ (i := 12) (N := some 86) (v := ?_) (a' := ?_) #[true, true, true, true, true, true, true, true, true, true, true, true, true, true, true, true, true, true, true, false, true, true, true, true, false, true, true, true, true, false, false, false] rfl rfl (take_ofW HT_.out HW_.out (by kernel_rfl)) (fun _ _ _ h => h) (Or.inl ⟨by rfl, ?_⟩) hHeld ?_ ?_
       rotate_left
       ·rintro w' ⟨s0, s1, s2, s3, s4⟩
        go_simp
        with_reducible rfl
       rotate_left
       ·simp only [Act.put, List.setIfInBounds_toArray, List.set_cons_zero, List.set_cons_succ, i64_w, i32_w]
        rfl
       refine take_ (i := 19) (N := some 93) (v := ?_) (a' := ?_) #[true, true, true, true, true, true, true, true, true, true, true, true, true, true, true, true, true, true, true, true, true, true, true, true, false, true, true, true, true, false, false, false] rfl rfl (take_ofW HT_.out HW_.out (by kernel_rfl)) (fun _ _ _ h => h) (Or.inl ⟨by rfl, ?_⟩) hHeld ?_ ?_
       rotate_left
       ·rintro w' ⟨s0, s1, s2, s3, s4⟩
        go_simp
        with_reducible rfl
       rotate_left
       ·simp only [Act.put, List.setIfInBounds_toArray, List.set_cons_zero, List.set_cons_succ, i64_w, i32_w]
        rfl
       refine take_ (i := 24) (N := some 98) (v := ?_) (a' := ?_) #[true, true, true, true, true, true, true, true, true, true, true, true, true, true, true, true, true, true, true, true, true, true, true, true, true, true, true, true, true, false, false, false] rfl rfl (take_ofW HT_.out HW_.out (by kernel_rfl)) (fun _ _ _ h => h) (Or.inl ⟨by rfl, ?_⟩) hHeld ?_ ?_
       rotate_left
       ·rintro w' ⟨s0, s1, s2, s3, s4⟩
        go_simp
        with_reducible rfl
       rotate_left
       ·simp only [Act.put, List.setIfInBounds_toArray, List.set_cons_zero, List.set_cons_succ, i64_w, i32_w]
        rfl
       refine take_ (i := 29) (N := some 103) (v := ?_) (a' := ?_) #[true, true, true, true, true, true, true, true, true, true, true, true, true, true, true, true, true, true, true, true, true, true, true, true, true, true, true, true, true, true, false, false] rfl rfl (take_ofW HT_.out HW_.out (by kernel_rfl)) (fun _ _ _ h => h) (Or.inl ⟨by rfl, ?_⟩) hHeld ?_ ?_
       rotate_left
       ·rintro w' ⟨s0, s1, s2, s3, s4⟩
        go_simp
        with_reducible rfl
       rotate_left
       ·simp only [Act.put, List.setIfInBounds_toArray, List.set_cons_zero, List.set_cons_succ, i64_w, i32_w]
        rfl
       refine one_ (i := 30) (N := some 104) #[true, true, true, true, true, true, true, true, true, true, true, true, true, true, true, true, true, true, true, true, true, true, true, true, true, true, true, true, true, true, true, false] rfl rfl (one_of HT_.out (by kernel_rfl)) (by decide) (fun K hK => ?_)
       refine goes_ Try.func68 (by kernel_rfl) rfl #[.int .u64 (rd x10_1 (wrap64 (x13_1 + (x9_1.length : Int)))), .int .u64 (rd x10_1 (wrap64 ((wrap64 (x13_1 + (x9_1.length : Int))) - 1))), .int .u64 (rd x10_1 (wrap64 ((wrap64 (x13_1 + (x9_1.length : Int))) - 2))), .int .u64 (rd x9_1 (wrap64 ((x9_1.length : Int) - 1))), .int .u64 (rd x9_1 (wrap64 ((x9_1.length : Int) - 2)))] (by rfl) rfl rfl ga ?_
       with_reducible refine (nat_digit.calls k1 (rd x10_1 (wrap64 (x13_1 + (x9_1.length : Int)))) (rd x10_1 (wrap64 ((wrap64 (x13_1 + (x9_1.length : Int))) - 1))) (rd x10_1 (wrap64 ((wrap64 (x13_1 + (x9_1.length : Int))) - 2))) (rd x9_1 (wrap64 ((x9_1.length : Int) - 1))) (rd x9_1 (wrap64 ((x9_1.length : Int) - 2))) t332 _ A45.out).mono ?_
       rintro e w' ⟨rfl, ⟨nd, rfl⟩⟩
       refine ⟨_, rfl, ?_⟩
       refine hK.out _ _ ⟨hHeld.1, hHeld.2.1, hHeld.2.2.1, hHeld.2.2.2.1, hHeld.2.2.2.2⟩ (fun hHeld => ?_)
       clear hK K
       refine norm_ (a' := ?_) ?_ ?_
       rotate_left
       ·show Act.put _ (some 104) _ = _
        simp only [Act.put, List.setIfInBounds_toArray, List.set_cons_zero, List.set_cons_succ, i64_w, i32_w]
        rfl
       refine pure_ (i := 31) (N := some 14) (v := ?_) (a' := ?_) #[true, true, true, true, true, true, true, true, true, true, true, true, true, true, true, true, true, true, true, true, true, true, true, true, true, true, true, true, true, true, true, true] rfl rfl (any_of HT_.out (by kernel_rfl)) (fun _ _ _ h => h) (Or.inl ⟨by rfl, ?_⟩) ?_ ?_
       rotate_left
       ·intro w'
        go_simp
        with_reducible rfl
       rotate_left
       ·simp only [Act.put, List.setIfInBounds_toArray, List.set_cons_zero, List.set_cons_succ, i64_w, i32_w]
        rfl
       refine done_ (done_of HT_.out (by kernel_rfl)) ?_
       have q67 : ((wrap64 ((wrap64 (x13_1 + (x9_1.length : Int))) + 1)) : Int) ≤ ((x10_1.length : Int) : Int) := od
       obtain ⟨i067, hi067, _, hsz67, _⟩ := info_parts info47
       have hroom67 : x10_1.length ≤ co30 := (Kd.R_reads' HO_10.out).2.1
       have hC67 : Kd.C (Kd.int .u64) _ (some ad327) x10_1.length x10_1 := (Kd.R_reads' HO_10.out).2.2
       have ql67 : (x13_1 : Int) ≤ ((wrap64 ((wrap64 (x13_1 + (x9_1.length : Int))) + 1)) : Int) := od
       have q067 : (0 : Int) ≤ (x13_1 : Int) := od
       have hcut67 := cut_mid (P := Try.prog) 49 47 .i64 .i64 Try.underlying49 hi067 1 hsz67 (some ad327) x10_1.length co30 x13_1 (wrap64 ((wrap64 (x13_1 + (x9_1.length : Int))) + 1)) q067 ql67 q67 hroom67
       have hr67 := Kd.C_mid (lo := (x13_1 : Int).toNat) (hi := ((wrap64 ((wrap64 (x13_1 + (x9_1.length : Int))) + 1)) : Int).toNat) (c := co30) hC67 (by omega) (by omega) hroom67
       obtain ⟨A67, hA67⟩ : ∃ A1, A1 = (if co30 = (x13_1 : Int).toNat then (some ad327) else ((some ad327) : Option Addr).map (·.add ((x13_1 : Int).toNat * 1))) := ⟨_, rfl⟩
       obtain ⟨c67, hc67⟩ : ∃ c1, c1 = co30 - (x13_1 : Int).toNat := ⟨_, rfl⟩
       have hy67 : y333.length = ((wrap64 ((wrap64 (x13_1 + (x9_1.length : Int))) + 1)) : Int).toNat - (x13_1 : Int).toNat := (by rw [Ny333.out, List.length_drop, List.length_take] <;> omega)
       rw [show ((x10_1).take ((wrap64 ((wrap64 (x13_1 + (x9_1.length : Int))) + 1)) : Int).toNat).drop (x13_1 : Int).toNat = y333 from Ny333.out.symm] at hr67
       replace hr67 : Kd.C (Kd.int .u64) _ A67 y333.length y333 := (by rw [hA67]; exact hr67)
       rw [← hy67, ← hA67, ← hc67] at hcut67
       have HR336 := Aside0.mk hr67
       have HC336 := Aside0.mk (show y333.length ≤ c67 from by rw [hy67, hc67]; exact Nat.sub_le_sub_right (Nat.le_trans (by omega) hroom67) _)
       have KC67 := Aside0.mk hc67
       clear hr67 hC67 hroom67 hi067 hsz67 hc67
       have KY67 := Aside0.mk hy67
       have KA67 := Aside0.mk hA67
       clear hy67 hA67
       have KL67 := Aside0.mk (show ((wrap64 ((wrap64 (x13_1 + (x9_1.length : Int))) + 1)) : Int).toNat ≤ x10_1.length from by omega)
       have KM67 := Aside0.mk (show (x13_1 : Int).toNat ≤ ((wrap64 ((wrap64 (x13_1 + (x9_1.length : Int))) + 1)) : Int).toNat from by omega)
       replace q67 := eq_true q67
       try go_wp2_with (first | ((with_reducible refine gate_callee (f := 69) rfl ?_); refine goesL_ (some 114) rfl rfl Try.func69 (by kernel_rfl) rfl #[.slice A67 y333.length c67, .slice (some ad330) x9_1.length co31, .int .u64 t332] rfl ga ?_; (with_reducible refine (nat_number_lessAt.calls (hq := (by rw [KA67.out, KC67.out, KY67.out]; simp only [viewOf])) k1 (fun k_ => some k_ = (.slice (some ad327) x10_1.length co30 : Value).ownBlock) (.slice (some ad327) x10_1.length co30) x10_1 x13_1 (wrap64 ((wrap64 (x13_1 + (x9_1.length : Int))) + 1)) _ _ x9_1 t332 false t338 w _ ?side1 ?side2 ?side3 ?side4 A49.out).mono ?_); (case side1 => repeat (first | (with_reducible first | exact HB.out | apply below_alloc | apply pw_below_drewN | apply below_drew1) | exact HB.out)); (case side2 => exact Kd.R_tight rfl HO_10.out); (case side3 => first | exact Kd.C_kept_ownV (HO_9.out) (fun k_ hk_ hs_ => (hk_.2.1) hs_) | exact Kd.C_kept_ownV (Kd.V_drewN (HO_9.out) _) (fun k_ hk_ hs_ => (hk_.2.1) hs_)); (case side4 => exact (Kd.V_reads' HO_9.out).2.1); rintro e w68 ⟨rfl, hy0, hb, hkp⟩; refine ⟨_, rfl, ?_⟩; have n0_ := Aside0.mk (Kd.V_mono (ok' := fun k_ => (P0_ k_ ∨ w.heap.size ≤ k_) ∧ some k_ ≠ (.slice (some ad327) x10_1.length co30 : Value).ownBlock ∧ some k_ ≠ (v312 : Value).ownBlock) (Kd.V_keptB (HO_9.out) hkp (fun k_ hk_ hs_ => (hk_.2.1) hs_)) (fun k_ hk_ => ⟨hk_.1.1, hk_.1.2.1, hk_.1.2.2⟩)); have n1_ := Aside0.mk (Kd.R_reok rfl hy0 (fun k_ e_ => HO_10.out.1 k_ e_)); have n2_ := Aside0.mk (Kd.R_mono (ok' := fun k_ => (w.heap.size ≤ k_) ∧ some k_ ≠ (.slice (some ad327) x10_1.length co30 : Value).ownBlock) (Kd.R_keptB (HO_12.out) hkp (fun k_ hk_ hs_ => (hk_.2) hs_)) (fun k_ hk_ => ⟨hk_.1.1, hk_.1.2⟩)); have n3_ := Aside0.mk (hb); clear HO_9; clear HO_10; clear HO_12; clear HB; have HO_9 := n0_; have HO_10 := n1_; have HO_12 := n2_; have HB := n3_; clear n0_ n1_ n2_ n3_; (try clear hb); (try clear hkp); (try clear hy0); have p65 : 0 ≤ (x13_1 : Int) := od; have q65 : (x13_1 : Int) < ((x12_1.length : Int) : Int) := od; obtain ⟨go65, co65, eo65, gb65, gl65, cl65, HG65⟩ := Kd.R_form HO_12.out (by omega); (first | cases eo65 | (injection eo65 with ea_ en_ ec_; (first | subst ea_ | (injection ea_ with ea_; subst ea_)); subst ec_; clear en_)); have GB65 := Aside0.mk gb65; have GG65 := Aside0.mk HG65; clear gb65 gl65 HG65; obtain ⟨hx65_0, hf65_0⟩ := Kd.R_celln 0 HO_12.out (x13_1 : Int) p65 q65; replace p65 := eq_true p65; replace q65 := eq_true q65; obtain ⟨hy69_, hz69_⟩ := Kd.R_celln 0 HO_12.out (x13_1 : Int) (od) (od); have HP69 := Kd.R_putg HO_12.out (x13_1 : Int) t332) | ((with_reducible refine gate_store (t := 47) (p := 129) rfl ?_); refine store_event (t := 47) (p := 129) (v := ?vo_w70) (w1 := (w68.setCell ⟨go65, (x13_1 : Int).toNat, none⟩ (.int .u64 t332))) ?hg ?ho ?hn ?hr ?_; (case ho => rfl); (case hg => rfl); (case hn => rfl); (case hr => first | (go_simp; done) | (go_simp; rfl)); intro w70 hw; have hg : w68.grownBy w70 (some go65) := (by rw [hw]; exact HP69.2); have hp_ : Kd.R (Kd.int .u64) 47 w70 w.heap.size (fun k_ => (w.heap.size ≤ k_) ∧ some k_ ≠ (.slice (some ad327) x10_1.length co30 : Value).ownBlock) (.slice (some ⟨go65, 0, none⟩) x12_1.length co65) y345 := (by rw [hw, Ny345.out]; exact HP69.1); clear HP69; have n0_ := Aside0.mk (Kd.V_afterv (v := (.slice (some ⟨go65, 0, none⟩) x12_1.length co65)) (v1 := (.slice (some ⟨go65, 0, none⟩) x12_1.length co65)) (ok := (fun k_ => (P0_ k_ ∨ w.heap.size ≤ k_) ∧ some k_ ≠ (.slice (some ad327) x10_1.length co30 : Value).ownBlock)) (by (with_reducible repeat (first | apply Kd.V_alloc | apply Kd.V_drewN | apply Kd.V_drew)); exact Kd.V_mono HO_9.out (fun _ hk => ⟨⟨hk.1, hk.2.1⟩, hk.2.2⟩)) hg (.inl rfl)); have n1_ := Aside0.mk (Kd.R_after (v := (.slice (some ⟨go65, 0, none⟩) x12_1.length co65)) (v1 := (.slice (some ⟨go65, 0, none⟩) x12_1.length co65)) (ok := (fun k_ => (w.heap.size ≤ k_))) (ru HO_10.out) hg (.inl rfl)); have n2_ := Aside0.mk (hp_); have n3_ := Aside0.mk ((by rw [hw]; exact below_set (HB.out) GB65.out : Below w.heap.size w w70)); clear HO_9; clear HO_10; clear HO_12; clear HB; have HO_9 := n0_; have HO_10 := n1_; have HO_12 := n2_; have HB := n3_; clear n0_ n1_ n2_ n3_; clear hg hw hp_))
       (try simp only [← hl9_1, ← hl10_1])
       go_roundg k1
       case measure => have := HK1.out; omega
       case rel => exact ⟨(x9_1), (t338), (y345), (wrap64 (x13_1 - 1)), (by first | rfl | (simp; done) | (simp [*]; done)), (by first | exact H' | (rw [hl9_1]; exact H')), ⟨by have := HK1.out; omega⟩, ⟨by (try simp only [hl9_1]); (try simp only [hl10_1]); (with_reducible repeat (first | apply Kd.V_alloc | apply Kd.V_drewN | apply Kd.V_drew)); exact Kd.V_mono HO_9.out (fun _ hk => ⟨hk.1.1, ⟨hk.1.2, hk.2⟩⟩)⟩, ⟨by (try simp only [hl9_1]); (try simp only [hl10_1]); (with_reducible repeat (first | apply Kd.R_alloc | apply Kd.R_drewN | apply Kd.R_drew)); exact HO_10.out⟩, ⟨by (try simp only [hl9_1]); (try simp only [hl10_1]); (with_reducible repeat (first | apply Kd.R_alloc | apply Kd.R_drewN | apply Kd.R_drew)); exact HO_12.out⟩, ⟨bq⟩⟩
     ·rw [if_neg c34] at H
      have c34b0 : decide (0 ≤ x13_1) = false := decide_eq_false c34
      clear c34
      replace H := dn H
      obtain ⟨c71, H⟩ := H
      have c71b0 := eq_true c71
      have c71b1 : decide (0 ≤ (x9_1.length : Int)) = true := decide_eq_true c71
      have keepo_c71b1 := c71b1
      (try rw [hl9_1] at c71b1)
      (try rw [hl10_1] at c71b1)
      clear c71
      replace H := dn H
      obtain ⟨c72, H⟩ := H
      have c72b0 := eq_true c72
      have c72b1 : decide ((x9_1.length : Int) ≤ (x10_1.length : Int)) = true := decide_eq_true c72
      have keepo_c72b1 := c72b1
      (try rw [hl9_1] at c72b1)
      (try rw [hl10_1] at c72b1)
      clear c72
      obtain ⟨y314, hy314⟩ : ∃ y_ : List Int, y_ = (x10_1.take ((x9_1.length : Int) : Int).toNat) := ⟨_, rfl⟩
      replace H : ((nat_norm.f k1 y314).bind fun t317 => ((nat_number_shr.f k1 t317 t300).bind fun bt320 => ((nat_norm.f k1 x12_1).bind fun t324 => (some (t324, bt320.1))))) = some (r1, r2) := by first | (rw [hy314]; with_reducible exact H) | (have H2_ := (Option.bind_some _ _).symm.trans H; rw [hy314]; with_reducible exact H2_) | (have H2_ := (Option.bind_some _ _).symm.trans H; with_reducible exact H2_) | with_reducible exact H | (rw [hy314]; exact H) | exact H
      have Ny314 := Aside0.mk hy314
      clear hy314
      replace H := Option.bind_eq_some_iff.mp H
      obtain ⟨t317, A730, H⟩ := H
      (try dsimp only at H)
      have A73 := Aside0.mk A730
      clear A730
      replace H := Option.bind_eq_some_iff.mp H
      obtain ⟨⟨t320, t323⟩, A740, H⟩ := H
      (try dsimp only at H)
      have A74 := Aside0.mk A740
      clear A740
      replace H := Option.bind_eq_some_iff.mp H
      obtain ⟨t324, A750, H⟩ := H
      (try dsimp only at H)
      have A75 := Aside0.mk A750
      clear A750
      simp only [Option.some.injEq, Prod.mk.injEq] at H
      obtain ⟨rfl, rfl⟩ := H
      have q76 : ((x9_1.length : Int) : Int) ≤ ((x10_1.length : Int) : Int) := od
      obtain ⟨i076, hi076, _, hsz76, _⟩ := info_parts info47
      have hcut76 := cut_to (P := Try.prog) 49 47 .i64 Try.underlying49 hi076 Ao30 x10_1.length co30 (x9_1.length : Int) (od) q76 (Kd.R_reads' HO_10.out).2.1
      have hr76 := Kd.R_take (m := ((x9_1.length : Int) : Int).toNat) HO_10.out (by omega)
      have hy76 : y314.length = ((x9_1.length : Int) : Int).toNat := (by rw [Ny314.out, List.length_take]; omega)
      rw [← Ny314.out] at hr76
      rw [← hy76] at hr76 hcut76
      clear hy76 hi076 hsz76 HO_10
      have HO316 := Aside0.mk hr76
      have e30_ : (.slice Ao30 x10_1.length co30 : Value).ownBlock = (.slice Ao30 y314.length co30 : Value).ownBlock := by cases Ao30 <;> rfl
      rw [e30_] at HO_12
      rw [e30_] at HO_9
      clear e30_
      clear hr76
      replace q76 := eq_true q76
      go_wp2_with (first | ((with_reducible refine gate_callee (f := 62) rfl ?_); refine goesL_ (some 134) rfl rfl Try.func62 (by kernel_rfl) rfl #[.slice Ao30 y314.length co30] rfl ga ?_; (with_reducible refine (nat_norm.calls k1 (fun k_ => some k_ = (.slice Ao30 y314.length co30 : Value).ownBlock) _ _ y314 t317 _ ?side1 A73.out).mono ?_); (case side1 => exact Kd.R_V (Kd.R_tight rfl (HO316.out))); rintro e w77 ⟨v318, rfl, ho0, hb⟩; refine ⟨_, rfl, ?_⟩; have n0_ := Aside0.mk (Kd.V_below (vu HO_9.out) hb); have n1_ := Aside0.mk (Kd.R_below (ru HO316.out) hb); have n2_ := Aside0.mk (Kd.R_below (ru HO_12.out) hb); have n3_ := Aside0.mk (Kd.V_lower (Kd.V_mono (ok' := fun k_ => (P0_ k_ ∨ w.heap.size ≤ k_) ∧ some k_ ≠ (v312 : Value).ownBlock) ho0 (fun k_ hk_ => ⟨Or.elim hk_ (fun hs_ => (.inr (((HO316.out).1 k_ hs_.symm).1))) (fun hn_ => (.inr (Nat.le_trans (below_size bq) hn_))), Or.elim hk_ (fun hs_ => ((HO316.out).1 k_ hs_.symm).2) (fun hn_ => (Kd.fresh' (Kd.R_lt (ru HO_12.out)) k_ hn_))⟩)) (below_size bq)); have n4_ := Aside0.mk (below_step bq hb); clear HO_9; clear HO316; clear HO_12; clear HB; have HO_9 := n0_; have HO316 := n1_; have HO_12 := n2_; have HO319 := n3_; have HB := n4_; clear n0_ n1_ n2_ n3_ n4_; (try clear hb); (try clear hb2); (try clear hk); (try clear hi); (try clear ho0); obtain ⟨Ao78, co78, eo78⟩ := Kd.V_slice HO319.out; subst eo78) | ((with_reducible refine gate_callee (f := 52) rfl ?_); refine goesL_ (some 136) rfl rfl Try.func52 (by kernel_rfl) rfl #[.slice Ao78 t317.length co78, .int .i64 t300] rfl ga ?_; (with_reducible refine (nat_number_shr.calls k1 _ _ t317 t300 t320 t323 _ ?side1 ?side2 A74.out).mono ?_); (case side1 => repeat (first | exact (Kd.V_reads' HO319.out).2.2 | (with_reducible refine Kd.C_alloc ?_ _) | (with_reducible refine Kd.C_drewN ?_ _) | (with_reducible refine Kd.C_drew ?_))); (case side2 => exact (Kd.V_reads' HO319.out).2.1); rintro e w79 ⟨v321, rfl, ho0, hb⟩; refine ⟨_, rfl, ?_⟩; have n0_ := Aside0.mk (Kd.V_below (vu HO_9.out) hb); have n1_ := Aside0.mk (Kd.R_below (ru HO316.out) hb); have n2_ := Aside0.mk (Kd.R_below (ru HO_12.out) hb); have n3_ := Aside0.mk (Kd.V_below (vu HO319.out) hb); have n4_ := Aside0.mk (Kd.V_lower (Kd.V_mono (ok' := fun k_ => (P0_ k_ ∨ w.heap.size ≤ k_) ∧ some k_ ≠ (.slice Ao30 y314.length co30 : Value).ownBlock ∧ some k_ ≠ (v312 : Value).ownBlock) ho0 (fun k_ hk_ => ⟨(.inr (Nat.le_trans (below_size bq) hk_)), (Kd.fresh' (Kd.R_lt (ru HO316.out)) k_ hk_), (Kd.fresh' (Kd.R_lt (ru HO_12.out)) k_ hk_)⟩)) (below_size bq)); have n5_ := Aside0.mk (below_step bq hb); clear HO_9; clear HO316; clear HO_12; clear HO319; clear HB; have HO_9 := n0_; have HO316 := n1_; have HO_12 := n2_; have HO319 := n3_; have HO322 := n4_; have HB := n5_; clear n0_ n1_ n2_ n3_ n4_ n5_; (try clear hb); (try clear hb2); (try clear hk); (try clear hi); (try clear ho0); obtain ⟨Ao80, co80, eo80⟩ := Kd.R_slice HO_12.out; subst eo80) | ((with_reducible refine gate_callee (f := 62) rfl ?_); refine goesL_ (some 140) rfl rfl Try.func62 (by kernel_rfl) rfl #[.slice Ao80 x12_1.length co80] rfl ga ?_; (with_reducible refine (nat_norm.calls k1 (fun k_ => some k_ = (.slice Ao80 x12_1.length co80 : Value).ownBlock) _ _ x12_1 t324 _ ?side1 A75.out).mono ?_); (case side1 => exact Kd.R_V (Kd.R_tight rfl (HO_12.out))); rintro e w81 ⟨v325, rfl, ho0, hb⟩; refine ⟨_, rfl, ?_⟩; have n0_ := Aside0.mk (Kd.V_below (vu HO_9.out) hb); have n1_ := Aside0.mk (Kd.R_below (ru HO316.out) hb); have n2_ := Aside0.mk (Kd.R_below (ru HO_12.out) hb); have n3_ := Aside0.mk (Kd.V_below (vu HO319.out) hb); have n4_ := Aside0.mk (Kd.V_below (vu HO322.out) hb); have n5_ := Aside0.mk (Kd.V_lower (Kd.V_mono (ok' := fun k_ => (P0_ k_ ∨ w.heap.size ≤ k_) ∧ some k_ ≠ (.slice Ao30 y314.length co30 : Value).ownBlock) ho0 (fun k_ hk_ => ⟨Or.elim hk_ (fun hs_ => (.inr (((HO_12.out).1 k_ hs_.symm).1))) (fun hn_ => (.inr (Nat.le_trans (below_size bq) hn_))), Or.elim hk_ (fun hs_ => ((HO_12.out).1 k_ hs_.symm).2) (fun hn_ => (Kd.fresh' (Kd.R_lt (ru HO316.out)) k_ hn_))⟩)) (below_size bq)); have n6_ := Aside0.mk (below_step bq hb); clear HO_9; clear HO316; clear HO_12; clear HO319; clear HO322; clear HB; have HO_9 := n0_; have HO316 := n1_; have HO_12 := n2_; have HO319 := n3_; have HO322 := n4_; have HO326 := n5_; have HB := n6_; clear n0_ n1_ n2_ n3_ n4_ n5_ n6_; (try clear hb); (try clear hb2); (try clear hk); (try clear hi); (try clear ho0)))
      go_ret2
      exact ⟨_, _, er, by (with_reducible repeat (first | apply Kd.V_alloc | apply Kd.V_drewN | apply Kd.V_drew)); exact Kd.V_mono HO326.out (fun _ hk => hk.1), by (with_reducible repeat (first | apply Kd.V_alloc | apply Kd.V_drewN | apply Kd.V_drew)); exact Kd.V_mono HO322.out (fun _ hk => hk.1), bq⟩
end Go.Proofs.Ytdbhednhhmbooaa.PAll
