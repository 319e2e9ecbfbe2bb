/- Printed functions, merged by a program of this session. -/
import Derived.Test.YtdbhednhhmbooaaDoorXNatBetweenP0
import Derived.Test.YtdbhednhhmbooaaDoorXNatBetweenP2
import Derived.Test.YtdbhednhhmbooaaDoorXNatBetweenP3
import Derived.Test.YtdbhednhhmbooaaDoorXNatBetweenP5
import Derived.Test.YtdbhednhhmbooaaDoorXNatBetweenP6
import Derived.Test.YtdbhednhhmbooaaDoorXNatBetweenP7
import Derived.Laws.StructEq
namespace Go.Proofs.YtdbhednhhmbooaaDoor.PAll
open Go.RowKit Go.Proofs.YtdbhednhhmbooaaDoorW.PrintWords Go.Proofs.YtdbhednhhmbooaaDoorW.PrintLast Go.Proofs.YtdbhednhhmbooaaDoorW.PrintMore
attribute [local go_sem] max2_int min2_int max_two min_two max_three min_three max_four min_four   -- for this text's walks alone
set_option linter.unusedVariables false
set_option linter.unusedSimpArgs false
attribute [local go_sem] ext44 ext54
def nat_number_div.l0 : Nat → Int → List Int → List Int → Int → List Int → Int → Option (List Int × List Int)
 | 0, _, _, _, _, _, _ => none
 | k + 1, x8, x9, x10, x11, x12, x13 => if x13 ≥ 0 then (if 0 ≤ (wrap64 (x13 + x11)) then (if (wrap64 (x13 + x11)) < (x10.length : Int) then (if 0 ≤ (wrap64 ((wrap64 (x13 + x11)) - 1)) then (if (wrap64 ((wrap64 (x13 + x11)) - 1)) < (x10.length : Int) then (if 0 ≤ (wrap64 ((wrap64 (x13 + x11)) - 2)) then (if (wrap64 ((wrap64 (x13 + x11)) - 2)) < (x10.length : Int) then (if 0 ≤ (wrap64 (x11 - 1)) then (if (wrap64 (x11 - 1)) < (x9.length : Int) then (if 0 ≤ (wrap64 (x11 - 2)) then (if (wrap64 (x11 - 2)) < (x9.length : Int) then ((nat_digit.f k (rd x10 (wrap64 (x13 + x11))) (rd x10 (wrap64 ((wrap64 (x13 + x11)) - 1))) (rd x10 (wrap64 ((wrap64 (x13 + x11)) - 2))) (rd x9 (wrap64 (x11 - 1))) (rd x9 (wrap64 (x11 - 2)))).bind fun t324 => (if 0 ≤ x13 then (if x13 ≤ (wrap64 ((wrap64 (x13 + x11)) + 1)) then (if (wrap64 ((wrap64 (x13 + x11)) + 1)) ≤ (x10.length : Int) then ((nat_number_lessAt.f k x10 x13 (wrap64 ((wrap64 (x13 + x11)) + 1)) x9 t324).bind fun bt329 => (if bt329.1 = true then ((nat_number_backAt.f k bt329.2 x13 (wrap64 ((wrap64 (x13 + x11)) + 1)) x9).bind fun t335 => (if x13 < (x12.length : Int) then (nat_number_div.l0 k x8 x9 t335 x11 (x12.set (x13 : Int).toNat (IntKind.u64.wrap (t324 - 1))) (wrap64 (x13 - 1))) else (none))) else (if x13 < (x12.length : Int) then (nat_number_div.l0 k x8 x9 bt329.2 x11 (x12.set (x13 : Int).toNat t324) (wrap64 (x13 - 1))) else (none)))) else (none)) else (none)) else (none))) else (none)) else (none)) else (none)) else (none)) else (none)) else (none)) else (none)) else (none)) else (none)) else (none)) else (if 0 ≤ x11 then (if x11 ≤ (x10.length : Int) then ((nat_norm.f k (x10.take (x11 : Int).toNat)).bind fun t309 => ((nat_number_shr.f k t309 x8).bind fun bt312 => ((nat_norm.f k x12).bind fun t316 => (some (t316, bt312.1))))) else (none)) else (none))
def nat_number_div.f (k : Nat) (l0 : List Int) (l1 : List Int) : Option (List Int × List Int) := (nat_number_cmp.f k l0 l1).bind fun t279 => (if t279 < 0 then (some (([] : List Int), l0)) else (if (l1.length : Int) = 1 then (if 0 < (l1.length : Int) then ((nat_number_short.f k l0 (rd l1 0)).bind fun bt281 => ((nat_norm.f k (([bt281.2] : List Int))).bind fun t288 => (some (bt281.1, t288)))) else (none)) else (if 0 ≤ (wrap64 ((l1.length : Int) - 1)) then (if (wrap64 ((l1.length : Int) - 1)) < (l1.length : Int) then ((bits_LeadingZeros64.f k (rd l1 (wrap64 ((l1.length : Int) - 1)))).bind fun t292 => ((nat_number_shl.f k l1 t292).bind fun t293 => (if 0 ≤ (wrap64 ((l0.length : Int) + 1)) then (if (wrap64 ((l0.length : Int) + 1) : Int).toNat ≤ 35184372088832 then ((some (List.replicate (wrap64 ((l0.length : Int) + 1) : Int).toNat 0 : List Int)).bind fun y296 => ((nat_number_shl.f k l0 t292).bind fun t299 => (if 0 ≤ (wrap64 ((wrap64 ((l0.length : Int) - (t293.length : Int))) + 1)) then (if (wrap64 ((wrap64 ((l0.length : Int) - (t293.length : Int))) + 1) : Int).toNat ≤ 35184372088832 then (nat_number_div.l0 k t292 t293 (t299.take (min t299.length y296.length) ++ y296.drop (min t299.length y296.length)) (t293.length : Int) (List.replicate (wrap64 ((wrap64 ((l0.length : Int) - (t293.length : Int))) + 1) : Int).toNat 0) (wrap64 ((l0.length : Int) - (t293.length : Int)))) else (none)) else (none)))) else (none)) else (none)))) else (none)) else (none))))
theorem nat_number_div.mono_l : ∀ k, (∀ y0 y1 y2 y3 y4 y5, LeO (nat_number_div.l0 k y0 y1 y2 y3 y4 y5) (nat_number_div.l0 (k + 1) y0 y1 y2 y3 y4 y5))
 | 0 => fun _ _ _ _ _ _ r h => by simp [nat_number_div.l0] at h
 | k + 1 => by
  have ih0 := nat_number_div.mono_l k
  ·intro y0 y1 y2 y3 y4 y5
   unfold nat_number_div.l0
   repeat' first
   | (with_reducible exact ih0 _ _ _ _ _ _)
   | (with_reducible exact bits_LeadingZeros64.mono _ _)
   | (with_reducible exact nat_digit.mono _ _ _ _ _ _)
   | (with_reducible exact nat_norm.mono _ _)
   | (with_reducible exact nat_number_back.mono _ _ _)
   | (with_reducible exact nat_number_cmp.mono _ _ _)
   | (with_reducible exact nat_number_less.mono _ _ _ _)
   | (with_reducible exact nat_number_shl.mono _ _ _)
   | (with_reducible exact nat_number_short.mono _ _ _)
   | (with_reducible exact nat_number_shr.mono _ _ _)
   | (with_reducible exact LeO.refl _)
   | (with_reducible exact LeO.none _)
   | (with_reducible refine LeO.ite ?_ ?_)
   | (with_reducible refine LeO.bind ?_ (fun _ => ?_))
   | exact ih0 _ _ _ _ _ _
   | exact bits_LeadingZeros64.mono _ _
   | exact nat_digit.mono _ _ _ _ _ _
   | exact nat_norm.mono _ _
   | exact nat_number_back.mono _ _ _
   | exact nat_number_cmp.mono _ _ _
   | exact nat_number_less.mono _ _ _ _
   | exact nat_number_shl.mono _ _ _
   | exact nat_number_short.mono _ _ _
   | exact nat_number_shr.mono _ _ _
   | exact LeO.none _
   | refine LeO.ite ?_ ?_
   | refine LeO.bind ?_ (fun _ => ?_)
theorem nat_number_div.mono : ∀ a0 a1 k, LeO (nat_number_div.f k a0 a1) (nat_number_div.f (k + 1) a0 a1) := by
 intro a0 a1 k
 have ih0 := nat_number_div.mono_l k
 unfold nat_number_div.f
 repeat' first
   | (with_reducible exact ih0 _ _ _ _ _ _)
   | (with_reducible exact bits_LeadingZeros64.mono _ _)
   | (with_reducible exact nat_digit.mono _ _ _ _ _ _)
   | (with_reducible exact nat_norm.mono _ _)
   | (with_reducible exact nat_number_back.mono _ _ _)
   | (with_reducible exact nat_number_cmp.mono _ _ _)
   | (with_reducible exact nat_number_less.mono _ _ _ _)
   | (with_reducible exact nat_number_shl.mono _ _ _)
   | (with_reducible exact nat_number_short.mono _ _ _)
   | (with_reducible exact nat_number_shr.mono _ _ _)
   | (with_reducible exact LeO.refl _)
   | (with_reducible exact LeO.none _)
   | (with_reducible refine LeO.ite ?_ ?_)
   | (with_reducible refine LeO.bind ?_ (fun _ => ?_))
   | exact ih0 _ _ _ _ _ _
   | exact bits_LeadingZeros64.mono _ _
   | exact nat_digit.mono _ _ _ _ _ _
   | exact nat_norm.mono _ _
   | exact nat_number_back.mono _ _ _
   | exact nat_number_cmp.mono _ _ _
   | exact nat_number_less.mono _ _ _ _
   | exact nat_number_shl.mono _ _ _
   | exact nat_number_short.mono _ _ _
   | exact nat_number_shr.mono _ _ _
   | exact LeO.none _
   | refine LeO.ite ?_ ?_
   | refine LeO.bind ?_ (fun _ => ?_)
def nat_number_div.T15 : Bool × List (List Nat × List Nat) := (true, [([], []), ([], []), ([], []), ([1, 2], [1, 2]), ([0, 3], [0, 3]), ([4], [4]), ([], []), ([], []), ([], []), ([7, 8], [7, 8]), ([9], [9]), ([6, 10], [6, 10]), ([11], [11]), ([], []), ([], []), ([], []), ([14, 15], [14, 15]), ([16], [16]), ([13, 17], [13, 17]), ([18], [18]), ([], []), ([], []), ([21], [21]), ([20, 22], [20, 22]), ([23], [23]), ([], []), ([], []), ([26], [26]), ([25, 27], [25, 27]), ([28], [28]), ([5, 12, 19, 24, 29], [5, 12, 19, 24, 29]), ([30, 30, 0, 1, 2, 3, 4, 5, 6, 7, 8, 9, 10, 11, 12, 13, 14, 15, 16, 17, 18, 19, 20, 21, 22, 23, 24, 25, 26, 27, 28, 29, 30], [30])])
def nat_number_div.B15 : List Nat := [0, 0, 0, 6, 15, 31, 0, 0, 0, 384, 896, 1984, 4032, 0, 0, 0, 49152, 114688, 253952, 516096, 0, 0, 2097152, 7340032, 15728640, 0, 0, 67108864, 234881024, 503316480, 1073741823, 2147483647]
theorem nat_number_div.tab15 : rtab .any (opsOf Tryd.f41 15) = nat_number_div.T15 := by kernel_rfl
theorem nat_number_div.bits15 : waitsOk nat_number_div.T15.2 nat_number_div.B15 = true := by kernel_rfl
set_option maxHeartbeats 8000000 in
set_option maxRecDepth 100000 in
theorem nat_number_div.calls (k : Nat) (P0_ : Nat → Prop) (A0 : Option Addr) (c0 : Nat) (l0 : List Int) (A1 : Option Addr) (c1 : Nat) (l1 : List Int) (r1 : List Int) (r2 : List Int) (w : World) (hs0 : Kd.V (Kd.int .u64) 24 w w.heap.size (fun k_ => P0_ k_) (.slice A0 l0.length c0) l0) (hr1 : Kd.C (Kd.int .u64) w A1 l1.length l1) (hc1 : l1.length ≤ c1) (h : nat_number_div.f k l0 l1 = some (r1, r2)) :
  Calls Tryd.prog 41 #[.slice A0 l0.length c0, .slice A1 l1.length c1] w fun e w' => ∃ v0_ v1_ : Value, e = .returned (.tuple #[v0_, v1_]) ∧ Kd.V (Kd.int .u64) 24 w' w.heap.size (fun k_ => (P0_ k_ ∨ w.heap.size ≤ k_)) v0_ r1 ∧ Kd.V (Kd.int .u64) 24 w' w.heap.size (fun k_ => (P0_ k_ ∨ w.heap.size ≤ k_)) v1_ r2 ∧ Below w.heap.size w w' := by
 have HO0 := Aside0.mk (show Kd.V (Kd.int .u64) 24 w w.heap.size (fun k_ => (P0_ k_ ∨ w.heap.size ≤ k_)) (.slice A0 l0.length c0) l0 from Kd.V_mono hs0 (fun k_ hk => .inl hk))
 have HR1 := Aside0.mk hr1
 have HC1 := Aside0.mk hc1
 clear hr1 hc1
 have HB := Aside0.mk (Below.refl w.heap.size w)
 have H : ((nat_number_cmp.f k l0 l1).bind fun t279 => (if t279 < 0 then (some (([] : List Int), l0)) else (if (l1.length : Int) = 1 then (if 0 < (l1.length : Int) then ((nat_number_short.f k l0 (rd l1 0)).bind fun bt281 => ((nat_norm.f k (([bt281.2] : List Int))).bind fun t288 => (some (bt281.1, t288)))) else (none)) else (if 0 ≤ (wrap64 ((l1.length : Int) - 1)) then (if (wrap64 ((l1.length : Int) - 1)) < (l1.length : Int) then ((bits_LeadingZeros64.f k (rd l1 (wrap64 ((l1.length : Int) - 1)))).bind fun t292 => ((nat_number_shl.f k l1 t292).bind fun t293 => (if 0 ≤ (wrap64 ((l0.length : Int) + 1)) then (if (wrap64 ((l0.length : Int) + 1) : Int).toNat ≤ 35184372088832 then ((some (List.replicate (wrap64 ((l0.length : Int) + 1) : Int).toNat 0 : List Int)).bind fun y296 => ((nat_number_shl.f k l0 t292).bind fun t299 => (if 0 ≤ (wrap64 ((wrap64 ((l0.length : Int) - (t293.length : Int))) + 1)) then (if (wrap64 ((wrap64 ((l0.length : Int) - (t293.length : Int))) + 1) : Int).toNat ≤ 35184372088832 then (nat_number_div.l0 k t292 t293 (t299.take (min t299.length y296.length) ++ y296.drop (min t299.length y296.length)) (t293.length : Int) (List.replicate (wrap64 ((wrap64 ((l0.length : Int) - (t293.length : Int))) + 1) : Int).toNat 0) (wrap64 ((l0.length : Int) - (t293.length : Int)))) else (none)) else (none)))) else (none)) else (none)))) else (none)) else (none))))) = some (r1, r2) := h
 clear h
 replace H := Option.bind_eq_some_iff.mp H
 obtain ⟨t279, A30, H⟩ := H
 (try dsimp only at H)
 have A3 := Aside0.mk A30
 clear A30
 by_cases c4 : t279 < 0
 ·rw [if_pos c4] at H
  have c4b0 : decide (t279 < 0) = true := decide_eq_true c4
  clear c4
  simp only [Option.some.injEq, Prod.mk.injEq] at H
  obtain ⟨rfl, rfl⟩ := H
  go_enter Tryd.func41, Tryd.ntmps41
  go_wp2_with (first | ((with_reducible refine gate_callee (f := 47) rfl ?_); refine goesL_ (some 20) rfl rfl Tryd.func47 (by kernel_rfl) rfl #[.slice A0 l0.length c0, .slice A1 l1.length c1] rfl (by (try simp only [List.map_toArray, List.map_cons, List.map_nil]); first | done | rfl | (simp only [List.length_drop, List.length_take]; rfl)) ?_; (with_reducible refine (nat_number_cmp.calls k _ _ l0 _ _ l1 t279 _ ?side1 ?side2 ?side3 ?side4 A3.out).mono ?_); (case side1 => repeat (first | exact (Kd.V_reads' HO0.out).2.2 | (with_reducible refine Kd.C_alloc ?_ _) | (with_reducible refine Kd.C_drewN ?_ _) | (with_reducible refine Kd.C_drew ?_))); (case side2 => exact (Kd.V_reads' HO0.out).2.1); (case side3 => repeat (first | exact HR1.out | (with_reducible refine Kd.C_alloc ?_ _) | (with_reducible refine Kd.C_drewN ?_ _) | (with_reducible refine Kd.C_drew ?_))); (case side4 => exact HC1.out); rintro e w' ⟨rfl, ⟨nd, rfl⟩⟩; refine ⟨_, rfl, ?_⟩))
  go_ret2
  exact ⟨_, _, by first | rfl | (simp [errW_none, errW_some] <;> rfl) | (simp [*, errW_none, errW_some] <;> rfl), Kd.V_nil _ _ _ _ _, by (with_reducible repeat (first | apply Kd.V_alloc | apply Kd.V_drewN | apply Kd.V_drew)); exact HO0.out, by repeat (first | (with_reducible first | exact HB.out | apply below_alloc | apply pw_below_drewN | apply below_drew1) | exact HB.out)⟩
 ·rw [if_neg c4] at H
  have c4b0 : decide (t279 < 0) = false := decide_eq_false c4
  clear c4
  by_cases c5 : (l1.length : Int) = 1
  ·rw [if_pos c5] at H
   have c5b0 : ((l1.length : Int) == 1) = true := beq_iff_eq.mpr c5
   have c5b1 : ((l1.length : Int) != 1) = false := bne_eq_false_iff_eq.mpr c5
   clear c5
   by_cases c6 : 0 < (l1.length : Int)
   ·rw [if_pos c6] at H
    have c6b0 : decide (0 < (l1.length : Int)) = true := decide_eq_true c6
    have c6b1 : decide (0 < l1.length) = true := decide_eq_true (by omega)
    clear c6
    replace H := Option.bind_eq_some_iff.mp H
    obtain ⟨⟨t281, t284⟩, A70, H⟩ := H
    (try dsimp only at H)
    have A7 := Aside0.mk A70
    clear A70
    obtain ⟨y285, hy285⟩ : ∃ y_ : List Int, y_ = (([t284] : List Int)) := ⟨_, rfl⟩
    replace H : ((nat_norm.f k y285).bind fun t288 => (some (t281, t288))) = some (r1, r2) := by first | (rw [hy285]; with_reducible exact H) | (have H2_ := (Option.bind_some _ _).symm.trans H; rw [hy285]; with_reducible exact H2_) | (have H2_ := (Option.bind_some _ _).symm.trans H; with_reducible exact H2_) | with_reducible exact H | (rw [hy285]; exact H) | exact H
    have Ny285 := Aside0.mk hy285
    clear hy285
    replace H := Option.bind_eq_some_iff.mp H
    obtain ⟨t288, A80, H⟩ := H
    (try dsimp only at H)
    have A8 := Aside0.mk A80
    clear A80
    simp only [Option.some.injEq, Prod.mk.injEq] at H
    obtain ⟨rfl, rfl⟩ := H
    go_enter Tryd.func41, Tryd.ntmps41
    go_wp2_with (first | ((with_reducible refine gate_callee (f := 47) rfl ?_); refine goesL_ (some 20) rfl rfl Tryd.func47 (by kernel_rfl) rfl #[.slice A0 l0.length c0, .slice A1 l1.length c1] rfl (by (try simp only [List.map_toArray, List.map_cons, List.map_nil]); first | done | rfl | (simp only [List.length_drop, List.length_take]; rfl)) ?_; (with_reducible refine (nat_number_cmp.calls k _ _ l0 _ _ l1 t279 _ ?side1 ?side2 ?side3 ?side4 A3.out).mono ?_); (case side1 => repeat (first | exact (Kd.V_reads' HO0.out).2.2 | (with_reducible refine Kd.C_alloc ?_ _) | (with_reducible refine Kd.C_drewN ?_ _) | (with_reducible refine Kd.C_drew ?_))); (case side2 => exact (Kd.V_reads' HO0.out).2.1); (case side3 => repeat (first | exact HR1.out | (with_reducible refine Kd.C_alloc ?_ _) | (with_reducible refine Kd.C_drewN ?_ _) | (with_reducible refine Kd.C_drew ?_))); (case side4 => exact HC1.out); rintro e w' ⟨rfl, ⟨nd, rfl⟩⟩; refine ⟨_, rfl, ?_⟩; have p280 : 0 ≤ (0 : Int) := (by omega); have q280 : 0 < (l1.length : Int) := of_decide_eq_true (by first | (with_reducible assumption) | assumption); obtain ⟨ad280, e280, hx280_0⟩ := Kd.at_int HR1.out 0 p280 q280; cases e280; have qi280 : (0 < l1.length) = True := eq_true (by omega); (try rw [show ((0 : Int)).toNat = 0 from rfl] at hx280_0); (try rw [Addr.add_zero'] at hx280_0); replace p280 := eq_true p280; replace q280 := eq_true q280) | ((with_reducible refine gate_callee (f := 38) rfl ?_); refine goesL_ (some 32) rfl rfl Tryd.func38 (by kernel_rfl) rfl #[.slice A0 l0.length c0, .int .u64 (rd l1 0)] rfl (by (try simp only [List.map_toArray, List.map_cons, List.map_nil]); first | done | rfl | (simp only [List.length_drop, List.length_take]; rfl)) ?_; (with_reducible refine (nat_number_short.calls k _ _ l0 (rd l1 0) t281 t284 _ ?side1 ?side2 A7.out).mono ?_); (case side1 => repeat (first | exact (Kd.V_reads' HO0.out).2.2 | (with_reducible refine Kd.C_alloc ?_ _) | (with_reducible refine Kd.C_drewN ?_ _) | (with_reducible refine Kd.C_drew ?_))); (case side2 => exact (Kd.V_reads' HO0.out).2.1); rintro e w9 ⟨v282, rfl, ho0, hb⟩; refine ⟨_, rfl, ?_⟩; have n0_ := Aside0.mk (Kd.V_below (by (with_reducible repeat (first | apply Kd.V_alloc | apply Kd.V_drewN | apply Kd.V_drew)); exact HO0.out) hb); have n1_ := Aside0.mk (Kd.V_lower (Kd.V_mono (ok' := fun k_ => (P0_ k_ ∨ w.heap.size ≤ k_)) ho0 (fun k_ hk_ => (.inr (Nat.le_trans (below_size (by repeat (first | (with_reducible first | exact HB.out | apply below_alloc | apply pw_below_drewN | apply below_drew1) | exact HB.out))) hk_)))) (below_size (by repeat (first | (with_reducible first | exact HB.out | apply below_alloc | apply pw_below_drewN | apply below_drew1) | exact HB.out)))); have n2_ := Aside0.mk (below_step (by repeat (first | (with_reducible first | exact HB.out | apply below_alloc | apply pw_below_drewN | apply below_drew1) | exact HB.out)) hb); clear HO0; clear HB; have HO0 := n0_; have HO283 := n1_; have HB := n2_; clear n0_ n1_ n2_; (try clear hb); (try clear hb2); (try clear hk); (try clear hi); (try clear ho0)) | ((with_reducible refine gate_dst (N := 37) rfl ?_); refine Kd.R_lit (Kd.int .u64) _ 24 ?hg (N := 37) ?hd (xs := ([t284] : List Int)) (inner := [.int .u64 t284]) (ok := fun _ => True) (okp := fun _ => True) ?hr ?hp (fun _ hk => hk) trivial (Below.refl _ _) (Nat.le_refl _) (by simp) ?_; (case hd => rfl); (case hg => rfl); (case hr => first | (go_simp; done) | (go_simp; rfl)); (case hp => exact (Reps.one (show Kd.M (Kd.int .u64) _ _ _ t284 [.int .u64 t284] from rfl) (Reps.none _ _))); intro v286 w10 ho11 hb hg_ hnew_; clear hg_ hnew_; (first | rw [← Ny285.out] at ho11 | (simp only [Int.reduceToNat] at ho11; rw [← Ny285.out] at ho11)); have n0_ := Aside0.mk (Kd.V_elder' (by (with_reducible repeat (first | apply Kd.V_alloc | apply Kd.V_drewN | apply Kd.V_drew)); exact HO0.out) (Kd.R_base ho11) hb); have n1_ := Aside0.mk (Kd.V_elder' (by (with_reducible repeat (first | apply Kd.V_alloc | apply Kd.V_drewN | apply Kd.V_drew)); exact HO283.out) (Kd.R_base ho11) hb); have n2_ := Aside0.mk (Kd.R_lower (Kd.R_newM (M := fun k_ => (w.heap.size ≤ k_)) ho11 (below_size (by repeat (first | (with_reducible first | exact HB.out | apply below_alloc | apply pw_below_drewN | apply below_drew1) | exact HB.out))) (fun k_ h_ => h_)) (below_size (by repeat (first | (with_reducible first | exact HB.out | apply below_alloc | apply pw_below_drewN | apply below_drew1) | exact HB.out)))); have n3_ := Aside0.mk (below_step (by repeat (first | (with_reducible first | exact HB.out | apply below_alloc | apply pw_below_drewN | apply below_drew1) | exact HB.out)) hb); clear HO0; clear HO283; clear HB; have HO0 := n0_; have HO283 := n1_; have HO287 := n2_; have HB := n3_; clear n0_ n1_ n2_ n3_; clear hb ho11; obtain ⟨Ao12, co12, eo12⟩ := Kd.R_slice HO287.out; subst eo12) | ((with_reducible refine gate_callee (f := 30) rfl ?_); refine goesL_ (some 38) rfl rfl Tryd.func30 (by kernel_rfl) rfl #[.slice Ao12 y285.length co12] rfl (by (try simp only [List.map_toArray, List.map_cons, List.map_nil]); first | done | rfl | (simp only [List.length_drop, List.length_take]; rfl)) ?_; (with_reducible refine (nat_norm.calls k (fun k_ => some k_ = (.slice Ao12 y285.length co12 : Value).ownBlock) _ _ y285 t288 _ ?side1 A8.out).mono ?_); (case side1 => exact Kd.R_V (Kd.R_tight rfl (HO287.out))); rintro e w13 ⟨v289, rfl, ho0, hb⟩; refine ⟨_, rfl, ?_⟩; have n0_ := Aside0.mk (Kd.V_below (by (with_reducible repeat (first | apply Kd.V_alloc | apply Kd.V_drewN | apply Kd.V_drew)); exact HO0.out) hb); have n1_ := Aside0.mk (Kd.V_below (by (with_reducible repeat (first | apply Kd.V_alloc | apply Kd.V_drewN | apply Kd.V_drew)); exact HO283.out) hb); have n2_ := Aside0.mk (Kd.R_below (by (with_reducible repeat (first | apply Kd.R_alloc | apply Kd.R_drewN | apply Kd.R_drew)); exact HO287.out) hb); have n3_ := Aside0.mk (Kd.V_lower (Kd.V_mono (ok' := fun k_ => (P0_ k_ ∨ w.heap.size ≤ k_)) ho0 (fun k_ hk_ => Or.elim hk_ (fun hs_ => (.inr (((HO287.out).1 k_ hs_.symm).1))) (fun hn_ => (.inr (Nat.le_trans (below_size (by repeat (first | (with_reducible first | exact HB.out | apply below_alloc | apply pw_below_drewN | apply below_drew1) | exact HB.out))) hn_))))) (below_size (by repeat (first | (with_reducible first | exact HB.out | apply below_alloc | apply pw_below_drewN | apply below_drew1) | exact HB.out)))); have n4_ := Aside0.mk (below_step (by repeat (first | (with_reducible first | exact HB.out | apply below_alloc | apply pw_below_drewN | apply below_drew1) | exact HB.out)) hb); clear HO0; clear HO283; clear HO287; clear HB; have HO0 := n0_; have HO283 := n1_; have HO287 := n2_; have HO290 := n3_; have HB := n4_; clear n0_ n1_ n2_ n3_ n4_; (try clear hb); (try clear hb2); (try clear hk); (try clear hi); (try clear ho0)))
    go_ret2
    exact ⟨_, _, by first | rfl | (simp [errW_none, errW_some] <;> rfl) | (simp [*, errW_none, errW_some] <;> rfl), by (with_reducible repeat (first | apply Kd.V_alloc | apply Kd.V_drewN | apply Kd.V_drew)); exact Kd.V_mono HO283.out (fun _ hk => hk.1), by (with_reducible repeat (first | apply Kd.V_alloc | apply Kd.V_drewN | apply Kd.V_drew)); exact HO290.out, by repeat (first | (with_reducible first | exact HB.out | apply below_alloc | apply pw_below_drewN | apply below_drew1) | exact HB.out)⟩
   ·rw [if_neg c6] at H
    exact absurd H (by simp)
  ·rw [if_neg c5] at H
   have c5b0 : ((l1.length : Int) == 1) = false := beq_eq_false_iff_ne.mpr c5
   have c5b1 : ((l1.length : Int) != 1) = true := bne_iff_ne.mpr c5
   by_cases c14 : 0 ≤ (wrap64 ((l1.length : Int) - 1))
   ·rw [if_pos c14] at H
    have c14b0 : decide (0 ≤ (wrap64 ((l1.length : Int) - 1))) = true := decide_eq_true c14
    clear c14
    by_cases c15 : (wrap64 ((l1.length : Int) - 1)) < (l1.length : Int)
    ·rw [if_pos c15] at H
     have c15b0 : decide ((wrap64 ((l1.length : Int) - 1)) < (l1.length : Int)) = true := decide_eq_true c15
     clear c15
     replace H := Option.bind_eq_some_iff.mp H
     obtain ⟨t292, A160, H⟩ := H
     (try dsimp only at H)
     have A16 := Aside0.mk A160
     clear A160
     replace H := Option.bind_eq_some_iff.mp H
     obtain ⟨t293, A170, H⟩ := H
     (try dsimp only at H)
     have A17 := Aside0.mk A170
     clear A170
     by_cases c18 : 0 ≤ (wrap64 ((l0.length : Int) + 1))
     ·rw [if_pos c18] at H
      have c18b0 := eq_true c18
      have c18b1 : decide (0 ≤ (wrap64 ((l0.length : Int) + 1))) = true := decide_eq_true c18
      by_cases c19 : (wrap64 ((l0.length : Int) + 1) : Int).toNat ≤ 35184372088832
      ·rw [if_pos c19] at H
       have c19b0 := eq_true c19
       have c19b1 : decide ((wrap64 ((l0.length : Int) + 1) : Int).toNat ≤ 35184372088832) = true := decide_eq_true c19
       obtain ⟨y296, hy296⟩ : ∃ y_ : List Int, y_ = (List.replicate (wrap64 ((l0.length : Int) + 1) : Int).toNat 0) := ⟨_, rfl⟩
       replace H : ((nat_number_shl.f k l0 t292).bind fun t299 => (if 0 ≤ (wrap64 ((wrap64 ((l0.length : Int) - (t293.length : Int))) + 1)) then (if (wrap64 ((wrap64 ((l0.length : Int) - (t293.length : Int))) + 1) : Int).toNat ≤ 35184372088832 then (nat_number_div.l0 k t292 t293 (t299.take (min t299.length y296.length) ++ y296.drop (min t299.length y296.length)) (t293.length : Int) (List.replicate (wrap64 ((wrap64 ((l0.length : Int) - (t293.length : Int))) + 1) : Int).toNat 0) (wrap64 ((l0.length : Int) - (t293.length : Int)))) else (none)) else (none))) = some (r1, r2) := by first | (rw [hy296]; with_reducible exact H) | (have H2_ := (Option.bind_some _ _).symm.trans H; rw [hy296]; with_reducible exact H2_) | (have H2_ := (Option.bind_some _ _).symm.trans H; with_reducible exact H2_) | with_reducible exact H | (rw [hy296]; exact H) | exact H
       have Ny296 := Aside0.mk hy296
       clear hy296
       replace H := Option.bind_eq_some_iff.mp H
       obtain ⟨t299, A200, H⟩ := H
       (try dsimp only at H)
       have A20 := Aside0.mk A200
       clear A200
       obtain ⟨y302, hy302⟩ : ∃ y_ : List Int, y_ = (t299.take (min t299.length y296.length) ++ y296.drop (min t299.length y296.length)) := ⟨_, rfl⟩
       replace H : (if 0 ≤ (wrap64 ((wrap64 ((l0.length : Int) - (t293.length : Int))) + 1)) then (if (wrap64 ((wrap64 ((l0.length : Int) - (t293.length : Int))) + 1) : Int).toNat ≤ 35184372088832 then (nat_number_div.l0 k t292 t293 y302 (t293.length : Int) (List.replicate (wrap64 ((wrap64 ((l0.length : Int) - (t293.length : Int))) + 1) : Int).toNat 0) (wrap64 ((l0.length : Int) - (t293.length : Int)))) else (none)) else (none)) = some (r1, r2) := by first | (rw [hy302]; with_reducible exact H) | (have H2_ := (Option.bind_some _ _).symm.trans H; rw [hy302]; with_reducible exact H2_) | (have H2_ := (Option.bind_some _ _).symm.trans H; with_reducible exact H2_) | with_reducible exact H | (rw [hy302]; exact H) | exact H
       have Ny302 := Aside0.mk hy302
       clear hy302
       by_cases c21 : 0 ≤ (wrap64 ((wrap64 ((l0.length : Int) - (t293.length : Int))) + 1))
       ·rw [if_pos c21] at H
        have c21b0 := eq_true c21
        have c21b1 : decide (0 ≤ (wrap64 ((wrap64 ((l0.length : Int) - (t293.length : Int))) + 1))) = true := decide_eq_true c21
        by_cases c22 : (wrap64 ((wrap64 ((l0.length : Int) - (t293.length : Int))) + 1) : Int).toNat ≤ 35184372088832
        ·rw [if_pos c22] at H
         have c22b0 := eq_true c22
         have c22b1 : decide ((wrap64 ((wrap64 ((l0.length : Int) - (t293.length : Int))) + 1) : Int).toNat ≤ 35184372088832) = true := decide_eq_true c22
         obtain ⟨y303, hy303⟩ : ∃ y_ : List Int, y_ = (List.replicate (wrap64 ((wrap64 ((l0.length : Int) - (t293.length : Int))) + 1) : Int).toNat 0) := ⟨_, rfl⟩
         replace H : (nat_number_div.l0 k t292 t293 y302 (t293.length : Int) y303 (wrap64 ((l0.length : Int) - (t293.length : Int)))) = some (r1, r2) := by first | (rw [hy303]; with_reducible exact H) | (have H2_ := (Option.bind_some _ _).symm.trans H; rw [hy303]; with_reducible exact H2_) | (have H2_ := (Option.bind_some _ _).symm.trans H; with_reducible exact H2_) | with_reducible exact H | (rw [hy303]; exact H) | exact H
         have Ny303 := Aside0.mk hy303
         clear hy303
         have H' := Aside0.mk H
         clear H
         go_enter Tryd.func41, Tryd.ntmps41
         go_wp2_with (first | ((with_reducible refine gate_callee (f := 47) rfl ?_); refine goesL_ (some 20) rfl rfl Tryd.func47 (by kernel_rfl) rfl #[.slice A0 l0.length c0, .slice A1 l1.length c1] rfl (by (try simp only [List.map_toArray, List.map_cons, List.map_nil]); first | done | rfl | (simp only [List.length_drop, List.length_take]; rfl)) ?_; (with_reducible refine (nat_number_cmp.calls k _ _ l0 _ _ l1 t279 _ ?side1 ?side2 ?side3 ?side4 A3.out).mono ?_); (case side1 => repeat (first | exact (Kd.V_reads' HO0.out).2.2 | (with_reducible refine Kd.C_alloc ?_ _) | (with_reducible refine Kd.C_drewN ?_ _) | (with_reducible refine Kd.C_drew ?_))); (case side2 => exact (Kd.V_reads' HO0.out).2.1); (case side3 => repeat (first | exact HR1.out | (with_reducible refine Kd.C_alloc ?_ _) | (with_reducible refine Kd.C_drewN ?_ _) | (with_reducible refine Kd.C_drew ?_))); (case side4 => exact HC1.out); rintro e w' ⟨rfl, ⟨nd, rfl⟩⟩; refine ⟨_, rfl, ?_⟩; have p291 : 0 ≤ ((wrap64 ((l1.length : Int) - 1)) : Int) := of_decide_eq_true (by first | (with_reducible assumption) | assumption); have q291 : (wrap64 ((l1.length : Int) - 1)) < (l1.length : Int) := of_decide_eq_true (by first | (with_reducible assumption) | assumption); obtain ⟨ad291, e291, hx291_0⟩ := Kd.at_int HR1.out (wrap64 ((l1.length : Int) - 1)) p291 q291; cases e291; replace p291 := eq_true p291; replace q291 := eq_true q291) | ((with_reducible refine gate_callee (f := 48) rfl ?_); refine goesL_ (some 45) rfl rfl Tryd.func48 (by kernel_rfl) rfl #[.int .u64 (rd l1 (wrap64 ((l1.length : Int) - 1)))] rfl (by (try simp only [List.map_toArray, List.map_cons, List.map_nil]); first | done | rfl | (simp only [List.length_drop, List.length_take]; rfl)) ?_; (with_reducible refine (bits_LeadingZeros64.calls k (rd l1 (wrap64 ((l1.length : Int) - 1))) t292 _ A16.out).mono ?_); rintro e w' ⟨rfl, ⟨nd, rfl⟩⟩; refine ⟨_, rfl, ?_⟩) | ((with_reducible refine gate_callee (f := 49) rfl ?_); refine goesL_ (some 48) rfl rfl Tryd.func49 (by kernel_rfl) rfl #[.slice (some ad291) l1.length c1, .int .i64 t292] rfl (by (try simp only [List.map_toArray, List.map_cons, List.map_nil]); first | done | rfl | (simp only [List.length_drop, List.length_take]; rfl)) ?_; (with_reducible refine (nat_number_shl.calls k _ _ l1 t292 t293 _ ?side1 ?side2 A17.out).mono ?_); (case side1 => repeat (first | exact HR1.out | (with_reducible refine Kd.C_alloc ?_ _) | (with_reducible refine Kd.C_drewN ?_ _) | (with_reducible refine Kd.C_drew ?_))); (case side2 => exact HC1.out); rintro e w23 ⟨v294, rfl, ho0, hb⟩; refine ⟨_, rfl, ?_⟩; have n0_ := Aside0.mk (Kd.V_below (by (with_reducible repeat (first | apply Kd.V_alloc | apply Kd.V_drewN | apply Kd.V_drew)); exact HO0.out) hb); have n1_ := Aside0.mk (Kd.V_lower (Kd.V_mono (ok' := fun k_ => (P0_ k_ ∨ w.heap.size ≤ k_)) ho0 (fun k_ hk_ => (.inr (Nat.le_trans (below_size (by repeat (first | (with_reducible first | exact HB.out | apply below_alloc | apply pw_below_drewN | apply below_drew1) | exact HB.out))) hk_)))) (below_size (by repeat (first | (with_reducible first | exact HB.out | apply below_alloc | apply pw_below_drewN | apply below_drew1) | exact HB.out)))); have n2_ := Aside0.mk (below_step (by repeat (first | (with_reducible first | exact HB.out | apply below_alloc | apply pw_below_drewN | apply below_drew1) | exact HB.out)) hb); clear HO0; clear HB; have HO0 := n0_; have HO295 := n1_; have HB := n2_; clear n0_ n1_ n2_; (try clear hb); (try clear hb2); (try clear hk); (try clear hi); (try clear ho0)) | ((with_reducible refine gate_dst (N := 52) rfl ?_); refine Kd.R_make (Kd.int .u64) _ 24 rfl (N := 52) rfl 49 _ _ rfl (wrap64 ((l0.length : Int) + 1)) rfl rfl Tryd.underlying49 (.int .u64 0) 8 info24 rfl (by decide) (by omega) 0 (ok := fun _ => True) (okp := fun _ => True) rfl (fun _ hk => hk) trivial (of_decide_eq_true (by first | (with_reducible assumption) | assumption)) (Nat.le_trans (Nat.mul_le_mul_right _ (of_decide_eq_true (by first | (with_reducible assumption) | assumption) : (wrap64 ((l0.length : Int) + 1)).toNat ≤ 35184372088832)) (by omega)) (Below.refl _ _) (Nat.le_refl _) ?_; intro v297 w24 ho25 hb hg_ hnew_; clear hg_ hnew_; (first | rw [← Ny296.out] at ho25 | (simp only [Int.reduceToNat] at ho25; rw [← Ny296.out] at ho25)); have n0_ := Aside0.mk (Kd.V_elder' (by (with_reducible repeat (first | apply Kd.V_alloc | apply Kd.V_drewN | apply Kd.V_drew)); exact HO0.out) (Kd.R_base ho25) hb); have n1_ := Aside0.mk (Kd.V_elder' (by (with_reducible repeat (first | apply Kd.V_alloc | apply Kd.V_drewN | apply Kd.V_drew)); exact HO295.out) (Kd.R_base ho25) hb); have n2_ := Aside0.mk (Kd.R_lower (Kd.R_newM (M := fun k_ => (w.heap.size ≤ k_)) ho25 (below_size (by repeat (first | (with_reducible first | exact HB.out | apply below_alloc | apply pw_below_drewN | apply below_drew1) | exact HB.out))) (fun k_ h_ => h_)) (below_size (by repeat (first | (with_reducible first | exact HB.out | apply below_alloc | apply pw_below_drewN | apply below_drew1) | exact HB.out)))); have n3_ := Aside0.mk (below_step (by repeat (first | (with_reducible first | exact HB.out | apply below_alloc | apply pw_below_drewN | apply below_drew1) | exact HB.out)) hb); clear HO0; clear HO295; clear HB; have HO0 := n0_; have HO295 := n1_; have HO298 := n2_; have HB := n3_; clear n0_ n1_ n2_ n3_; clear hb ho25) | ((with_reducible refine gate_callee (f := 49) rfl ?_); refine goesL_ (some 56) rfl rfl Tryd.func49 (by kernel_rfl) rfl #[.slice A0 l0.length c0, .int .i64 t292] rfl (by (try simp only [List.map_toArray, List.map_cons, List.map_nil]); first | done | rfl | (simp only [List.length_drop, List.length_take]; rfl)) ?_; (with_reducible refine (nat_number_shl.calls k _ _ l0 t292 t299 _ ?side1 ?side2 A20.out).mono ?_); (case side1 => repeat (first | exact (Kd.V_reads' HO0.out).2.2 | (with_reducible refine Kd.C_alloc ?_ _) | (with_reducible refine Kd.C_drewN ?_ _) | (with_reducible refine Kd.C_drew ?_))); (case side2 => exact (Kd.V_reads' HO0.out).2.1); rintro e w26 ⟨v300, rfl, ho0, hb⟩; refine ⟨_, rfl, ?_⟩; have n0_ := Aside0.mk (Kd.V_below (by (with_reducible repeat (first | apply Kd.V_alloc | apply Kd.V_drewN | apply Kd.V_drew)); exact HO0.out) hb); have n1_ := Aside0.mk (Kd.V_below (by (with_reducible repeat (first | apply Kd.V_alloc | apply Kd.V_drewN | apply Kd.V_drew)); exact HO295.out) hb); have n2_ := Aside0.mk (Kd.R_below (by (with_reducible repeat (first | apply Kd.R_alloc | apply Kd.R_drewN | apply Kd.R_drew)); exact HO298.out) hb); have n3_ := Aside0.mk (Kd.V_lower (Kd.V_mono (ok' := fun k_ => (P0_ k_ ∨ w.heap.size ≤ k_) ∧ some k_ ≠ (v297 : Value).ownBlock) ho0 (fun k_ hk_ => ⟨(.inr (Nat.le_trans (below_size (by repeat (first | (with_reducible first | exact HB.out | apply below_alloc | apply pw_below_drewN | apply below_drew1) | exact HB.out))) hk_)), (Kd.fresh' (Kd.R_lt (by (with_reducible repeat (first | apply Kd.R_alloc | apply Kd.R_drewN | apply Kd.R_drew)); exact HO298.out)) k_ hk_)⟩)) (below_size (by repeat (first | (with_reducible first | exact HB.out | apply below_alloc | apply pw_below_drewN | apply below_drew1) | exact HB.out)))); have n4_ := Aside0.mk (below_step (by repeat (first | (with_reducible first | exact HB.out | apply below_alloc | apply pw_below_drewN | apply below_drew1) | exact HB.out)) hb); clear HO0; clear HO295; clear HO298; clear HB; have HO0 := n0_; have HO295 := n1_; have HO298 := n2_; have HO301 := n3_; have HB := n4_; clear n0_ n1_ n2_ n3_ n4_; (try clear hb); (try clear hb2); (try clear hk); (try clear hi); (try clear ho0); obtain ⟨Ao29, co29, eo29⟩ := Kd.V_slice HO301.out; subst eo29; obtain ⟨Ao30, co30, eo30⟩ := Kd.R_slice HO298.out; subst eo30; have n_ := Aside0.mk (Kd.R_mono (ok' := (fun k_ => (w.heap.size ≤ k_))) HO298.out (fun k_ hk => hk.1)); clear HO298; have HO298 := n_; clear n_) | ((with_reducible refine gate_builtin (b := .copy) (xs := #[.tmp 53, .tmp 56]) rfl ?_); refine Kd.R_copy (enc := Value.int .u64) (h1 := fun _ => rfl) 0 (w0 := w) w.heap.size rfl (.tmp 53) (.tmp 56) 49 49 24 rfl Tryd.underlying49 (by kernel_rfl) (.slice Ao30 y296.length co30) y296 t299 Ao29 t299.length co29 (fun k_ => (w.heap.size ≤ k_)) ?hs ?hx ?HO ?HR ?HB ?Hb ?_; (case hs => rfl); (case hx => rfl); (case HO => exact by (with_reducible repeat (first | apply Kd.R_alloc | apply Kd.R_drewN | apply Kd.R_drew)); exact HO298.out); (case HR => repeat (first | exact (Kd.V_reads' HO301.out).2.2 | (with_reducible refine Kd.C_alloc ?_ _) | (with_reducible refine Kd.C_drewN ?_ _) | (with_reducible refine Kd.C_drew ?_))); (case HB => exact HB.out); (case Hb => exact below_size HB.out); intro w28 ho_ hb_ hg; have hp_ : Kd.R (Kd.int .u64) 24 w28 w.heap.size (fun k_ => (w.heap.size ≤ k_)) (.slice Ao30 y296.length co30) y302 := (by rw [Ny302.out]; exact ho_); clear ho_; have n0_ := Aside0.mk (Kd.V_afterv (v := (.slice Ao30 y296.length co30)) (v1 := (.slice Ao30 y296.length co30)) (ok := (fun k_ => (P0_ k_ ∨ w.heap.size ≤ k_))) (by (with_reducible repeat (first | apply Kd.V_alloc | apply Kd.V_drewN | apply Kd.V_drew)); exact HO0.out) hg (.inl rfl)); have n1_ := Aside0.mk (Kd.V_afterv (v := (.slice Ao30 y296.length co30)) (v1 := (.slice Ao30 y296.length co30)) (ok := (fun k_ => (P0_ k_ ∨ w.heap.size ≤ k_))) (by (with_reducible repeat (first | apply Kd.V_alloc | apply Kd.V_drewN | apply Kd.V_drew)); exact HO295.out) hg (.inl rfl)); have n2_ := Aside0.mk (hp_); have n3_ := Aside0.mk (Kd.V_afterv (v := (.slice Ao30 y296.length co30)) (v1 := (.slice Ao30 y296.length co30)) (ok := (fun k_ => (P0_ k_ ∨ w.heap.size ≤ k_))) (by (with_reducible repeat (first | apply Kd.V_alloc | apply Kd.V_drewN | apply Kd.V_drew)); exact HO301.out) hg (.inl rfl)); have n4_ := Aside0.mk (hb_); clear HO0; clear HO295; clear HO298; clear HO301; clear HB; have HO0 := n0_; have HO295 := n1_; have HO298 := n2_; have HO301 := n3_; have HB := n4_; clear n0_ n1_ n2_ n3_ n4_; clear hg hp_; clear hb_; obtain ⟨Ao31, co31, eo31⟩ := Kd.V_slice HO295.out; subst eo31) | ((with_reducible refine gate_dst (N := 65) rfl ?_); refine Kd.R_make (Kd.int .u64) _ 24 rfl (N := 65) rfl 49 _ _ rfl (wrap64 ((wrap64 ((l0.length : Int) - (t293.length : Int))) + 1)) rfl rfl Tryd.underlying49 (.int .u64 0) 8 info24 rfl (by decide) (by omega) 0 (ok := fun _ => True) (okp := fun _ => True) rfl (fun _ hk => hk) trivial (of_decide_eq_true (by first | (with_reducible assumption) | assumption)) (Nat.le_trans (Nat.mul_le_mul_right _ (of_decide_eq_true (by first | (with_reducible assumption) | assumption) : (wrap64 ((wrap64 ((l0.length : Int) - (t293.length : Int))) + 1)).toNat ≤ 35184372088832)) (by omega)) (Below.refl _ _) (Nat.le_refl _) ?_; intro v304 w32 ho33 hb hg_ hnew_; clear hg_ hnew_; (first | rw [← Ny303.out] at ho33 | (simp only [Int.reduceToNat] at ho33; rw [← Ny303.out] at ho33)); have n0_ := Aside0.mk (Kd.V_elder' (by (with_reducible repeat (first | apply Kd.V_alloc | apply Kd.V_drewN | apply Kd.V_drew)); exact HO0.out) (Kd.R_base ho33) hb); have n1_ := Aside0.mk (Kd.V_elder' (by (with_reducible repeat (first | apply Kd.V_alloc | apply Kd.V_drewN | apply Kd.V_drew)); exact HO295.out) (Kd.R_base ho33) hb); have n2_ := Aside0.mk (Kd.R_elder' (by (with_reducible repeat (first | apply Kd.R_alloc | apply Kd.R_drewN | apply Kd.R_drew)); exact HO298.out) (Kd.R_base ho33) hb); have n3_ := Aside0.mk (Kd.V_elder' (by (with_reducible repeat (first | apply Kd.V_alloc | apply Kd.V_drewN | apply Kd.V_drew)); exact HO301.out) (Kd.R_base ho33) hb); have n4_ := Aside0.mk (Kd.R_lower (Kd.R_new' (Kd.R_newM (M := fun k_ => (w.heap.size ≤ k_)) ho33 (below_size (by repeat (first | (with_reducible first | exact HB.out | apply below_alloc | apply pw_below_drewN | apply below_drew1) | exact HB.out))) (fun k_ h_ => h_)) (Kd.R_lt (by (with_reducible repeat (first | apply Kd.R_alloc | apply Kd.R_drewN | apply Kd.R_drew)); exact HO298.out))) (below_size (by repeat (first | (with_reducible first | exact HB.out | apply below_alloc | apply pw_below_drewN | apply below_drew1) | exact HB.out)))); have n5_ := Aside0.mk (below_step (by repeat (first | (with_reducible first | exact HB.out | apply below_alloc | apply pw_below_drewN | apply below_drew1) | exact HB.out)) hb); clear HO0; clear HO295; clear HO298; clear HO301; clear HB; have HO0 := n0_; have HO295 := n1_; have HO298 := n2_; have HO301 := n3_; have HO305 := n4_; have HB := n5_; clear n0_ n1_ n2_ n3_ n4_ n5_; clear hb ho33))
         go_loopg [13] k (fun kq v13 w' => ∃ (x9_1 : List Int) (x10_1 : List Int) (x12_1 : List Int) (x13_1 : Int), v13 = .int .i64 x13_1 ∧ Aside0 (nat_number_div.l0 kq t292 x9_1 x10_1 (t293.length : Int) x12_1 x13_1 = some (r1, r2)) ∧ Aside0 (kq ≤ k) ∧ Aside0 (Kd.V (Kd.int .u64) 24 w' w.heap.size (fun k_ => (P0_ k_ ∨ w.heap.size ≤ k_) ∧ some k_ ≠ ((.slice Ao30 y296.length co30) : Value).ownBlock ∧ some k_ ≠ (v304 : Value).ownBlock) (.slice Ao31 t293.length co31) x9_1) ∧ Aside0 (Kd.R (Kd.int .u64) 24 w' w.heap.size (fun k_ => (w.heap.size ≤ k_) ∧ some k_ ≠ (v304 : Value).ownBlock) (.slice Ao30 y296.length co30) x10_1) ∧ Aside0 (Kd.R (Kd.int .u64) 24 w' w.heap.size (fun k_ => (w.heap.size ≤ k_) ∧ some k_ ≠ ((.slice Ao30 y296.length co30) : Value).ownBlock) v304 x12_1) ∧ Aside0 (Below w.heap.size w w'))
         case atStart => exact ⟨(t293), (y302), (y303), (wrap64 ((l0.length : Int) - (t293.length : Int))), (by first | rfl | (simp; done) | (simp [*]; done)), H', ⟨Nat.le_refl _⟩, ⟨by (with_reducible repeat (first | apply Kd.V_alloc | apply Kd.V_drewN | apply Kd.V_drew)); exact Kd.V_mono HO295.out (fun _ hk => ⟨hk.1.1, ⟨hk.1.2, hk.2⟩⟩)⟩, ⟨by (with_reducible repeat (first | apply Kd.R_alloc | apply Kd.R_drewN | apply Kd.R_drew)); exact HO298.out⟩, ⟨by (with_reducible repeat (first | apply Kd.R_alloc | apply Kd.R_drewN | apply Kd.R_drew)); exact Kd.R_mono HO305.out (fun _ hk => ⟨hk.1.1, hk.2⟩)⟩, ⟨by repeat (first | (with_reducible first | exact HB.out | apply below_alloc | apply pw_below_drewN | apply below_drew1) | exact HB.out)⟩⟩
         case round =>
          clear H'
          try clear c1
          try clear c2
          try clear p2
          try clear q2
          try clear hx2
          try clear qi2
          try clear c3
          try clear c4
          try clear c4b0
          try clear c5
          try clear c5b0
          try clear c5b1
          try clear c6
          try clear c6b0
          try clear c6b1
          try clear p6
          try clear c14
          try clear c14b0
          try clear c15
          try clear c15b0
          try clear c18
          try clear c18b0
          try clear c18b1
          try clear c19
          try clear c19b0
          try clear c19b1
          try clear c21
          try clear c21b0
          try clear c21b1
          try clear c22
          try clear c22b0
          try clear c22b1
          try clear p28
          try clear q28
          try clear hx28
          try clear qi28
          try clear p29
          try clear q29
          try clear hx29
          try clear c30
          try clear hx280_0
          try clear hx291_0
          try clear p280
          try clear p291
          try clear q280
          try clear q291
          obtain ⟨x9_1, x10_1, x12_1, x13_1, rfl, HA, HK1, HO_9, HO_10, HO_12, HB⟩ := hrel
          have hl9_1 := (Kd.V_reads' HO_9.out).1
          rw [hl9_1] at HO_9
          (try simp only [hl9_1])
          (try simp only [hl9_1] at HO_10)
          (try simp only [hl9_1] at HO_12)
          have hl10_1 := (Kd.R_reads' HO_10.out).1
          rw [hl10_1] at HO_10
          (try simp only [hl10_1])
          (try simp only [hl10_1] at HO_9)
          (try simp only [hl10_1] at HO_12)
          cases gk with
          | zero => exact absurd HA.out (by simp [nat_number_div.l0])
          | succ k1 =>
           have H := HA.out
           clear HA
           simp only [nat_number_div.l0] at H
           simp only [hl9_1] at H
           by_cases c34 : x13_1 ≥ 0
           ·rw [if_pos c34] at H
            have c34b0 : decide (0 ≤ x13_1) = true := decide_eq_true c34
            clear c34
            by_cases c35 : 0 ≤ (wrap64 (x13_1 + (x9_1.length : Int)))
            ·rw [if_pos c35] at H
             have c35b0 : decide (0 ≤ (wrap64 (x13_1 + (x9_1.length : Int)))) = true := decide_eq_true c35
             have keepo_c35b0 := c35b0
             (try rw [hl9_1] at c35b0)
             (try rw [hl10_1] at c35b0)
             clear c35
             by_cases c36 : (wrap64 (x13_1 + (x9_1.length : Int))) < (x10_1.length : Int)
             ·rw [if_pos c36] at H
              have c36b0 : decide ((wrap64 (x13_1 + (x9_1.length : Int))) < (x10_1.length : Int)) = true := decide_eq_true c36
              have keepo_c36b0 := c36b0
              (try rw [hl9_1] at c36b0)
              (try rw [hl10_1] at c36b0)
              clear c36
              by_cases c37 : 0 ≤ (wrap64 ((wrap64 (x13_1 + (x9_1.length : Int))) - 1))
              ·rw [if_pos c37] at H
               have c37b0 : decide (0 ≤ (wrap64 ((wrap64 (x13_1 + (x9_1.length : Int))) - 1))) = true := decide_eq_true c37
               have keepo_c37b0 := c37b0
               (try rw [hl9_1] at c37b0)
               (try rw [hl10_1] at c37b0)
               clear c37
               by_cases c38 : (wrap64 ((wrap64 (x13_1 + (x9_1.length : Int))) - 1)) < (x10_1.length : Int)
               ·rw [if_pos c38] at H
                have c38b0 : decide ((wrap64 ((wrap64 (x13_1 + (x9_1.length : Int))) - 1)) < (x10_1.length : Int)) = true := decide_eq_true c38
                have keepo_c38b0 := c38b0
                (try rw [hl9_1] at c38b0)
                (try rw [hl10_1] at c38b0)
                clear c38
                by_cases c39 : 0 ≤ (wrap64 ((wrap64 (x13_1 + (x9_1.length : Int))) - 2))
                ·rw [if_pos c39] at H
                 have c39b0 : decide (0 ≤ (wrap64 ((wrap64 (x13_1 + (x9_1.length : Int))) - 2))) = true := decide_eq_true c39
                 have keepo_c39b0 := c39b0
                 (try rw [hl9_1] at c39b0)
                 (try rw [hl10_1] at c39b0)
                 clear c39
                 by_cases c40 : (wrap64 ((wrap64 (x13_1 + (x9_1.length : Int))) - 2)) < (x10_1.length : Int)
                 ·rw [if_pos c40] at H
                  have c40b0 : decide ((wrap64 ((wrap64 (x13_1 + (x9_1.length : Int))) - 2)) < (x10_1.length : Int)) = true := decide_eq_true c40
                  have keepo_c40b0 := c40b0
                  (try rw [hl9_1] at c40b0)
                  (try rw [hl10_1] at c40b0)
                  clear c40
                  by_cases c41 : 0 ≤ (wrap64 ((x9_1.length : Int) - 1))
                  ·rw [if_pos c41] at H
                   have c41b0 : decide (0 ≤ (wrap64 ((x9_1.length : Int) - 1))) = true := decide_eq_true c41
                   have keepo_c41b0 := c41b0
                   (try rw [hl9_1] at c41b0)
                   (try rw [hl10_1] at c41b0)
                   clear c41
                   by_cases c42 : (wrap64 ((x9_1.length : Int) - 1)) < (x9_1.length : Int)
                   ·rw [if_pos c42] at H
                    have c42b0 : decide ((wrap64 ((x9_1.length : Int) - 1)) < (x9_1.length : Int)) = true := decide_eq_true c42
                    have keepo_c42b0 := c42b0
                    (try rw [hl9_1] at c42b0)
                    (try rw [hl10_1] at c42b0)
                    clear c42
                    by_cases c43 : 0 ≤ (wrap64 ((x9_1.length : Int) - 2))
                    ·rw [if_pos c43] at H
                     have c43b0 : decide (0 ≤ (wrap64 ((x9_1.length : Int) - 2))) = true := decide_eq_true c43
                     have keepo_c43b0 := c43b0
                     (try rw [hl9_1] at c43b0)
                     (try rw [hl10_1] at c43b0)
                     clear c43
                     by_cases c44 : (wrap64 ((x9_1.length : Int) - 2)) < (x9_1.length : Int)
                     ·rw [if_pos c44] at H
                      have c44b0 : decide ((wrap64 ((x9_1.length : Int) - 2)) < (x9_1.length : Int)) = true := decide_eq_true c44
                      have keepo_c44b0 := c44b0
                      (try rw [hl9_1] at c44b0)
                      (try rw [hl10_1] at c44b0)
                      clear c44
                      replace H := Option.bind_eq_some_iff.mp H
                      obtain ⟨t324, A450, H⟩ := H
                      (try dsimp only at H)
                      have A45 := Aside0.mk A450
                      clear A450
                      by_cases c46 : 0 ≤ x13_1
                      ·rw [if_pos c46] at H
                       have c46b0 := eq_true c46
                       have c46b1 : decide (0 ≤ x13_1) = true := decide_eq_true c46
                       clear c46
                       by_cases c47 : x13_1 ≤ (wrap64 ((wrap64 (x13_1 + (x9_1.length : Int))) + 1))
                       ·rw [if_pos c47] at H
                        have c47b0 := eq_true c47
                        have c47b1 : decide (x13_1 ≤ (wrap64 ((wrap64 (x13_1 + (x9_1.length : Int))) + 1))) = true := decide_eq_true c47
                        have keepo_c47b1 := c47b1
                        (try rw [hl9_1] at c47b1)
                        (try rw [hl10_1] at c47b1)
                        by_cases c48 : (wrap64 ((wrap64 (x13_1 + (x9_1.length : Int))) + 1)) ≤ (x10_1.length : Int)
                        ·rw [if_pos c48] at H
                         have c48b0 := eq_true c48
                         have c48b1 : decide ((wrap64 ((wrap64 (x13_1 + (x9_1.length : Int))) + 1)) ≤ (x10_1.length : Int)) = true := decide_eq_true c48
                         have keepo_c48b1 := c48b1
                         (try rw [hl9_1] at c48b1)
                         (try rw [hl10_1] at c48b1)
                         obtain ⟨y325, hy325⟩ : ∃ y_ : List Int, y_ = ((x10_1.take ((wrap64 ((wrap64 (x13_1 + (x9_1.length : Int))) + 1)) : Int).toNat).drop (x13_1 : Int).toNat) := ⟨_, rfl⟩
                         replace H : ((nat_number_lessAt.f k1 x10_1 x13_1 (wrap64 ((wrap64 (x13_1 + (x9_1.length : Int))) + 1)) x9_1 t324).bind fun bt329 => (if bt329.1 = true then ((nat_number_backAt.f k1 bt329.2 x13_1 (wrap64 ((wrap64 (x13_1 + (x9_1.length : Int))) + 1)) x9_1).bind fun t335 => (if x13_1 < (x12_1.length : Int) then (nat_number_div.l0 k1 t292 x9_1 t335 (x9_1.length : Int) (x12_1.set (x13_1 : Int).toNat (IntKind.u64.wrap (t324 - 1))) (wrap64 (x13_1 - 1))) else (none))) else (if x13_1 < (x12_1.length : Int) then (nat_number_div.l0 k1 t292 x9_1 bt329.2 (x9_1.length : Int) (x12_1.set (x13_1 : Int).toNat t324) (wrap64 (x13_1 - 1))) else (none)))) = some (r1, r2) := by first | (rw [hy325]; with_reducible exact H) | (have H2_ := (Option.bind_some _ _).symm.trans H; rw [hy325]; with_reducible exact H2_) | (have H2_ := (Option.bind_some _ _).symm.trans H; with_reducible exact H2_) | with_reducible exact H | (rw [hy325]; exact H) | exact H
                         have Ny325 := Aside0.mk hy325
                         clear hy325
                         replace H := Option.bind_eq_some_iff.mp H
                         obtain ⟨⟨t329, t330⟩, A490, H⟩ := H
                         (try dsimp only at H)
                         have A49 := Aside0.mk A490
                         clear A490
                         by_cases c50 : t329 = true
                         ·subst c50
                          rw [if_pos rfl] at H
                          have c51b0 := eq_true (of_decide_eq_true (by first | (with_reducible assumption) | assumption) : 0 ≤ x13_1)
                          have c52b0 := eq_true (of_decide_eq_true (by first | (with_reducible assumption) | assumption) : x13_1 ≤ (wrap64 ((wrap64 (x13_1 + (x9_1.length : Int))) + 1)))
                          have c53b0 := eq_true (of_decide_eq_true (by first | (with_reducible assumption) | assumption) : (wrap64 ((wrap64 (x13_1 + (x9_1.length : Int))) + 1)) ≤ (x10_1.length : Int))
                          obtain ⟨y331, hy331⟩ : ∃ y_ : List Int, y_ = ((t330.take ((wrap64 ((wrap64 (x13_1 + (x9_1.length : Int))) + 1)) : Int).toNat).drop (x13_1 : Int).toNat) := ⟨_, rfl⟩
                          replace H : ((nat_number_backAt.f k1 t330 x13_1 (wrap64 ((wrap64 (x13_1 + (x9_1.length : Int))) + 1)) x9_1).bind fun t335 => (if x13_1 < (x12_1.length : Int) then (nat_number_div.l0 k1 t292 x9_1 t335 (x9_1.length : Int) (x12_1.set (x13_1 : Int).toNat (IntKind.u64.wrap (t324 - 1))) (wrap64 (x13_1 - 1))) else (none))) = some (r1, r2) := by first | (rw [hy331]; with_reducible exact H) | (have H2_ := (Option.bind_some _ _).symm.trans H; rw [hy331]; with_reducible exact H2_) | (have H2_ := (Option.bind_some _ _).symm.trans H; with_reducible exact H2_) | with_reducible exact H | (rw [hy331]; exact H) | exact H
                          have Ny331 := Aside0.mk hy331
                          clear hy331
                          replace H := Option.bind_eq_some_iff.mp H
                          obtain ⟨t335, A540, H⟩ := H
                          (try dsimp only at H)
                          have A54 := Aside0.mk A540
                          clear A540
                          by_cases c55 : x13_1 < (x12_1.length : Int)
                          ·rw [if_pos c55] at H
                           have c55b0 : decide (x13_1 < (x12_1.length : Int)) = true := decide_eq_true c55
                           have keepo_c55b0 := c55b0
                           (try rw [hl9_1] at c55b0)
                           (try rw [hl10_1] at c55b0)
                           clear c55
                           obtain ⟨y336, hy336⟩ : ∃ y_ : List Int, y_ = (x12_1.set (x13_1 : Int).toNat (IntKind.u64.wrap (t324 - 1))) := ⟨_, rfl⟩
                           replace H : (nat_number_div.l0 k1 t292 x9_1 t335 (x9_1.length : Int) y336 (wrap64 (x13_1 - 1))) = some (r1, r2) := by first | (rw [hy336]; with_reducible exact H) | (have H2_ := (Option.bind_some _ _).symm.trans H; rw [hy336]; with_reducible exact H2_) | (have H2_ := (Option.bind_some _ _).symm.trans H; with_reducible exact H2_) | with_reducible exact H | (rw [hy336]; exact H) | exact H
                           have Ny336 := Aside0.mk hy336
                           clear hy336
                           have H' := Aside0.mk H
                           clear H
                           try go_wp2
                           have n0_ := Aside0.mk (Kd.V_drew HO_9.out)
                           have n1_ := Aside0.mk (Kd.R_drew HO_10.out)
                           have n2_ := Aside0.mk (Kd.R_drew HO_12.out)
                           have n3_ := Aside0.mk (below_drew1 HB.out)
                           clear HO_9
                           clear HO_10
                           clear HO_12
                           clear HB
                           have HO_9 := n0_
                           have HO_10 := n1_
                           have HO_12 := n2_
                           have HB := n3_
                           clear n0_ n1_ n2_ n3_
                           have p319 : 0 ≤ ((wrap64 (x13_1 + (x9_1.length : Int))) : Int) := of_decide_eq_true (by first | (with_reducible assumption) | assumption)
                           have q319 : (wrap64 (x13_1 + (x9_1.length : Int))) < (x10_1.length : Int) := of_decide_eq_true (by first | (with_reducible assumption) | assumption)
                           obtain ⟨ad319, e319, hx319_0⟩ := Kd.at_int (Kd.R_reads' HO_10.out).2.2 (wrap64 (x13_1 + (x9_1.length : Int))) p319 q319
                           cases e319
                           (try simp only [hl9_1, hl10_1] at p319)
                           (try simp only [hl9_1, hl10_1] at q319)
                           (try simp only [hl9_1, hl10_1] at hx319_0)
                           replace p319 := eq_true p319
                           replace q319 := eq_true q319
                           have p320 : 0 ≤ ((wrap64 ((wrap64 (x13_1 + (x9_1.length : Int))) - 1)) : Int) := of_decide_eq_true (by first | (with_reducible assumption) | assumption)
                           have q320 : (wrap64 ((wrap64 (x13_1 + (x9_1.length : Int))) - 1)) < (x10_1.length : Int) := of_decide_eq_true (by first | (with_reducible assumption) | assumption)
                           obtain ⟨ad320, e320, hx320_0⟩ := Kd.at_int (Kd.R_reads' HO_10.out).2.2 (wrap64 ((wrap64 (x13_1 + (x9_1.length : Int))) - 1)) p320 q320
                           obtain rfl : ad319 = ad320 := (by injection e320)
                           (try simp only [hl9_1, hl10_1] at p320)
                           (try simp only [hl9_1, hl10_1] at q320)
                           (try simp only [hl9_1, hl10_1] at hx320_0)
                           replace p320 := eq_true p320
                           replace q320 := eq_true q320
                           have p321 : 0 ≤ ((wrap64 ((wrap64 (x13_1 + (x9_1.length : Int))) - 2)) : Int) := of_decide_eq_true (by first | (with_reducible assumption) | assumption)
                           have q321 : (wrap64 ((wrap64 (x13_1 + (x9_1.length : Int))) - 2)) < (x10_1.length : Int) := of_decide_eq_true (by first | (with_reducible assumption) | assumption)
                           obtain ⟨ad321, e321, hx321_0⟩ := Kd.at_int (Kd.R_reads' HO_10.out).2.2 (wrap64 ((wrap64 (x13_1 + (x9_1.length : Int))) - 2)) p321 q321
                           obtain rfl : ad319 = ad321 := (by injection e321)
                           (try simp only [hl9_1, hl10_1] at p321)
                           (try simp only [hl9_1, hl10_1] at q321)
                           (try simp only [hl9_1, hl10_1] at hx321_0)
                           replace p321 := eq_true p321
                           replace q321 := eq_true q321
                           have p322 : 0 ≤ ((wrap64 ((x9_1.length : Int) - 1)) : Int) := of_decide_eq_true (by first | (with_reducible assumption) | assumption)
                           have q322 : (wrap64 ((x9_1.length : Int) - 1)) < (x9_1.length : Int) := of_decide_eq_true (by first | (with_reducible assumption) | assumption)
                           obtain ⟨ad322, e322, hx322_0⟩ := Kd.at_int (Kd.V_reads' HO_9.out).2.2 (wrap64 ((x9_1.length : Int) - 1)) p322 q322
                           cases e322
                           (try simp only [hl9_1, hl10_1] at p322)
                           (try simp only [hl9_1, hl10_1] at q322)
                           (try simp only [hl9_1, hl10_1] at hx322_0)
                           replace p322 := eq_true p322
                           replace q322 := eq_true q322
                           have p323 : 0 ≤ ((wrap64 ((x9_1.length : Int) - 2)) : Int) := of_decide_eq_true (by first | (with_reducible assumption) | assumption)
                           have q323 : (wrap64 ((x9_1.length : Int) - 2)) < (x9_1.length : Int) := of_decide_eq_true (by first | (with_reducible assumption) | assumption)
                           obtain ⟨ad323, e323, hx323_0⟩ := Kd.at_int (Kd.V_reads' HO_9.out).2.2 (wrap64 ((x9_1.length : Int) - 2)) p323 q323
                           obtain rfl : ad322 = ad323 := (by injection e323)
                           (try simp only [hl9_1, hl10_1] at p323)
                           (try simp only [hl9_1, hl10_1] at q323)
                           (try simp only [hl9_1, hl10_1] at hx323_0)
                           replace p323 := eq_true p323
                           replace q323 := eq_true q323
                           refine start_ (n := 32) (S := fun w' => w'.cell? (ad319.add ((wrap64 (x13_1 + (x9_1.length : Int)))).toNat) = some (.int .u64 (rd x10_1 (wrap64 (x13_1 + (x9_1.length : Int))))) ∧ w'.cell? (ad319.add ((wrap64 ((wrap64 (x13_1 + (x9_1.length : Int))) - 1))).toNat) = some (.int .u64 (rd x10_1 (wrap64 ((wrap64 (x13_1 + (x9_1.length : Int))) - 1)))) ∧ w'.cell? (ad319.add ((wrap64 ((wrap64 (x13_1 + (x9_1.length : Int))) - 2))).toNat) = some (.int .u64 (rd x10_1 (wrap64 ((wrap64 (x13_1 + (x9_1.length : Int))) - 2)))) ∧ w'.cell? (ad322.add ((wrap64 ((x9_1.length : Int) - 1))).toNat) = some (.int .u64 (rd x9_1 (wrap64 ((x9_1.length : Int) - 1)))) ∧ w'.cell? (ad322.add ((wrap64 ((x9_1.length : Int) - 2))).toNat) = some (.int .u64 (rd x9_1 (wrap64 ((x9_1.length : Int) - 2))))) (ds := []) #[false, false, false, false, false, false, false, false, false, false, false, false, false, false, false, false, false, false, false, false, false, false, false, false, false, false, false, false, false, false, false, false] (by kernel_rfl) rfl rfl ⟨hx319_0, hx320_0, hx321_0, hx322_0, hx323_0⟩ (fun hHeld => ?_); refine with_tabW nat_number_div.tab15 nat_number_div.bits15 (fun HT_ HW_ => ?_)
                           generalize wr.drew = w57 at HO_9 HO_10 HO_12 HB hx319_0 hx320_0 hx321_0 hx322_0 hx323_0 hHeld ⊢
                           refine pure_ (i := 0) (N := some 74) (v := ?_) (a' := ?_) #[true, false, false, false, false, false, false, false, false, false, false, false, false, false, false, false, false, false, false, false, false, false, false, false, false, false, false, false, false, false, false, false] rfl rfl (any_of HT_.out (by kernel_rfl)) (fun _ _ _ h => h) (Or.inl ⟨by rfl, ?_⟩) ?_ ?_
                           rotate_left
                           ·intro w'
                            go_simp
                            with_reducible rfl
                           rotate_left
                           ·simp only [Act.put, List.setIfInBounds_toArray, List.set_cons_zero, List.set_cons_succ, i64_w, i32_w]
                            rfl
                           refine pure_ (i := 1) (N := some 75) (v := ?_) (a' := ?_) #[true, true, false, false, false, false, false, false, false, false, false, false, false, false, false, false, false, false, false, false, false, false, false, false, false, false, false, false, false, false, false, false] rfl rfl (any_of HT_.out (by kernel_rfl)) (fun _ _ _ h => h) (Or.inl ⟨by rfl, ?_⟩) ?_ ?_
                           rotate_left
                           ·intro w'
                            go_simp
                            with_reducible rfl
                           rotate_left
                           ·simp only [Act.put, List.setIfInBounds_toArray, List.set_cons_zero, List.set_cons_succ, i64_w, i32_w]
                            rfl
                           refine pure_ (i := 2) (N := some 76) (v := ?_) (a' := ?_) #[true, true, true, false, false, false, false, false, false, false, false, false, false, false, false, false, false, false, false, false, false, false, false, false, false, false, false, false, false, false, false, false] rfl rfl (any_of HT_.out (by kernel_rfl)) (fun _ _ _ h => h) (Or.inl ⟨by rfl, ?_⟩) ?_ ?_
                           rotate_left
                           ·intro w'
                            go_simp
                            with_reducible rfl
                           rotate_left
                           ·simp only [Act.put, List.setIfInBounds_toArray, List.set_cons_zero, List.set_cons_succ, i64_w, i32_w]
                            rfl
                           refine pure_ (i := 3) (N := some 77) (v := ?_) (a' := ?_) #[true, true, true, true, false, false, false, false, false, false, false, false, false, false, false, false, false, false, false, false, false, false, false, false, false, false, false, false, false, false, false, false] rfl rfl (any_of HT_.out (by kernel_rfl)) (fun _ _ _ h => h) (Or.inl ⟨by rfl, ?_⟩) ?_ ?_
                           rotate_left
                           ·intro w'
                            go_simp
                            with_reducible rfl
                           rotate_left
                           ·simp only [Act.put, List.setIfInBounds_toArray, List.set_cons_zero, List.set_cons_succ, i64_w, i32_w]
                            rfl
                           refine pure_ (i := 4) (N := some 78) (v := ?_) (a' := ?_) #[true, true, true, true, true, false, false, false, false, false, false, false, false, false, false, false, false, false, false, false, false, false, false, false, false, false, false, false, false, false, false, false] rfl rfl (any_of HT_.out (by kernel_rfl)) (fun _ _ _ h => h) (Or.inl ⟨by rfl, ?_⟩) ?_ ?_
                           rotate_left
                           ·intro w'
                            go_simp
                            with_reducible rfl
                           rotate_left
                           ·simp only [Act.put, List.setIfInBounds_toArray, List.set_cons_zero, List.set_cons_succ, i64_w, i32_w]
                            rfl
                           refine pure_ (i := 6) (N := some 80) (v := ?_) (a' := ?_) #[true, true, true, true, true, false, true, false, false, false, false, false, false, false, false, false, false, false, false, false, false, false, false, false, false, false, false, false, false, false, false, false] rfl rfl (any_of HT_.out (by kernel_rfl)) (fun _ _ _ h => h) (Or.inl ⟨by rfl, ?_⟩) ?_ ?_
                           rotate_left
                           ·intro w'
                            go_simp
                            with_reducible rfl
                           rotate_left
                           ·simp only [Act.put, List.setIfInBounds_toArray, List.set_cons_zero, List.set_cons_succ, i64_w, i32_w]
                            rfl
                           refine pure_ (i := 7) (N := some 81) (v := ?_) (a' := ?_) #[true, true, true, true, true, false, true, true, false, false, false, false, false, false, false, false, false, false, false, false, false, false, false, false, false, false, false, false, false, false, false, false] rfl rfl (any_of HT_.out (by kernel_rfl)) (fun _ _ _ h => h) (Or.inl ⟨by rfl, ?_⟩) ?_ ?_
                           rotate_left
                           ·intro w'
                            go_simp
                            with_reducible rfl
                           rotate_left
                           ·simp only [Act.put, List.setIfInBounds_toArray, List.set_cons_zero, List.set_cons_succ, i64_w, i32_w]
                            rfl
                           refine pure_ (i := 8) (N := some 82) (v := ?_) (a' := ?_) #[true, true, true, true, true, false, true, true, true, false, false, false, false, false, false, false, false, false, false, false, false, false, false, false, false, false, false, false, false, false, false, false] rfl rfl (any_of HT_.out (by kernel_rfl)) (fun _ _ _ h => h) (Or.inl ⟨by rfl, ?_⟩) ?_ ?_
                           rotate_left
                           ·intro w'
                            go_simp
                            with_reducible rfl
                           rotate_left
                           ·simp only [Act.put, List.setIfInBounds_toArray, List.set_cons_zero, List.set_cons_succ, i64_w, i32_w]
                            rfl
                           refine pure_ (i := 9) (N := some 83) (v := ?_) (a' := ?_) #[true, true, true, true, true, false, true, true, true, true, false, false, false, false, false, false, false, false, false, false, false, false, false, false, false, false, false, false, false, false, false, false] rfl rfl (any_of HT_.out (by kernel_rfl)) (fun _ _ _ h => h) (Or.inl ⟨by rfl, ?_⟩) ?_ ?_
                           rotate_left
                           ·intro w'
                            go_simp
                            with_reducible rfl
                           rotate_left
                           ·simp only [Act.put, List.setIfInBounds_toArray, List.set_cons_zero, List.set_cons_succ, i64_w, i32_w]
                            rfl
                           refine pure_ (i := 10) (N := some 84) (v := ?_) (a' := ?_) #[true, true, true, true, true, false, true, true, true, true, true, false, false, false, false, false, false, false, false, false, false, false, false, false, false, false, false, false, false, false, false, false] rfl rfl (any_of HT_.out (by kernel_rfl)) (fun _ _ _ h => h) (Or.inl ⟨by rfl, ?_⟩) ?_ ?_
                           rotate_left
                           ·intro w'
                            go_simp
                            with_reducible rfl
                           rotate_left
                           ·simp only [Act.put, List.setIfInBounds_toArray, List.set_cons_zero, List.set_cons_succ, i64_w, i32_w]
                            rfl
                           refine pure_ (i := 11) (N := some 85) (v := ?_) (a' := ?_) #[true, true, true, true, true, false, true, true, true, true, true, true, false, false, false, false, false, false, false, false, false, false, false, false, false, false, false, false, false, false, false, false] rfl rfl (any_of HT_.out (by kernel_rfl)) (fun _ _ _ h => h) (Or.inl ⟨by rfl, ?_⟩) ?_ ?_
                           rotate_left
                           ·intro w'
                            go_simp
                            with_reducible rfl
                           rotate_left
                           ·simp only [Act.put, List.setIfInBounds_toArray, List.set_cons_zero, List.set_cons_succ, i64_w, i32_w]
                            rfl
                           refine pure_ (i := 13) (N := some 87) (v := ?_) (a' := ?_) #[true, true, true, true, true, false, true, true, true, true, true, true, false, true, false, false, false, false, false, false, false, false, false, false, false, false, false, false, false, false, false, false] rfl rfl (any_of HT_.out (by kernel_rfl)) (fun _ _ _ h => h) (Or.inl ⟨by rfl, ?_⟩) ?_ ?_
                           rotate_left
                           ·intro w'
                            go_simp
                            with_reducible rfl
                           rotate_left
                           ·simp only [Act.put, List.setIfInBounds_toArray, List.set_cons_zero, List.set_cons_succ, i64_w, i32_w]
                            rfl
                           refine pure_ (i := 14) (N := some 88) (v := ?_) (a' := ?_) #[true, true, true, true, true, false, true, true, true, true, true, true, false, true, true, false, false, false, false, false, false, false, false, false, false, false, false, false, false, false, false, false] rfl rfl (any_of HT_.out (by kernel_rfl)) (fun _ _ _ h => h) (Or.inl ⟨by rfl, ?_⟩) ?_ ?_
                           rotate_left
                           ·intro w'
                            go_simp
                            with_reducible rfl
                           rotate_left
                           ·simp only [Act.put, List.setIfInBounds_toArray, List.set_cons_zero, List.set_cons_succ, i64_w, i32_w]
                            rfl
                           refine pure_ (i := 15) (N := some 89) (v := ?_) (a' := ?_) #[true, true, true, true, true, false, true, true, true, true, true, true, false, true, true, true, false, false, false, false, false, false, false, false, false, false, false, false, false, false, false, false] rfl rfl (any_of HT_.out (by kernel_rfl)) (fun _ _ _ h => h) (Or.inl ⟨by rfl, ?_⟩) ?_ ?_
                           rotate_left
                           ·intro w'
                            go_simp
                            with_reducible rfl
                           rotate_left
                           ·simp only [Act.put, List.setIfInBounds_toArray, List.set_cons_zero, List.set_cons_succ, i64_w, i32_w]
                            rfl
                           refine pure_ (i := 16) (N := some 90) (v := ?_) (a' := ?_) #[true, true, true, true, true, false, true, true, true, true, true, true, false, true, true, true, true, false, false, false, false, false, false, false, false, false, false, false, false, false, false, false] rfl rfl (any_of HT_.out (by kernel_rfl)) (fun _ _ _ h => h) (Or.inl ⟨by rfl, ?_⟩) ?_ ?_
                           rotate_left
                           ·intro w'
                            go_simp
                            with_reducible rfl
                           rotate_left
                           ·simp only [Act.put, List.setIfInBounds_toArray, List.set_cons_zero, List.set_cons_succ, i64_w, i32_w]
                            rfl
                           refine pure_ (i := 17) (N := some 91) (v := ?_) (a' := ?_) #[true, true, true, true, true, false, true, true, true, true, true, true, false, true, true, true, true, true, false, false, false, false, false, false, false, false, false, false, false, false, false, false] rfl rfl (any_of HT_.out (by kernel_rfl)) (fun _ _ _ h => h) (Or.inl ⟨by rfl, ?_⟩) ?_ ?_
                           rotate_left
                           ·intro w'
                            go_simp
                            with_reducible rfl
                           rotate_left
                           ·simp only [Act.put, List.setIfInBounds_toArray, List.set_cons_zero, List.set_cons_succ, i64_w, i32_w]
                            rfl
                           refine pure_ (i := 18) (N := some 92) (v := ?_) (a' := ?_) #[true, true, true, true, true, false, true, true, true, true, true, true, false, true, true, true, true, true, true, false, false, false, false, false, false, false, false, false, false, false, false, false] rfl rfl (any_of HT_.out (by kernel_rfl)) (fun _ _ _ h => h) (Or.inl ⟨by rfl, ?_⟩) ?_ ?_
                           rotate_left
                           ·intro w'
                            go_simp
                            with_reducible rfl
                           rotate_left
                           ·simp only [Act.put, List.setIfInBounds_toArray, List.set_cons_zero, List.set_cons_succ, i64_w, i32_w]
                            rfl
                           refine pure_ (i := 20) (N := some 94) (v := ?_) (a' := ?_) #[true, true, true, true, true, false, true, true, true, true, true, true, false, true, true, true, true, true, true, false, true, false, false, false, false, false, false, false, false, false, false, false] rfl rfl (any_of HT_.out (by kernel_rfl)) (fun _ _ _ h => h) (Or.inl ⟨by rfl, ?_⟩) ?_ ?_
                           rotate_left
                           ·intro w'
                            go_simp
                            with_reducible rfl
                           rotate_left
                           ·simp only [Act.put, List.setIfInBounds_toArray, List.set_cons_zero, List.set_cons_succ, i64_w, i32_w]
                            rfl
                           refine pure_ (i := 21) (N := some 95) (v := ?_) (a' := ?_) #[true, true, true, true, true, false, true, true, true, true, true, true, false, true, true, true, true, true, true, false, true, true, false, false, false, false, false, false, false, false, false, false] rfl rfl (any_of HT_.out (by kernel_rfl)) (fun _ _ _ h => h) (Or.inl ⟨by rfl, ?_⟩) ?_ ?_
                           rotate_left
                           ·intro w'
                            go_simp
                            with_reducible rfl
                           rotate_left
                           ·simp only [Act.put, List.setIfInBounds_toArray, List.set_cons_zero, List.set_cons_succ, i64_w, i32_w]
                            rfl
                           refine pure_ (i := 22) (N := some 96) (v := ?_) (a' := ?_) #[true, true, true, true, true, false, true, true, true, true, true, true, false, true, true, true, true, true, true, false, true, true, true, false, false, false, false, false, false, false, false, false] rfl rfl (any_of HT_.out (by kernel_rfl)) (fun _ _ _ h => h) (Or.inl ⟨by rfl, ?_⟩) ?_ ?_
                           rotate_left
                           ·intro w'
                            go_simp
                            with_reducible rfl
                           rotate_left
                           ·simp only [Act.put, List.setIfInBounds_toArray, List.set_cons_zero, List.set_cons_succ, i64_w, i32_w]
                            rfl
                           refine pure_ (i := 23) (N := some 97) (v := ?_) (a' := ?_) #[true, true, true, true, true, false, true, true, true, true, true, true, false, true, true, true, true, true, true, false, true, true, true, true, false, false, false, false, false, false, false, false] rfl rfl (any_of HT_.out (by kernel_rfl)) (fun _ _ _ h => h) (Or.inl ⟨by rfl, ?_⟩) ?_ ?_
                           rotate_left
                           ·intro w'
                            go_simp
                            with_reducible rfl
                           rotate_left
                           ·simp only [Act.put, List.setIfInBounds_toArray, List.set_cons_zero, List.set_cons_succ, i64_w, i32_w]
                            rfl
                           refine pure_ (i := 25) (N := some 99) (v := ?_) (a' := ?_) #[true, true, true, true, true, false, true, true, true, true, true, true, false, true, true, true, true, true, true, false, true, true, true, true, false, true, false, false, false, false, false, false] rfl rfl (any_of HT_.out (by kernel_rfl)) (fun _ _ _ h => h) (Or.inl ⟨by rfl, ?_⟩) ?_ ?_
                           rotate_left
                           ·intro w'
                            go_simp
                            with_reducible rfl
                           rotate_left
                           ·simp only [Act.put, List.setIfInBounds_toArray, List.set_cons_zero, List.set_cons_succ, i64_w, i32_w]
                            rfl
                           refine pure_ (i := 26) (N := some 100) (v := ?_) (a' := ?_) #[true, true, true, true, true, false, true, true, true, true, true, true, false, true, true, true, true, true, true, false, true, true, true, true, false, true, true, false, false, false, false, false] rfl rfl (any_of HT_.out (by kernel_rfl)) (fun _ _ _ h => h) (Or.inl ⟨by rfl, ?_⟩) ?_ ?_
                           rotate_left
                           ·intro w'
                            go_simp
                            with_reducible rfl
                           rotate_left
                           ·simp only [Act.put, List.setIfInBounds_toArray, List.set_cons_zero, List.set_cons_succ, i64_w, i32_w]
                            rfl
                           refine pure_ (i := 27) (N := some 101) (v := ?_) (a' := ?_) #[true, true, true, true, true, false, true, true, true, true, true, true, false, true, true, true, true, true, true, false, true, true, true, true, false, true, true, true, false, false, false, false] rfl rfl (any_of HT_.out (by kernel_rfl)) (fun _ _ _ h => h) (Or.inl ⟨by rfl, ?_⟩) ?_ ?_
                           rotate_left
                           ·intro w'
                            go_simp
                            with_reducible rfl
                           rotate_left
                           ·simp only [Act.put, List.setIfInBounds_toArray, List.set_cons_zero, List.set_cons_succ, i64_w, i32_w]
                            rfl
                           refine pure_ (i := 28) (N := some 102) (v := ?_) (a' := ?_) #[true, true, true, true, true, false, true, true, true, true, true, true, false, true, true, true, true, true, true, false, true, true, true, true, false, true, true, true, true, false, false, false] rfl rfl (any_of HT_.out (by kernel_rfl)) (fun _ _ _ h => h) (Or.inl ⟨by rfl, ?_⟩) ?_ ?_
                           rotate_left
                           ·intro w'
                            go_simp
                            with_reducible rfl
                           rotate_left
                           ·simp only [Act.put, List.setIfInBounds_toArray, List.set_cons_zero, List.set_cons_succ, i64_w, i32_w]
                            rfl
                           refine take_ (i := 5) (N := some 79) (v := ?_) (a' := ?_) #[true, true, true, true, true, true, true, true, true, true, true, true, false, true, true, true, true, true, true, false, true, true, true, true, false, true, true, true, true, false, false, false] rfl rfl (take_ofW HT_.out HW_.out (by kernel_rfl)) (fun _ _ _ h => h) (Or.inl ⟨by rfl, ?_⟩) hHeld ?_ ?_
                           rotate_left
                           ·rintro w' ⟨s0, s1, s2, s3, s4⟩
                            go_simp
                            with_reducible rfl
                           rotate_left
                           ·simp only [Act.put, List.setIfInBounds_toArray, List.set_cons_zero, List.set_cons_succ, i64_w, i32_w]
                            rfl
                           refine take_ (i := 12) (N := some 86) (v := ?_) (a' := ?_) #[true, true, true, true, true, true, true, true, true, true, true, true, true, true, true, true, true, true, true, false, true, true, true, true, false, true, true, true, true, false, false, false] rfl rfl (take_ofW HT_.out HW_.out (by kernel_rfl)) (fun _ _ _ h => h) (Or.inl ⟨by rfl, ?_⟩) hHeld ?_ ?_
                           rotate_left
                           ·rintro w' ⟨s0, s1, s2, s3, s4⟩
                            go_simp
                            with_reducible rfl
                           rotate_left
                           ·simp only [Act.put, List.setIfInBounds_toArray, List.set_cons_zero, List.set_cons_succ, i64_w, i32_w]
                            rfl
                           refine take_ (i := 19) (N := some 93) (v := ?_) (a' := ?_) #[true, true, true, true, true, true, true, true, true, true, true, true, true, true, true, true, true, true, true, true, true, true, true, true, false, true, true, true, true, false, false, false] rfl rfl (take_ofW HT_.out HW_.out (by kernel_rfl)) (fun _ _ _ h => h) (Or.inl ⟨by rfl, ?_⟩) hHeld ?_ ?_
                           rotate_left
                           ·rintro w' ⟨s0, s1, s2, s3, s4⟩
                            go_simp
                            with_reducible rfl
                           rotate_left
                           ·simp only [Act.put, List.setIfInBounds_toArray, List.set_cons_zero, List.set_cons_succ, i64_w, i32_w]
                            rfl
                           refine take_ (i := 24) (N := some 98) (v := ?_) (a' := ?_) #[true, true, true, true, true, true, true, true, true, true, true, true, true, true, true, true, true, true, true, true, true, true, true, true, true, true, true, true, true, false, false, false] rfl rfl (take_ofW HT_.out HW_.out (by kernel_rfl)) (fun _ _ _ h => h) (Or.inl ⟨by rfl, ?_⟩) hHeld ?_ ?_
                           rotate_left
                           ·rintro w' ⟨s0, s1, s2, s3, s4⟩
                            go_simp
                            with_reducible rfl
                           rotate_left
                           ·simp only [Act.put, List.setIfInBounds_toArray, List.set_cons_zero, List.set_cons_succ, i64_w, i32_w]
                            rfl
                           refine take_ (i := 29) (N := some 103) (v := ?_) (a' := ?_) #[true, true, true, true, true, true, true, true, true, true, true, true, true, true, true, true, true, true, true, true, true, true, true, true, true, true, true, true, true, true, false, false] rfl rfl (take_ofW HT_.out HW_.out (by kernel_rfl)) (fun _ _ _ h => h) (Or.inl ⟨by rfl, ?_⟩) hHeld ?_ ?_
                           rotate_left
                           ·rintro w' ⟨s0, s1, s2, s3, s4⟩
                            go_simp
                            with_reducible rfl
                           rotate_left
                           ·simp only [Act.put, List.setIfInBounds_toArray, List.set_cons_zero, List.set_cons_succ, i64_w, i32_w]
                            rfl
                           refine one_ (i := 30) (N := some 104) #[true, true, true, true, true, true, true, true, true, true, true, true, true, true, true, true, true, true, true, true, true, true, true, true, true, true, true, true, true, true, true, false] rfl rfl (one_of HT_.out (by kernel_rfl)) (by decide) (fun K hK => ?_)
                           refine goes_ Tryd.func50 (by kernel_rfl) rfl #[.int .u64 (rd x10_1 (wrap64 (x13_1 + (x9_1.length : Int)))), .int .u64 (rd x10_1 (wrap64 ((wrap64 (x13_1 + (x9_1.length : Int))) - 1))), .int .u64 (rd x10_1 (wrap64 ((wrap64 (x13_1 + (x9_1.length : Int))) - 2))), .int .u64 (rd x9_1 (wrap64 ((x9_1.length : Int) - 1))), .int .u64 (rd x9_1 (wrap64 ((x9_1.length : Int) - 2)))] (by rfl) rfl rfl (by (try simp only [List.map_toArray, List.map_cons, List.map_nil]); first | done | rfl | (simp only [List.length_drop, List.length_take]; rfl)) ?_
                           with_reducible refine (nat_digit.calls k1 (rd x10_1 (wrap64 (x13_1 + (x9_1.length : Int)))) (rd x10_1 (wrap64 ((wrap64 (x13_1 + (x9_1.length : Int))) - 1))) (rd x10_1 (wrap64 ((wrap64 (x13_1 + (x9_1.length : Int))) - 2))) (rd x9_1 (wrap64 ((x9_1.length : Int) - 1))) (rd x9_1 (wrap64 ((x9_1.length : Int) - 2))) t324 _ A45.out).mono ?_
                           rintro e w' ⟨rfl, ⟨nd, rfl⟩⟩
                           refine ⟨_, rfl, ?_⟩
                           refine hK.out _ _ ⟨hHeld.1, hHeld.2.1, hHeld.2.2.1, hHeld.2.2.2.1, hHeld.2.2.2.2⟩ (fun hHeld => ?_)
                           clear hK K
                           refine norm_ (a' := ?_) ?_ ?_
                           rotate_left
                           ·show Act.put _ (some 104) _ = _
                            simp only [Act.put, List.setIfInBounds_toArray, List.set_cons_zero, List.set_cons_succ, i64_w, i32_w]
                            rfl
                           refine pure_ (i := 31) (N := some 14) (v := ?_) (a' := ?_) #[true, true, true, true, true, true, true, true, true, true, true, true, true, true, true, true, true, true, true, true, true, true, true, true, true, true, true, true, true, true, true, true] rfl rfl (any_of HT_.out (by kernel_rfl)) (fun _ _ _ h => h) (Or.inl ⟨by rfl, ?_⟩) ?_ ?_
                           rotate_left
                           ·intro w'
                            go_simp
                            with_reducible rfl
                           rotate_left
                           ·simp only [Act.put, List.setIfInBounds_toArray, List.set_cons_zero, List.set_cons_succ, i64_w, i32_w]
                            rfl
                           refine done_ (done_of HT_.out (by kernel_rfl)) ?_
                           have q58 : ((wrap64 ((wrap64 (x13_1 + (x9_1.length : Int))) + 1)) : Int) ≤ ((x10_1.length : Int) : Int) := of_decide_eq_true (by first | (with_reducible assumption) | assumption)
                           obtain ⟨i058, hi058, _, hsz58, _⟩ := info_parts info24
                           have hroom58 : x10_1.length ≤ co30 := (Kd.R_reads' HO_10.out).2.1
                           have hC58 : Kd.C (Kd.int .u64) _ (some ad319) x10_1.length x10_1 := (Kd.R_reads' HO_10.out).2.2
                           have ql58 : (x13_1 : Int) ≤ ((wrap64 ((wrap64 (x13_1 + (x9_1.length : Int))) + 1)) : Int) := of_decide_eq_true (by first | (with_reducible assumption) | assumption)
                           have q058 : (0 : Int) ≤ (x13_1 : Int) := of_decide_eq_true (by first | (with_reducible assumption) | assumption)
                           have hcut58 := cut_mid (P := Tryd.prog) 49 24 .i64 .i64 Tryd.underlying49 hi058 1 hsz58 (some ad319) x10_1.length co30 x13_1 (wrap64 ((wrap64 (x13_1 + (x9_1.length : Int))) + 1)) q058 ql58 q58 hroom58
                           have hr58 := Kd.C_mid (lo := (x13_1 : Int).toNat) (hi := ((wrap64 ((wrap64 (x13_1 + (x9_1.length : Int))) + 1)) : Int).toNat) (c := co30) hC58 (by omega) (by omega) hroom58
                           obtain ⟨A58, hA58⟩ : ∃ A1, A1 = (if co30 = (x13_1 : Int).toNat then (some ad319) else ((some ad319) : Option Addr).map (·.add ((x13_1 : Int).toNat * 1))) := ⟨_, rfl⟩
                           obtain ⟨c58, hc58⟩ : ∃ c1, c1 = co30 - (x13_1 : Int).toNat := ⟨_, rfl⟩
                           have hy58 : y325.length = ((wrap64 ((wrap64 (x13_1 + (x9_1.length : Int))) + 1)) : Int).toNat - (x13_1 : Int).toNat := (by rw [Ny325.out, List.length_drop, List.length_take] <;> omega)
                           rw [show ((x10_1).take ((wrap64 ((wrap64 (x13_1 + (x9_1.length : Int))) + 1)) : Int).toNat).drop (x13_1 : Int).toNat = y325 from Ny325.out.symm] at hr58
                           replace hr58 : Kd.C (Kd.int .u64) _ A58 y325.length y325 := (by rw [hA58]; exact hr58)
                           rw [← hy58, ← hA58, ← hc58] at hcut58
                           have HR328 := Aside0.mk hr58
                           have HC328 := Aside0.mk (show y325.length ≤ c58 from by rw [hy58, hc58]; exact Nat.sub_le_sub_right (Nat.le_trans (by omega) hroom58) _)
                           have KC58 := Aside0.mk hc58
                           clear hr58 hC58 hroom58 hi058 hsz58 hc58
                           have KY58 := Aside0.mk hy58
                           have KA58 := Aside0.mk hA58
                           clear hy58 hA58
                           have KL58 := Aside0.mk (show ((wrap64 ((wrap64 (x13_1 + (x9_1.length : Int))) + 1)) : Int).toNat ≤ x10_1.length from by omega)
                           have KM58 := Aside0.mk (show (x13_1 : Int).toNat ≤ ((wrap64 ((wrap64 (x13_1 + (x9_1.length : Int))) + 1)) : Int).toNat from by omega)
                           replace q58 := eq_true q58
                           try go_wp2_with (first | ((with_reducible refine gate_callee (f := 51) rfl ?_); refine goesL_ (some 114) rfl rfl Tryd.func51 (by kernel_rfl) rfl #[.slice A58 y325.length c58, .slice (some ad322) x9_1.length co31, .int .u64 t324] rfl (by (try simp only [List.map_toArray, List.map_cons, List.map_nil]); first | done | rfl | (simp only [List.length_drop, List.length_take]; rfl)) ?_; (with_reducible refine (nat_number_lessAt.calls (hq := (by rw [KA58.out, KC58.out, KY58.out]; simp only [viewOf])) k1 (fun k_ => some k_ = (.slice (some ad319) x10_1.length co30 : Value).ownBlock) (.slice (some ad319) x10_1.length co30) x10_1 x13_1 (wrap64 ((wrap64 (x13_1 + (x9_1.length : Int))) + 1)) _ _ x9_1 t324 true t330 w _ ?side1 ?side2 ?side3 ?side4 A49.out).mono ?_); (case side1 => repeat (first | (with_reducible first | exact HB.out | apply below_alloc | apply pw_below_drewN | apply below_drew1) | exact HB.out)); (case side2 => exact Kd.R_tight rfl HO_10.out); (case side3 => first | exact Kd.C_kept_ownV (HO_9.out) (fun k_ hk_ hs_ => (hk_.2.1) hs_) | exact Kd.C_kept_ownV (Kd.V_drewN (HO_9.out) _) (fun k_ hk_ hs_ => (hk_.2.1) hs_)); (case side4 => exact (Kd.V_reads' HO_9.out).2.1); rintro e w59 ⟨rfl, hy0, hb, hkp⟩; refine ⟨_, rfl, ?_⟩; have n0_ := Aside0.mk (Kd.V_mono (ok' := fun k_ => (P0_ k_ ∨ w.heap.size ≤ k_) ∧ some k_ ≠ (.slice (some ad319) x10_1.length co30 : Value).ownBlock ∧ some k_ ≠ (v304 : Value).ownBlock) (Kd.V_keptB (HO_9.out) hkp (fun k_ hk_ hs_ => (hk_.2.1) hs_)) (fun k_ hk_ => ⟨hk_.1.1, hk_.1.2.1, hk_.1.2.2⟩)); have n1_ := Aside0.mk (Kd.R_reok rfl hy0 (fun k_ e_ => HO_10.out.1 k_ e_)); have n2_ := Aside0.mk (Kd.R_mono (ok' := fun k_ => (w.heap.size ≤ k_) ∧ some k_ ≠ (.slice (some ad319) x10_1.length co30 : Value).ownBlock) (Kd.R_keptB (HO_12.out) hkp (fun k_ hk_ hs_ => (hk_.2) hs_)) (fun k_ hk_ => ⟨hk_.1.1, hk_.1.2⟩)); have n3_ := Aside0.mk (hb); clear HO_9; clear HO_10; clear HO_12; clear HB; have HO_9 := n0_; have HO_10 := n1_; have HO_12 := n2_; have HB := n3_; clear n0_ n1_ n2_ n3_; (try clear hb); (try clear hkp); (try clear hy0); have hlx60 := (Kd.R_reads' HO_10.out).1; have q60 : ((wrap64 ((wrap64 (x13_1 + (x9_1.length : Int))) + 1)) : Int) ≤ ((x10_1.length : Int) : Int) := of_decide_eq_true (by first | (with_reducible assumption) | assumption); obtain ⟨i060, hi060, _, hsz60, _⟩ := info_parts info24; have hroom60 : x10_1.length ≤ co30 := (Kd.R_reads' HO_10.out).2.1; have hroomc60 : t330.length ≤ co30 := (by rw [← hlx60]; exact hroom60); have hC60 : Kd.C (Kd.int .u64) _ (some ad319) t330.length t330 := (Kd.R_reads' HO_10.out).2.2; have ql60 : (x13_1 : Int) ≤ ((wrap64 ((wrap64 (x13_1 + (x9_1.length : Int))) + 1)) : Int) := of_decide_eq_true (by first | (with_reducible assumption) | assumption); have q060 : (0 : Int) ≤ (x13_1 : Int) := of_decide_eq_true (by first | (with_reducible assumption) | assumption); have hcut60 := cut_mid (P := Tryd.prog) 49 24 .i64 .i64 Tryd.underlying49 hi060 1 hsz60 (some ad319) x10_1.length co30 x13_1 (wrap64 ((wrap64 (x13_1 + (x9_1.length : Int))) + 1)) q060 ql60 q60 hroom60; have hr60 := Kd.C_mid (lo := (x13_1 : Int).toNat) (hi := ((wrap64 ((wrap64 (x13_1 + (x9_1.length : Int))) + 1)) : Int).toNat) (c := co30) hC60 (by omega) (by omega) hroomc60; obtain ⟨A60, hA60⟩ : ∃ A1, A1 = (if co30 = (x13_1 : Int).toNat then (some ad319) else ((some ad319) : Option Addr).map (·.add ((x13_1 : Int).toNat * 1))) := ⟨_, rfl⟩; obtain ⟨c60, hc60⟩ : ∃ c1, c1 = co30 - (x13_1 : Int).toNat := ⟨_, rfl⟩; have hy60 : y331.length = ((wrap64 ((wrap64 (x13_1 + (x9_1.length : Int))) + 1)) : Int).toNat - (x13_1 : Int).toNat := (by rw [Ny331.out, List.length_drop, List.length_take] <;> omega); rw [show ((t330).take ((wrap64 ((wrap64 (x13_1 + (x9_1.length : Int))) + 1)) : Int).toNat).drop (x13_1 : Int).toNat = y331 from Ny331.out.symm] at hr60; replace hr60 : Kd.C (Kd.int .u64) _ A60 y331.length y331 := (by rw [hA60]; exact hr60); rw [← hy60, ← hA60, ← hc60] at hcut60; have HR334 := Aside0.mk hr60; have HC334 := Aside0.mk (show y331.length ≤ c60 from by rw [hy60, hc60]; exact Nat.sub_le_sub_right (Nat.le_trans (by omega) hroom60) _); have KC60 := Aside0.mk hc60; clear hr60 hC60 hroom60 hi060 hsz60 hc60 hroomc60; have KY60 := Aside0.mk hy60; have KA60 := Aside0.mk hA60; clear hy60 hA60; have KE60 := Aside0.mk hlx60; have KL60 := Aside0.mk (show ((wrap64 ((wrap64 (x13_1 + (x9_1.length : Int))) + 1)) : Int).toNat ≤ t330.length from by omega); have KM60 := Aside0.mk (show (x13_1 : Int).toNat ≤ ((wrap64 ((wrap64 (x13_1 + (x9_1.length : Int))) + 1)) : Int).toNat from by omega); clear hlx60; replace q60 := eq_true q60) | ((with_reducible refine gate_callee (f := 52) rfl ?_); refine goesL_ (some 125) rfl rfl Tryd.func52 (by kernel_rfl) rfl #[.slice A58 y325.length c58, .slice (some ad322) x9_1.length co31] rfl (by (try simp only [List.map_toArray, List.map_cons, List.map_nil]); first | done | rfl | (simp only [List.length_drop, List.length_take]; rfl)) ?_; (with_reducible refine (nat_number_backAt.calls (hq := (by rw [KA58.out, KC58.out, KY58.out]; simp only [viewOf])) k1 (fun k_ => some k_ = (.slice (some ad319) x10_1.length co30 : Value).ownBlock) (.slice (some ad319) x10_1.length co30) t330 x13_1 (wrap64 ((wrap64 (x13_1 + (x9_1.length : Int))) + 1)) _ _ x9_1 t335 w _ ?side1 ?side2 ?side3 ?side4 A54.out).mono ?_); (case side1 => repeat (first | (with_reducible first | exact HB.out | apply below_alloc | apply pw_below_drewN | apply below_drew1) | exact HB.out)); (case side2 => exact Kd.R_tight rfl HO_10.out); (case side3 => first | exact Kd.C_kept_ownV (HO_9.out) (fun k_ hk_ hs_ => (hk_.2.1) hs_) | exact Kd.C_kept_ownV (Kd.V_drewN (HO_9.out) _) (fun k_ hk_ hs_ => (hk_.2.1) hs_)); (case side4 => exact (Kd.V_reads' HO_9.out).2.1); rintro e w61 ⟨rfl, hy0, hb, hkp⟩; refine ⟨_, rfl, ?_⟩; have n0_ := Aside0.mk (Kd.V_mono (ok' := fun k_ => (P0_ k_ ∨ w.heap.size ≤ k_) ∧ some k_ ≠ (.slice (some ad319) x10_1.length co30 : Value).ownBlock ∧ some k_ ≠ (v304 : Value).ownBlock) (Kd.V_keptB (HO_9.out) hkp (fun k_ hk_ hs_ => (hk_.2.1) hs_)) (fun k_ hk_ => ⟨hk_.1.1, hk_.1.2.1, hk_.1.2.2⟩)); have n1_ := Aside0.mk (Kd.R_reok rfl hy0 (fun k_ e_ => HO_10.out.1 k_ e_)); have n2_ := Aside0.mk (Kd.R_mono (ok' := fun k_ => (w.heap.size ≤ k_) ∧ some k_ ≠ (.slice (some ad319) x10_1.length co30 : Value).ownBlock) (Kd.R_keptB (HO_12.out) hkp (fun k_ hk_ hs_ => (hk_.2) hs_)) (fun k_ hk_ => ⟨hk_.1.1, hk_.1.2⟩)); have n3_ := Aside0.mk (hb); clear HO_9; clear HO_10; clear HO_12; clear HB; have HO_9 := n0_; have HO_10 := n1_; have HO_12 := n2_; have HB := n3_; clear n0_ n1_ n2_ n3_; (try clear hb); (try clear hkp); (try clear hy0); have p56 : 0 ≤ (x13_1 : Int) := of_decide_eq_true (by first | (with_reducible assumption) | assumption); have q56 : (x13_1 : Int) < ((x12_1.length : Int) : Int) := of_decide_eq_true (by first | (with_reducible assumption) | assumption); obtain ⟨go56, co56, eo56, gb56, gl56, cl56, HG56⟩ := Kd.R_form HO_12.out (by omega); (first | cases eo56 | (injection eo56 with ea_ en_ ec_; (first | subst ea_ | (injection ea_ with ea_; subst ea_)); subst ec_; clear en_)); have GB56 := Aside0.mk gb56; have GG56 := Aside0.mk HG56; clear gb56 gl56 HG56; obtain ⟨hx56_0, hf56_0⟩ := Kd.R_celln 0 HO_12.out (x13_1 : Int) p56 q56; replace p56 := eq_true p56; replace q56 := eq_true q56; obtain ⟨hy62_, hz62_⟩ := Kd.R_celln 0 HO_12.out (x13_1 : Int) (of_decide_eq_true (by first | (with_reducible assumption) | assumption)) (of_decide_eq_true (by first | (with_reducible assumption) | assumption)); have HP62 := Kd.R_putg HO_12.out (x13_1 : Int) (IntKind.u64.wrap (t324 - 1))) | ((with_reducible refine gate_store (t := 24) (p := 129) rfl ?_); refine store_event (t := 24) (p := 129) (v := ?vo_w63) (w1 := (w61.setCell ⟨go56, (x13_1 : Int).toNat, none⟩ (.int .u64 (IntKind.u64.wrap (t324 - 1))))) ?hg ?ho ?hn ?hr ?_; (case ho => rfl); (case hg => rfl); (case hn => rfl); (case hr => first | (go_simp; done) | (go_simp; rfl)); intro w63 hw; have hg : w61.grownBy w63 (some go56) := (by rw [hw]; exact HP62.2); have hp_ : Kd.R (Kd.int .u64) 24 w63 w.heap.size (fun k_ => (w.heap.size ≤ k_) ∧ some k_ ≠ (.slice (some ad319) x10_1.length co30 : Value).ownBlock) (.slice (some ⟨go56, 0, none⟩) x12_1.length co56) y336 := (by rw [hw, Ny336.out]; exact HP62.1); clear HP62; have n0_ := Aside0.mk (Kd.V_afterv (v := (.slice (some ⟨go56, 0, none⟩) x12_1.length co56)) (v1 := (.slice (some ⟨go56, 0, none⟩) x12_1.length co56)) (ok := (fun k_ => (P0_ k_ ∨ w.heap.size ≤ k_) ∧ some k_ ≠ (.slice (some ad319) x10_1.length co30 : Value).ownBlock)) (by (with_reducible repeat (first | apply Kd.V_alloc | apply Kd.V_drewN | apply Kd.V_drew)); exact Kd.V_mono HO_9.out (fun _ hk => ⟨⟨hk.1, hk.2.1⟩, hk.2.2⟩)) hg (.inl rfl)); have n1_ := Aside0.mk (Kd.R_after (v := (.slice (some ⟨go56, 0, none⟩) x12_1.length co56)) (v1 := (.slice (some ⟨go56, 0, none⟩) x12_1.length co56)) (ok := (fun k_ => (w.heap.size ≤ k_))) (by (with_reducible repeat (first | apply Kd.R_alloc | apply Kd.R_drewN | apply Kd.R_drew)); exact HO_10.out) hg (.inl rfl)); have n2_ := Aside0.mk (hp_); have n3_ := Aside0.mk ((by rw [hw]; exact below_set (HB.out) GB56.out : Below w.heap.size w w63)); clear HO_9; clear HO_10; clear HO_12; clear HB; have HO_9 := n0_; have HO_10 := n1_; have HO_12 := n2_; have HB := n3_; clear n0_ n1_ n2_ n3_; clear hg hw hp_))
                           (try simp only [← hl9_1, ← hl10_1])
                           go_roundg k1
                           case measure => have := HK1.out; omega
                           case rel => exact ⟨(x9_1), (t335), (y336), (wrap64 (x13_1 - 1)), (by first | rfl | (simp; done) | (simp [*]; done)), (by first | exact H' | (rw [hl9_1]; exact H')), ⟨by have := HK1.out; omega⟩, ⟨by (try simp only [hl9_1]); (try simp only [hl10_1]); (with_reducible repeat (first | apply Kd.V_alloc | apply Kd.V_drewN | apply Kd.V_drew)); exact Kd.V_mono HO_9.out (fun _ hk => ⟨hk.1.1, ⟨hk.1.2, hk.2⟩⟩)⟩, ⟨by (try simp only [hl9_1]); (try simp only [hl10_1]); (with_reducible repeat (first | apply Kd.R_alloc | apply Kd.R_drewN | apply Kd.R_drew)); exact HO_10.out⟩, ⟨by (try simp only [hl9_1]); (try simp only [hl10_1]); (with_reducible repeat (first | apply Kd.R_alloc | apply Kd.R_drewN | apply Kd.R_drew)); exact HO_12.out⟩, ⟨by repeat (first | (with_reducible first | exact HB.out | apply below_alloc | apply pw_below_drewN | apply below_drew1) | exact HB.out)⟩⟩
                          ·rw [if_neg c55] at H
                           exact absurd H (by simp)
                         ·replace c50 := Bool.eq_false_iff.mpr c50
                          subst c50
                          rw [if_neg (show ¬ (false = true) by decide)] at H
                          by_cases c64 : x13_1 < (x12_1.length : Int)
                          ·rw [if_pos c64] at H
                           have c64b0 : decide (x13_1 < (x12_1.length : Int)) = true := decide_eq_true c64
                           have keepo_c64b0 := c64b0
                           (try rw [hl9_1] at c64b0)
                           (try rw [hl10_1] at c64b0)
                           clear c64
                           obtain ⟨y337, hy337⟩ : ∃ y_ : List Int, y_ = (x12_1.set (x13_1 : Int).toNat t324) := ⟨_, rfl⟩
                           replace H : (nat_number_div.l0 k1 t292 x9_1 t330 (x9_1.length : Int) y337 (wrap64 (x13_1 - 1))) = some (r1, r2) := by first | (rw [hy337]; with_reducible exact H) | (have H2_ := (Option.bind_some _ _).symm.trans H; rw [hy337]; with_reducible exact H2_) | (have H2_ := (Option.bind_some _ _).symm.trans H; with_reducible exact H2_) | with_reducible exact H | (rw [hy337]; exact H) | exact H
                           have Ny337 := Aside0.mk hy337
                           clear hy337
                           have H' := Aside0.mk H
                           clear H
                           try go_wp2
                           have n0_ := Aside0.mk (Kd.V_drew HO_9.out)
                           have n1_ := Aside0.mk (Kd.R_drew HO_10.out)
                           have n2_ := Aside0.mk (Kd.R_drew HO_12.out)
                           have n3_ := Aside0.mk (below_drew1 HB.out)
                           clear HO_9
                           clear HO_10
                           clear HO_12
                           clear HB
                           have HO_9 := n0_
                           have HO_10 := n1_
                           have HO_12 := n2_
                           have HB := n3_
                           clear n0_ n1_ n2_ n3_
                           have p319 : 0 ≤ ((wrap64 (x13_1 + (x9_1.length : Int))) : Int) := of_decide_eq_true (by first | (with_reducible assumption) | assumption)
                           have q319 : (wrap64 (x13_1 + (x9_1.length : Int))) < (x10_1.length : Int) := of_decide_eq_true (by first | (with_reducible assumption) | assumption)
                           obtain ⟨ad319, e319, hx319_0⟩ := Kd.at_int (Kd.R_reads' HO_10.out).2.2 (wrap64 (x13_1 + (x9_1.length : Int))) p319 q319
                           cases e319
                           (try simp only [hl9_1, hl10_1] at p319)
                           (try simp only [hl9_1, hl10_1] at q319)
                           (try simp only [hl9_1, hl10_1] at hx319_0)
                           replace p319 := eq_true p319
                           replace q319 := eq_true q319
                           have p320 : 0 ≤ ((wrap64 ((wrap64 (x13_1 + (x9_1.length : Int))) - 1)) : Int) := of_decide_eq_true (by first | (with_reducible assumption) | assumption)
                           have q320 : (wrap64 ((wrap64 (x13_1 + (x9_1.length : Int))) - 1)) < (x10_1.length : Int) := of_decide_eq_true (by first | (with_reducible assumption) | assumption)
                           obtain ⟨ad320, e320, hx320_0⟩ := Kd.at_int (Kd.R_reads' HO_10.out).2.2 (wrap64 ((wrap64 (x13_1 + (x9_1.length : Int))) - 1)) p320 q320
                           obtain rfl : ad319 = ad320 := (by injection e320)
                           (try simp only [hl9_1, hl10_1] at p320)
                           (try simp only [hl9_1, hl10_1] at q320)
                           (try simp only [hl9_1, hl10_1] at hx320_0)
                           replace p320 := eq_true p320
                           replace q320 := eq_true q320
                           have p321 : 0 ≤ ((wrap64 ((wrap64 (x13_1 + (x9_1.length : Int))) - 2)) : Int) := of_decide_eq_true (by first | (with_reducible assumption) | assumption)
                           have q321 : (wrap64 ((wrap64 (x13_1 + (x9_1.length : Int))) - 2)) < (x10_1.length : Int) := of_decide_eq_true (by first | (with_reducible assumption) | assumption)
                           obtain ⟨ad321, e321, hx321_0⟩ := Kd.at_int (Kd.R_reads' HO_10.out).2.2 (wrap64 ((wrap64 (x13_1 + (x9_1.length : Int))) - 2)) p321 q321
                           obtain rfl : ad319 = ad321 := (by injection e321)
                           (try simp only [hl9_1, hl10_1] at p321)
                           (try simp only [hl9_1, hl10_1] at q321)
                           (try simp only [hl9_1, hl10_1] at hx321_0)
                           replace p321 := eq_true p321
                           replace q321 := eq_true q321
                           have p322 : 0 ≤ ((wrap64 ((x9_1.length : Int) - 1)) : Int) := of_decide_eq_true (by first | (with_reducible assumption) | assumption)
                           have q322 : (wrap64 ((x9_1.length : Int) - 1)) < (x9_1.length : Int) := of_decide_eq_true (by first | (with_reducible assumption) | assumption)
                           obtain ⟨ad322, e322, hx322_0⟩ := Kd.at_int (Kd.V_reads' HO_9.out).2.2 (wrap64 ((x9_1.length : Int) - 1)) p322 q322
                           cases e322
                           (try simp only [hl9_1, hl10_1] at p322)
                           (try simp only [hl9_1, hl10_1] at q322)
                           (try simp only [hl9_1, hl10_1] at hx322_0)
                           replace p322 := eq_true p322
                           replace q322 := eq_true q322
                           have p323 : 0 ≤ ((wrap64 ((x9_1.length : Int) - 2)) : Int) := of_decide_eq_true (by first | (with_reducible assumption) | assumption)
                           have q323 : (wrap64 ((x9_1.length : Int) - 2)) < (x9_1.length : Int) := of_decide_eq_true (by first | (with_reducible assumption) | assumption)
                           obtain ⟨ad323, e323, hx323_0⟩ := Kd.at_int (Kd.V_reads' HO_9.out).2.2 (wrap64 ((x9_1.length : Int) - 2)) p323 q323
                           obtain rfl : ad322 = ad323 := (by injection e323)
                           (try simp only [hl9_1, hl10_1] at p323)
                           (try simp only [hl9_1, hl10_1] at q323)
                           (try simp only [hl9_1, hl10_1] at hx323_0)
                           replace p323 := eq_true p323
                           replace q323 := eq_true q323
                           refine start_ (n := 32) (S := fun w' => w'.cell? (ad319.add ((wrap64 (x13_1 + (x9_1.length : Int)))).toNat) = some (.int .u64 (rd x10_1 (wrap64 (x13_1 + (x9_1.length : Int))))) ∧ w'.cell? (ad319.add ((wrap64 ((wrap64 (x13_1 + (x9_1.length : Int))) - 1))).toNat) = some (.int .u64 (rd x10_1 (wrap64 ((wrap64 (x13_1 + (x9_1.length : Int))) - 1)))) ∧ w'.cell? (ad319.add ((wrap64 ((wrap64 (x13_1 + (x9_1.length : Int))) - 2))).toNat) = some (.int .u64 (rd x10_1 (wrap64 ((wrap64 (x13_1 + (x9_1.length : Int))) - 2)))) ∧ w'.cell? (ad322.add ((wrap64 ((x9_1.length : Int) - 1))).toNat) = some (.int .u64 (rd x9_1 (wrap64 ((x9_1.length : Int) - 1)))) ∧ w'.cell? (ad322.add ((wrap64 ((x9_1.length : Int) - 2))).toNat) = some (.int .u64 (rd x9_1 (wrap64 ((x9_1.length : Int) - 2))))) (ds := []) #[false, false, false, false, false, false, false, false, false, false, false, false, false, false, false, false, false, false, false, false, false, false, false, false, false, false, false, false, false, false, false, false] (by kernel_rfl) rfl rfl ⟨hx319_0, hx320_0, hx321_0, hx322_0, hx323_0⟩ (fun hHeld => ?_); refine with_tabW nat_number_div.tab15 nat_number_div.bits15 (fun HT_ HW_ => ?_)
                           generalize wr.drew = w66 at HO_9 HO_10 HO_12 HB hx319_0 hx320_0 hx321_0 hx322_0 hx323_0 hHeld ⊢
                           refine pure_ (i := 0) (N := some 74) (v := ?_) (a' := ?_) #[true, false, false, false, false, false, false, false, false, false, false, false, false, false, false, false, false, false, false, false, false, false, false, false, false, false, false, false, false, false, false, false] rfl rfl (any_of HT_.out (by kernel_rfl)) (fun _ _ _ h => h) (Or.inl ⟨by rfl, ?_⟩) ?_ ?_
                           rotate_left
                           ·intro w'
                            go_simp
                            with_reducible rfl
                           rotate_left
                           ·simp only [Act.put, List.setIfInBounds_toArray, List.set_cons_zero, List.set_cons_succ, i64_w, i32_w]
                            rfl
                           refine pure_ (i := 1) (N := some 75) (v := ?_) (a' := ?_) #[true, true, false, false, false, false, false, false, false, false, false, false, false, false, false, false, false, false, false, false, false, false, false, false, false, false, false, false, false, false, false, false] rfl rfl (any_of HT_.out (by kernel_rfl)) (fun _ _ _ h => h) (Or.inl ⟨by rfl, ?_⟩) ?_ ?_
                           rotate_left
                           ·intro w'
                            go_simp
                            with_reducible rfl
                           rotate_left
                           ·simp only [Act.put, List.setIfInBounds_toArray, List.set_cons_zero, List.set_cons_succ, i64_w, i32_w]
                            rfl
                           refine pure_ (i := 2) (N := some 76) (v := ?_) (a' := ?_) #[true, true, true, false, false, false, false, false, false, false, false, false, false, false, false, false, false, false, false, false, false, false, false, false, false, false, false, false, false, false, false, false] rfl rfl (any_of HT_.out (by kernel_rfl)) (fun _ _ _ h => h) (Or.inl ⟨by rfl, ?_⟩) ?_ ?_
                           rotate_left
                           ·intro w'
                            go_simp
                            with_reducible rfl
                           rotate_left
                           ·simp only [Act.put, List.setIfInBounds_toArray, List.set_cons_zero, List.set_cons_succ, i64_w, i32_w]
                            rfl
                           refine pure_ (i := 3) (N := some 77) (v := ?_) (a' := ?_) #[true, true, true, true, false, false, false, false, false, false, false, false, false, false, false, false, false, false, false, false, false, false, false, false, false, false, false, false, false, false, false, false] rfl rfl (any_of HT_.out (by kernel_rfl)) (fun _ _ _ h => h) (Or.inl ⟨by rfl, ?_⟩) ?_ ?_
                           rotate_left
                           ·intro w'
                            go_simp
                            with_reducible rfl
                           rotate_left
                           ·simp only [Act.put, List.setIfInBounds_toArray, List.set_cons_zero, List.set_cons_succ, i64_w, i32_w]
                            rfl
                           refine pure_ (i := 4) (N := some 78) (v := ?_) (a' := ?_) #[true, true, true, true, true, false, false, false, false, false, false, false, false, false, false, false, false, false, false, false, false, false, false, false, false, false, false, false, false, false, false, false] rfl rfl (any_of HT_.out (by kernel_rfl)) (fun _ _ _ h => h) (Or.inl ⟨by rfl, ?_⟩) ?_ ?_
                           rotate_left
                           ·intro w'
                            go_simp
                            with_reducible rfl
                           rotate_left
                           ·simp only [Act.put, List.setIfInBounds_toArray, List.set_cons_zero, List.set_cons_succ, i64_w, i32_w]
                            rfl
                           refine pure_ (i := 6) (N := some 80) (v := ?_) (a' := ?_) #[true, true, true, true, true, false, true, false, false, false, false, false, false, false, false, false, false, false, false, false, false, false, false, false, false, false, false, false, false, false, false, false] rfl rfl (any_of HT_.out (by kernel_rfl)) (fun _ _ _ h => h) (Or.inl ⟨by rfl, ?_⟩) ?_ ?_
                           rotate_left
                           ·intro w'
                            go_simp
                            with_reducible rfl
                           rotate_left
                           ·simp only [Act.put, List.setIfInBounds_toArray, List.set_cons_zero, List.set_cons_succ, i64_w, i32_w]
                            rfl
                           refine pure_ (i := 7) (N := some 81) (v := ?_) (a' := ?_) #[true, true, true, true, true, false, true, true, false, false, false, false, false, false, false, false, false, false, false, false, false, false, false, false, false, false, false, false, false, false, false, false] rfl rfl (any_of HT_.out (by kernel_rfl)) (fun _ _ _ h => h) (Or.inl ⟨by rfl, ?_⟩) ?_ ?_
                           rotate_left
                           ·intro w'
                            go_simp
                            with_reducible rfl
                           rotate_left
                           ·simp only [Act.put, List.setIfInBounds_toArray, List.set_cons_zero, List.set_cons_succ, i64_w, i32_w]
                            rfl
                           refine pure_ (i := 8) (N := some 82) (v := ?_) (a' := ?_) #[true, true, true, true, true, false, true, true, true, false, false, false, false, false, false, false, false, false, false, false, false, false, false, false, false, false, false, false, false, false, false, false] rfl rfl (any_of HT_.out (by kernel_rfl)) (fun _ _ _ h => h) (Or.inl ⟨by rfl, ?_⟩) ?_ ?_
                           rotate_left
                           ·intro w'
                            go_simp
                            with_reducible rfl
                           rotate_left
                           ·simp only [Act.put, List.setIfInBounds_toArray, List.set_cons_zero, List.set_cons_succ, i64_w, i32_w]
                            rfl
                           refine pure_ (i := 9) (N := some 83) (v := ?_) (a' := ?_) #[true, true, true, true, true, false, true, true, true, true, false, false, false, false, false, false, false, false, false, false, false, false, false, false, false, false, false, false, false, false, false, false] rfl rfl (any_of HT_.out (by kernel_rfl)) (fun _ _ _ h => h) (Or.inl ⟨by rfl, ?_⟩) ?_ ?_
                           rotate_left
                           ·intro w'
                            go_simp
                            with_reducible rfl
                           rotate_left
                           ·simp only [Act.put, List.setIfInBounds_toArray, List.set_cons_zero, List.set_cons_succ, i64_w, i32_w]
                            rfl
                           refine pure_ (i := 10) (N := some 84) (v := ?_) (a' := ?_) #[true, true, true, true, true, false, true, true, true, true, true, false, false, false, false, false, false, false, false, false, false, false, false, false, false, false, false, false, false, false, false, false] rfl rfl (any_of HT_.out (by kernel_rfl)) (fun _ _ _ h => h) (Or.inl ⟨by rfl, ?_⟩) ?_ ?_
                           rotate_left
                           ·intro w'
                            go_simp
                            with_reducible rfl
                           rotate_left
                           ·simp only [Act.put, List.setIfInBounds_toArray, List.set_cons_zero, List.set_cons_succ, i64_w, i32_w]
                            rfl
                           refine pure_ (i := 11) (N := some 85) (v := ?_) (a' := ?_) #[true, true, true, true, true, false, true, true, true, true, true, true, false, false, false, false, false, false, false, false, false, false, false, false, false, false, false, false, false, false, false, false] rfl rfl (any_of HT_.out (by kernel_rfl)) (fun _ _ _ h => h) (Or.inl ⟨by rfl, ?_⟩) ?_ ?_
                           rotate_left
                           ·intro w'
                            go_simp
                            with_reducible rfl
                           rotate_left
                           ·simp only [Act.put, List.setIfInBounds_toArray, List.set_cons_zero, List.set_cons_succ, i64_w, i32_w]
                            rfl
                           refine pure_ (i := 13) (N := some 87) (v := ?_) (a' := ?_) #[true, true, true, true, true, false, true, true, true, true, true, true, false, true, false, false, false, false, false, false, false, false, false, false, false, false, false, false, false, false, false, false] rfl rfl (any_of HT_.out (by kernel_rfl)) (fun _ _ _ h => h) (Or.inl ⟨by rfl, ?_⟩) ?_ ?_
                           rotate_left
                           ·intro w'
                            go_simp
                            with_reducible rfl
                           rotate_left
                           ·simp only [Act.put, List.setIfInBounds_toArray, List.set_cons_zero, List.set_cons_succ, i64_w, i32_w]
                            rfl
                           refine pure_ (i := 14) (N := some 88) (v := ?_) (a' := ?_) #[true, true, true, true, true, false, true, true, true, true, true, true, false, true, true, false, false, false, false, false, false, false, false, false, false, false, false, false, false, false, false, false] rfl rfl (any_of HT_.out (by kernel_rfl)) (fun _ _ _ h => h) (Or.inl ⟨by rfl, ?_⟩) ?_ ?_
                           rotate_left
                           ·intro w'
                            go_simp
                            with_reducible rfl
                           rotate_left
                           ·simp only [Act.put, List.setIfInBounds_toArray, List.set_cons_zero, List.set_cons_succ, i64_w, i32_w]
                            rfl
                           refine pure_ (i := 15) (N := some 89) (v := ?_) (a' := ?_) #[true, true, true, true, true, false, true, true, true, true, true, true, false, true, true, true, false, false, false, false, false, false, false, false, false, false, false, false, false, false, false, false] rfl rfl (any_of HT_.out (by kernel_rfl)) (fun _ _ _ h => h) (Or.inl ⟨by rfl, ?_⟩) ?_ ?_
                           rotate_left
                           ·intro w'
                            go_simp
                            with_reducible rfl
                           rotate_left
                           ·simp only [Act.put, List.setIfInBounds_toArray, List.set_cons_zero, List.set_cons_succ, i64_w, i32_w]
                            rfl
                           refine pure_ (i := 16) (N := some 90) (v := ?_) (a' := ?_) #[true, true, true, true, true, false, true, true, true, true, true, true, false, true, true, true, true, false, false, false, false, false, false, false, false, false, false, false, false, false, false, false] rfl rfl (any_of HT_.out (by kernel_rfl)) (fun _ _ _ h => h) (Or.inl ⟨by rfl, ?_⟩) ?_ ?_
                           rotate_left
                           ·intro w'
                            go_simp
                            with_reducible rfl
                           rotate_left
                           ·simp only [Act.put, List.setIfInBounds_toArray, List.set_cons_zero, List.set_cons_succ, i64_w, i32_w]
                            rfl
                           refine pure_ (i := 17) (N := some 91) (v := ?_) (a' := ?_) #[true, true, true, true, true, false, true, true, true, true, true, true, false, true, true, true, true, true, false, false, false, false, false, false, false, false, false, false, false, false, false, false] rfl rfl (any_of HT_.out (by kernel_rfl)) (fun _ _ _ h => h) (Or.inl ⟨by rfl, ?_⟩) ?_ ?_
                           rotate_left
                           ·intro w'
                            go_simp
                            with_reducible rfl
                           rotate_left
                           ·simp only [Act.put, List.setIfInBounds_toArray, List.set_cons_zero, List.set_cons_succ, i64_w, i32_w]
                            rfl
                           refine pure_ (i := 18) (N := some 92) (v := ?_) (a' := ?_) #[true, true, true, true, true, false, true, true, true, true, true, true, false, true, true, true, true, true, true, false, false, false, false, false, false, false, false, false, false, false, false, false] rfl rfl (any_of HT_.out (by kernel_rfl)) (fun _ _ _ h => h) (Or.inl ⟨by rfl, ?_⟩) ?_ ?_
                           rotate_left
                           ·intro w'
                            go_simp
                            with_reducible rfl
                           rotate_left
                           ·simp only [Act.put, List.setIfInBounds_toArray, List.set_cons_zero, List.set_cons_succ, i64_w, i32_w]
                            rfl
                           refine pure_ (i := 20) (N := some 94) (v := ?_) (a' := ?_) #[true, true, true, true, true, false, true, true, true, true, true, true, false, true, true, true, true, true, true, false, true, false, false, false, false, false, false, false, false, false, false, false] rfl rfl (any_of HT_.out (by kernel_rfl)) (fun _ _ _ h => h) (Or.inl ⟨by rfl, ?_⟩) ?_ ?_
                           rotate_left
                           ·intro w'
                            go_simp
                            with_reducible rfl
                           rotate_left
                           ·simp only [Act.put, List.setIfInBounds_toArray, List.set_cons_zero, List.set_cons_succ, i64_w, i32_w]
                            rfl
                           refine pure_ (i := 21) (N := some 95) (v := ?_) (a' := ?_) #[true, true, true, true, true, false, true, true, true, true, true, true, false, true, true, true, true, true, true, false, true, true, false, false, false, false, false, false, false, false, false, false] rfl rfl (any_of HT_.out (by kernel_rfl)) (fun _ _ _ h => h) (Or.inl ⟨by rfl, ?_⟩) ?_ ?_
                           rotate_left
                           ·intro w'
                            go_simp
                            with_reducible rfl
                           rotate_left
                           ·simp only [Act.put, List.setIfInBounds_toArray, List.set_cons_zero, List.set_cons_succ, i64_w, i32_w]
                            rfl
                           refine pure_ (i := 22) (N := some 96) (v := ?_) (a' := ?_) #[true, true, true, true, true, false, true, true, true, true, true, true, false, true, true, true, true, true, true, false, true, true, true, false, false, false, false, false, false, false, false, false] rfl rfl (any_of HT_.out (by kernel_rfl)) (fun _ _ _ h => h) (Or.inl ⟨by rfl, ?_⟩) ?_ ?_
                           rotate_left
                           ·intro w'
                            go_simp
                            with_reducible rfl
                           rotate_left
                           ·simp only [Act.put, List.setIfInBounds_toArray, List.set_cons_zero, List.set_cons_succ, i64_w, i32_w]
                            rfl
                           refine pure_ (i := 23) (N := some 97) (v := ?_) (a' := ?_) #[true, true, true, true, true, false, true, true, true, true, true, true, false, true, true, true, true, true, true, false, true, true, true, true, false, false, false, false, false, false, false, false] rfl rfl (any_of HT_.out (by kernel_rfl)) (fun _ _ _ h => h) (Or.inl ⟨by rfl, ?_⟩) ?_ ?_
                           rotate_left
                           ·intro w'
                            go_simp
                            with_reducible rfl
                           rotate_left
                           ·simp only [Act.put, List.setIfInBounds_toArray, List.set_cons_zero, List.set_cons_succ, i64_w, i32_w]
                            rfl
                           refine pure_ (i := 25) (N := some 99) (v := ?_) (a' := ?_) #[true, true, true, true, true, false, true, true, true, true, true, true, false, true, true, true, true, true, true, false, true, true, true, true, false, true, false, false, false, false, false, false] rfl rfl (any_of HT_.out (by kernel_rfl)) (fun _ _ _ h => h) (Or.inl ⟨by rfl, ?_⟩) ?_ ?_
                           rotate_left
                           ·intro w'
                            go_simp
                            with_reducible rfl
                           rotate_left
                           ·simp only [Act.put, List.setIfInBounds_toArray, List.set_cons_zero, List.set_cons_succ, i64_w, i32_w]
                            rfl
                           refine pure_ (i := 26) (N := some 100) (v := ?_) (a' := ?_) #[true, true, true, true, true, false, true, true, true, true, true, true, false, true, true, true, true, true, true, false, true, true, true, true, false, true, true, false, false, false, false, false] rfl rfl (any_of HT_.out (by kernel_rfl)) (fun _ _ _ h => h) (Or.inl ⟨by rfl, ?_⟩) ?_ ?_
                           rotate_left
                           ·intro w'
                            go_simp
                            with_reducible rfl
                           rotate_left
                           ·simp only [Act.put, List.setIfInBounds_toArray, List.set_cons_zero, List.set_cons_succ, i64_w, i32_w]
                            rfl
                           refine pure_ (i := 27) (N := some 101) (v := ?_) (a' := ?_) #[true, true, true, true, true, false, true, true, true, true, true, true, false, true, true, true, true, true, true, false, true, true, true, true, false, true, true, true, false, false, false, false] rfl rfl (any_of HT_.out (by kernel_rfl)) (fun _ _ _ h => h) (Or.inl ⟨by rfl, ?_⟩) ?_ ?_
                           rotate_left
                           ·intro w'
                            go_simp
                            with_reducible rfl
                           rotate_left
                           ·simp only [Act.put, List.setIfInBounds_toArray, List.set_cons_zero, List.set_cons_succ, i64_w, i32_w]
                            rfl
                           refine pure_ (i := 28) (N := some 102) (v := ?_) (a' := ?_) #[true, true, true, true, true, false, true, true, true, true, true, true, false, true, true, true, true, true, true, false, true, true, true, true, false, true, true, true, true, false, false, false] rfl rfl (any_of HT_.out (by kernel_rfl)) (fun _ _ _ h => h) (Or.inl ⟨by rfl, ?_⟩) ?_ ?_
                           rotate_left
                           ·intro w'
                            go_simp
                            with_reducible rfl
                           rotate_left
                           ·simp only [Act.put, List.setIfInBounds_toArray, List.set_cons_zero, List.set_cons_succ, i64_w, i32_w]
                            rfl
                           refine take_ (i := 5) (N := some 79) (v := ?_) (a' := ?_) #[true, true, true, true, true, true, true, true, true, true, true, true, false, true, true, true, true, true, true, false, true, true, true, true, false, true, true, true, true, false, false, false] rfl rfl (take_ofW HT_.out HW_.out (by kernel_rfl)) (fun _ _ _ h => h) (Or.inl ⟨by rfl, ?_⟩) hHeld ?_ ?_
                           rotate_left
                           ·rintro w' ⟨s0, s1, s2, s3, s4⟩
                            go_simp
                            with_reducible rfl
                           rotate_left
                           ·simp only [Act.put, List.setIfInBounds_toArray, List.set_cons_zero, List.set_cons_succ, i64_w, i32_w]
                            rfl
                           refine take_ (i := 12) (N := some 86) (v := ?_) (a' := ?_) #[true, true, true, true, true, true, true, true, true, true, true, true, true, true, true, true, true, true, true, false, true, true, true, true, false, true, true, true, true, false, false, false] rfl rfl (take_ofW HT_.out HW_.out (by kernel_rfl)) (fun _ _ _ h => h) (Or.inl ⟨by rfl, ?_⟩) hHeld ?_ ?_
                           rotate_left
                           ·rintro w' ⟨s0, s1, s2, s3, s4⟩
                            go_simp
                            with_reducible rfl
                           rotate_left
                           ·simp only [Act.put, List.setIfInBounds_toArray, List.set_cons_zero, List.set_cons_succ, i64_w, i32_w]
                            rfl
                           refine take_ (i := 19) (N := some 93) (v := ?_) (a' := ?_) #[true, true, true, true, true, true, true, true, true, true, true, true, true, true, true, true, true, true, true, true, true, true, true, true, false, true, true, true, true, false, false, false] rfl rfl (take_ofW HT_.out HW_.out (by kernel_rfl)) (fun _ _ _ h => h) (Or.inl ⟨by rfl, ?_⟩) hHeld ?_ ?_
                           rotate_left
                           ·rintro w' ⟨s0, s1, s2, s3, s4⟩
                            go_simp
                            with_reducible rfl
                           rotate_left
                           ·simp only [Act.put, List.setIfInBounds_toArray, List.set_cons_zero, List.set_cons_succ, i64_w, i32_w]
                            rfl
                           refine take_ (i := 24) (N := some 98) (v := ?_) (a' := ?_) #[true, true, true, true, true, true, true, true, true, true, true, true, true, true, true, true, true, true, true, true, true, true, true, true, true, true, true, true, true, false, false, false] rfl rfl (take_ofW HT_.out HW_.out (by kernel_rfl)) (fun _ _ _ h => h) (Or.inl ⟨by rfl, ?_⟩) hHeld ?_ ?_
                           rotate_left
                           ·rintro w' ⟨s0, s1, s2, s3, s4⟩
                            go_simp
                            with_reducible rfl
                           rotate_left
                           ·simp only [Act.put, List.setIfInBounds_toArray, List.set_cons_zero, List.set_cons_succ, i64_w, i32_w]
                            rfl
                           refine take_ (i := 29) (N := some 103) (v := ?_) (a' := ?_) #[true, true, true, true, true, true, true, true, true, true, true, true, true, true, true, true, true, true, true, true, true, true, true, true, true, true, true, true, true, true, false, false] rfl rfl (take_ofW HT_.out HW_.out (by kernel_rfl)) (fun _ _ _ h => h) (Or.inl ⟨by rfl, ?_⟩) hHeld ?_ ?_
                           rotate_left
                           ·rintro w' ⟨s0, s1, s2, s3, s4⟩
                            go_simp
                            with_reducible rfl
                           rotate_left
                           ·simp only [Act.put, List.setIfInBounds_toArray, List.set_cons_zero, List.set_cons_succ, i64_w, i32_w]
                            rfl
                           refine one_ (i := 30) (N := some 104) #[true, true, true, true, true, true, true, true, true, true, true, true, true, true, true, true, true, true, true, true, true, true, true, true, true, true, true, true, true, true, true, false] rfl rfl (one_of HT_.out (by kernel_rfl)) (by decide) (fun K hK => ?_)
                           refine goes_ Tryd.func50 (by kernel_rfl) rfl #[.int .u64 (rd x10_1 (wrap64 (x13_1 + (x9_1.length : Int)))), .int .u64 (rd x10_1 (wrap64 ((wrap64 (x13_1 + (x9_1.length : Int))) - 1))), .int .u64 (rd x10_1 (wrap64 ((wrap64 (x13_1 + (x9_1.length : Int))) - 2))), .int .u64 (rd x9_1 (wrap64 ((x9_1.length : Int) - 1))), .int .u64 (rd x9_1 (wrap64 ((x9_1.length : Int) - 2)))] (by rfl) rfl rfl (by (try simp only [List.map_toArray, List.map_cons, List.map_nil]); first | done | rfl | (simp only [List.length_drop, List.length_take]; rfl)) ?_
                           with_reducible refine (nat_digit.calls k1 (rd x10_1 (wrap64 (x13_1 + (x9_1.length : Int)))) (rd x10_1 (wrap64 ((wrap64 (x13_1 + (x9_1.length : Int))) - 1))) (rd x10_1 (wrap64 ((wrap64 (x13_1 + (x9_1.length : Int))) - 2))) (rd x9_1 (wrap64 ((x9_1.length : Int) - 1))) (rd x9_1 (wrap64 ((x9_1.length : Int) - 2))) t324 _ A45.out).mono ?_
                           rintro e w' ⟨rfl, ⟨nd, rfl⟩⟩
                           refine ⟨_, rfl, ?_⟩
                           refine hK.out _ _ ⟨hHeld.1, hHeld.2.1, hHeld.2.2.1, hHeld.2.2.2.1, hHeld.2.2.2.2⟩ (fun hHeld => ?_)
                           clear hK K
                           refine norm_ (a' := ?_) ?_ ?_
                           rotate_left
                           ·show Act.put _ (some 104) _ = _
                            simp only [Act.put, List.setIfInBounds_toArray, List.set_cons_zero, List.set_cons_succ, i64_w, i32_w]
                            rfl
                           refine pure_ (i := 31) (N := some 14) (v := ?_) (a' := ?_) #[true, true, true, true, true, true, true, true, true, true, true, true, true, true, true, true, true, true, true, true, true, true, true, true, true, true, true, true, true, true, true, true] rfl rfl (any_of HT_.out (by kernel_rfl)) (fun _ _ _ h => h) (Or.inl ⟨by rfl, ?_⟩) ?_ ?_
                           rotate_left
                           ·intro w'
                            go_simp
                            with_reducible rfl
                           rotate_left
                           ·simp only [Act.put, List.setIfInBounds_toArray, List.set_cons_zero, List.set_cons_succ, i64_w, i32_w]
                            rfl
                           refine done_ (done_of HT_.out (by kernel_rfl)) ?_
                           have q67 : ((wrap64 ((wrap64 (x13_1 + (x9_1.length : Int))) + 1)) : Int) ≤ ((x10_1.length : Int) : Int) := of_decide_eq_true (by first | (with_reducible assumption) | assumption)
                           obtain ⟨i067, hi067, _, hsz67, _⟩ := info_parts info24
                           have hroom67 : x10_1.length ≤ co30 := (Kd.R_reads' HO_10.out).2.1
                           have hC67 : Kd.C (Kd.int .u64) _ (some ad319) x10_1.length x10_1 := (Kd.R_reads' HO_10.out).2.2
                           have ql67 : (x13_1 : Int) ≤ ((wrap64 ((wrap64 (x13_1 + (x9_1.length : Int))) + 1)) : Int) := of_decide_eq_true (by first | (with_reducible assumption) | assumption)
                           have q067 : (0 : Int) ≤ (x13_1 : Int) := of_decide_eq_true (by first | (with_reducible assumption) | assumption)
                           have hcut67 := cut_mid (P := Tryd.prog) 49 24 .i64 .i64 Tryd.underlying49 hi067 1 hsz67 (some ad319) x10_1.length co30 x13_1 (wrap64 ((wrap64 (x13_1 + (x9_1.length : Int))) + 1)) q067 ql67 q67 hroom67
                           have hr67 := Kd.C_mid (lo := (x13_1 : Int).toNat) (hi := ((wrap64 ((wrap64 (x13_1 + (x9_1.length : Int))) + 1)) : Int).toNat) (c := co30) hC67 (by omega) (by omega) hroom67
                           obtain ⟨A67, hA67⟩ : ∃ A1, A1 = (if co30 = (x13_1 : Int).toNat then (some ad319) else ((some ad319) : Option Addr).map (·.add ((x13_1 : Int).toNat * 1))) := ⟨_, rfl⟩
                           obtain ⟨c67, hc67⟩ : ∃ c1, c1 = co30 - (x13_1 : Int).toNat := ⟨_, rfl⟩
                           have hy67 : y325.length = ((wrap64 ((wrap64 (x13_1 + (x9_1.length : Int))) + 1)) : Int).toNat - (x13_1 : Int).toNat := (by rw [Ny325.out, List.length_drop, List.length_take] <;> omega)
                           rw [show ((x10_1).take ((wrap64 ((wrap64 (x13_1 + (x9_1.length : Int))) + 1)) : Int).toNat).drop (x13_1 : Int).toNat = y325 from Ny325.out.symm] at hr67
                           replace hr67 : Kd.C (Kd.int .u64) _ A67 y325.length y325 := (by rw [hA67]; exact hr67)
                           rw [← hy67, ← hA67, ← hc67] at hcut67
                           have HR328 := Aside0.mk hr67
                           have HC328 := Aside0.mk (show y325.length ≤ c67 from by rw [hy67, hc67]; exact Nat.sub_le_sub_right (Nat.le_trans (by omega) hroom67) _)
                           have KC67 := Aside0.mk hc67
                           clear hr67 hC67 hroom67 hi067 hsz67 hc67
                           have KY67 := Aside0.mk hy67
                           have KA67 := Aside0.mk hA67
                           clear hy67 hA67
                           have KL67 := Aside0.mk (show ((wrap64 ((wrap64 (x13_1 + (x9_1.length : Int))) + 1)) : Int).toNat ≤ x10_1.length from by omega)
                           have KM67 := Aside0.mk (show (x13_1 : Int).toNat ≤ ((wrap64 ((wrap64 (x13_1 + (x9_1.length : Int))) + 1)) : Int).toNat from by omega)
                           replace q67 := eq_true q67
                           try go_wp2_with (first | ((with_reducible refine gate_callee (f := 51) rfl ?_); refine goesL_ (some 114) rfl rfl Tryd.func51 (by kernel_rfl) rfl #[.slice A67 y325.length c67, .slice (some ad322) x9_1.length co31, .int .u64 t324] rfl (by (try simp only [List.map_toArray, List.map_cons, List.map_nil]); first | done | rfl | (simp only [List.length_drop, List.length_take]; rfl)) ?_; (with_reducible refine (nat_number_lessAt.calls (hq := (by rw [KA67.out, KC67.out, KY67.out]; simp only [viewOf])) k1 (fun k_ => some k_ = (.slice (some ad319) x10_1.length co30 : Value).ownBlock) (.slice (some ad319) x10_1.length co30) x10_1 x13_1 (wrap64 ((wrap64 (x13_1 + (x9_1.length : Int))) + 1)) _ _ x9_1 t324 false t330 w _ ?side1 ?side2 ?side3 ?side4 A49.out).mono ?_); (case side1 => repeat (first | (with_reducible first | exact HB.out | apply below_alloc | apply pw_below_drewN | apply below_drew1) | exact HB.out)); (case side2 => exact Kd.R_tight rfl HO_10.out); (case side3 => first | exact Kd.C_kept_ownV (HO_9.out) (fun k_ hk_ hs_ => (hk_.2.1) hs_) | exact Kd.C_kept_ownV (Kd.V_drewN (HO_9.out) _) (fun k_ hk_ hs_ => (hk_.2.1) hs_)); (case side4 => exact (Kd.V_reads' HO_9.out).2.1); rintro e w68 ⟨rfl, hy0, hb, hkp⟩; refine ⟨_, rfl, ?_⟩; have n0_ := Aside0.mk (Kd.V_mono (ok' := fun k_ => (P0_ k_ ∨ w.heap.size ≤ k_) ∧ some k_ ≠ (.slice (some ad319) x10_1.length co30 : Value).ownBlock ∧ some k_ ≠ (v304 : Value).ownBlock) (Kd.V_keptB (HO_9.out) hkp (fun k_ hk_ hs_ => (hk_.2.1) hs_)) (fun k_ hk_ => ⟨hk_.1.1, hk_.1.2.1, hk_.1.2.2⟩)); have n1_ := Aside0.mk (Kd.R_reok rfl hy0 (fun k_ e_ => HO_10.out.1 k_ e_)); have n2_ := Aside0.mk (Kd.R_mono (ok' := fun k_ => (w.heap.size ≤ k_) ∧ some k_ ≠ (.slice (some ad319) x10_1.length co30 : Value).ownBlock) (Kd.R_keptB (HO_12.out) hkp (fun k_ hk_ hs_ => (hk_.2) hs_)) (fun k_ hk_ => ⟨hk_.1.1, hk_.1.2⟩)); have n3_ := Aside0.mk (hb); clear HO_9; clear HO_10; clear HO_12; clear HB; have HO_9 := n0_; have HO_10 := n1_; have HO_12 := n2_; have HB := n3_; clear n0_ n1_ n2_ n3_; (try clear hb); (try clear hkp); (try clear hy0); have p65 : 0 ≤ (x13_1 : Int) := of_decide_eq_true (by first | (with_reducible assumption) | assumption); have q65 : (x13_1 : Int) < ((x12_1.length : Int) : Int) := of_decide_eq_true (by first | (with_reducible assumption) | assumption); obtain ⟨go65, co65, eo65, gb65, gl65, cl65, HG65⟩ := Kd.R_form HO_12.out (by omega); (first | cases eo65 | (injection eo65 with ea_ en_ ec_; (first | subst ea_ | (injection ea_ with ea_; subst ea_)); subst ec_; clear en_)); have GB65 := Aside0.mk gb65; have GG65 := Aside0.mk HG65; clear gb65 gl65 HG65; obtain ⟨hx65_0, hf65_0⟩ := Kd.R_celln 0 HO_12.out (x13_1 : Int) p65 q65; replace p65 := eq_true p65; replace q65 := eq_true q65; obtain ⟨hy69_, hz69_⟩ := Kd.R_celln 0 HO_12.out (x13_1 : Int) (of_decide_eq_true (by first | (with_reducible assumption) | assumption)) (of_decide_eq_true (by first | (with_reducible assumption) | assumption)); have HP69 := Kd.R_putg HO_12.out (x13_1 : Int) t324) | ((with_reducible refine gate_store (t := 24) (p := 129) rfl ?_); refine store_event (t := 24) (p := 129) (v := ?vo_w70) (w1 := (w68.setCell ⟨go65, (x13_1 : Int).toNat, none⟩ (.int .u64 t324))) ?hg ?ho ?hn ?hr ?_; (case ho => rfl); (case hg => rfl); (case hn => rfl); (case hr => first | (go_simp; done) | (go_simp; rfl)); intro w70 hw; have hg : w68.grownBy w70 (some go65) := (by rw [hw]; exact HP69.2); have hp_ : Kd.R (Kd.int .u64) 24 w70 w.heap.size (fun k_ => (w.heap.size ≤ k_) ∧ some k_ ≠ (.slice (some ad319) x10_1.length co30 : Value).ownBlock) (.slice (some ⟨go65, 0, none⟩) x12_1.length co65) y337 := (by rw [hw, Ny337.out]; exact HP69.1); clear HP69; have n0_ := Aside0.mk (Kd.V_afterv (v := (.slice (some ⟨go65, 0, none⟩) x12_1.length co65)) (v1 := (.slice (some ⟨go65, 0, none⟩) x12_1.length co65)) (ok := (fun k_ => (P0_ k_ ∨ w.heap.size ≤ k_) ∧ some k_ ≠ (.slice (some ad319) x10_1.length co30 : Value).ownBlock)) (by (with_reducible repeat (first | apply Kd.V_alloc | apply Kd.V_drewN | apply Kd.V_drew)); exact Kd.V_mono HO_9.out (fun _ hk => ⟨⟨hk.1, hk.2.1⟩, hk.2.2⟩)) hg (.inl rfl)); have n1_ := Aside0.mk (Kd.R_after (v := (.slice (some ⟨go65, 0, none⟩) x12_1.length co65)) (v1 := (.slice (some ⟨go65, 0, none⟩) x12_1.length co65)) (ok := (fun k_ => (w.heap.size ≤ k_))) (by (with_reducible repeat (first | apply Kd.R_alloc | apply Kd.R_drewN | apply Kd.R_drew)); exact HO_10.out) hg (.inl rfl)); have n2_ := Aside0.mk (hp_); have n3_ := Aside0.mk ((by rw [hw]; exact below_set (HB.out) GB65.out : Below w.heap.size w w70)); clear HO_9; clear HO_10; clear HO_12; clear HB; have HO_9 := n0_; have HO_10 := n1_; have HO_12 := n2_; have HB := n3_; clear n0_ n1_ n2_ n3_; clear hg hw hp_))
                           (try simp only [← hl9_1, ← hl10_1])
                           go_roundg k1
                           case measure => have := HK1.out; omega
                           case rel => exact ⟨(x9_1), (t330), (y337), (wrap64 (x13_1 - 1)), (by first | rfl | (simp; done) | (simp [*]; done)), (by first | exact H' | (rw [hl9_1]; exact H')), ⟨by have := HK1.out; omega⟩, ⟨by (try simp only [hl9_1]); (try simp only [hl10_1]); (with_reducible repeat (first | apply Kd.V_alloc | apply Kd.V_drewN | apply Kd.V_drew)); exact Kd.V_mono HO_9.out (fun _ hk => ⟨hk.1.1, ⟨hk.1.2, hk.2⟩⟩)⟩, ⟨by (try simp only [hl9_1]); (try simp only [hl10_1]); (with_reducible repeat (first | apply Kd.R_alloc | apply Kd.R_drewN | apply Kd.R_drew)); exact HO_10.out⟩, ⟨by (try simp only [hl9_1]); (try simp only [hl10_1]); (with_reducible repeat (first | apply Kd.R_alloc | apply Kd.R_drewN | apply Kd.R_drew)); exact HO_12.out⟩, ⟨by repeat (first | (with_reducible first | exact HB.out | apply below_alloc | apply pw_below_drewN | apply below_drew1) | exact HB.out)⟩⟩
                          ·rw [if_neg c64] at H
                           exact absurd H (by simp)
                        ·rw [if_neg c48] at H
                         exact absurd H (by simp)
                       ·rw [if_neg c47] at H
                        exact absurd H (by simp)
                      ·rw [if_neg c46] at H
                       exact absurd H (by simp)
                     ·rw [if_neg c44] at H
                      exact absurd H (by simp)
                    ·rw [if_neg c43] at H
                     exact absurd H (by simp)
                   ·rw [if_neg c42] at H
                    exact absurd H (by simp)
                  ·rw [if_neg c41] at H
                   exact absurd H (by simp)
                 ·rw [if_neg c40] at H
                  exact absurd H (by simp)
                ·rw [if_neg c39] at H
                 exact absurd H (by simp)
               ·rw [if_neg c38] at H
                exact absurd H (by simp)
              ·rw [if_neg c37] at H
               exact absurd H (by simp)
             ·rw [if_neg c36] at H
              exact absurd H (by simp)
            ·rw [if_neg c35] at H
             exact absurd H (by simp)
           ·rw [if_neg c34] at H
            have c34b0 : decide (0 ≤ x13_1) = false := decide_eq_false c34
            clear c34
            by_cases c71 : 0 ≤ (x9_1.length : Int)
            ·rw [if_pos c71] at H
             have c71b0 := eq_true c71
             have c71b1 : decide (0 ≤ (x9_1.length : Int)) = true := decide_eq_true c71
             have keepo_c71b1 := c71b1
             (try rw [hl9_1] at c71b1)
             (try rw [hl10_1] at c71b1)
             clear c71
             by_cases c72 : (x9_1.length : Int) ≤ (x10_1.length : Int)
             ·rw [if_pos c72] at H
              have c72b0 := eq_true c72
              have c72b1 : decide ((x9_1.length : Int) ≤ (x10_1.length : Int)) = true := decide_eq_true c72
              have keepo_c72b1 := c72b1
              (try rw [hl9_1] at c72b1)
              (try rw [hl10_1] at c72b1)
              clear c72
              obtain ⟨y306, hy306⟩ : ∃ y_ : List Int, y_ = (x10_1.take ((x9_1.length : Int) : Int).toNat) := ⟨_, rfl⟩
              replace H : ((nat_norm.f k1 y306).bind fun t309 => ((nat_number_shr.f k1 t309 t292).bind fun bt312 => ((nat_norm.f k1 x12_1).bind fun t316 => (some (t316, bt312.1))))) = some (r1, r2) := by first | (rw [hy306]; with_reducible exact H) | (have H2_ := (Option.bind_some _ _).symm.trans H; rw [hy306]; with_reducible exact H2_) | (have H2_ := (Option.bind_some _ _).symm.trans H; with_reducible exact H2_) | with_reducible exact H | (rw [hy306]; exact H) | exact H
              have Ny306 := Aside0.mk hy306
              clear hy306
              replace H := Option.bind_eq_some_iff.mp H
              obtain ⟨t309, A730, H⟩ := H
              (try dsimp only at H)
              have A73 := Aside0.mk A730
              clear A730
              replace H := Option.bind_eq_some_iff.mp H
              obtain ⟨⟨t312, t315⟩, A740, H⟩ := H
              (try dsimp only at H)
              have A74 := Aside0.mk A740
              clear A740
              replace H := Option.bind_eq_some_iff.mp H
              obtain ⟨t316, A750, H⟩ := H
              (try dsimp only at H)
              have A75 := Aside0.mk A750
              clear A750
              simp only [Option.some.injEq, Prod.mk.injEq] at H
              obtain ⟨rfl, rfl⟩ := H
              have q76 : ((x9_1.length : Int) : Int) ≤ ((x10_1.length : Int) : Int) := of_decide_eq_true (by first | (with_reducible assumption) | assumption)
              obtain ⟨i076, hi076, _, hsz76, _⟩ := info_parts info24
              have hcut76 := cut_to (P := Tryd.prog) 49 24 .i64 Tryd.underlying49 hi076 Ao30 x10_1.length co30 (x9_1.length : Int) (of_decide_eq_true (by first | (with_reducible assumption) | assumption)) q76 (Kd.R_reads' HO_10.out).2.1
              have hr76 := Kd.R_take (m := ((x9_1.length : Int) : Int).toNat) HO_10.out (by omega)
              have hy76 : y306.length = ((x9_1.length : Int) : Int).toNat := (by rw [Ny306.out, List.length_take]; omega)
              rw [← Ny306.out] at hr76
              rw [← hy76] at hr76 hcut76
              clear hy76 hi076 hsz76 HO_10
              have HO308 := Aside0.mk hr76
              have e30_ : (.slice Ao30 x10_1.length co30 : Value).ownBlock = (.slice Ao30 y306.length co30 : Value).ownBlock := by cases Ao30 <;> rfl
              rw [e30_] at HO_12
              rw [e30_] at HO_9
              clear e30_
              clear hr76
              replace q76 := eq_true q76
              go_wp2_with (first | ((with_reducible refine gate_callee (f := 30) rfl ?_); refine goesL_ (some 134) rfl rfl Tryd.func30 (by kernel_rfl) rfl #[.slice Ao30 y306.length co30] rfl (by (try simp only [List.map_toArray, List.map_cons, List.map_nil]); first | done | rfl | (simp only [List.length_drop, List.length_take]; rfl)) ?_; (with_reducible refine (nat_norm.calls k1 (fun k_ => some k_ = (.slice Ao30 y306.length co30 : Value).ownBlock) _ _ y306 t309 _ ?side1 A73.out).mono ?_); (case side1 => exact Kd.R_V (Kd.R_tight rfl (HO308.out))); rintro e w77 ⟨v310, rfl, ho0, hb⟩; refine ⟨_, rfl, ?_⟩; have n0_ := Aside0.mk (Kd.V_below (by (with_reducible repeat (first | apply Kd.V_alloc | apply Kd.V_drewN | apply Kd.V_drew)); exact HO_9.out) hb); have n1_ := Aside0.mk (Kd.R_below (by (with_reducible repeat (first | apply Kd.R_alloc | apply Kd.R_drewN | apply Kd.R_drew)); exact HO308.out) hb); have n2_ := Aside0.mk (Kd.R_below (by (with_reducible repeat (first | apply Kd.R_alloc | apply Kd.R_drewN | apply Kd.R_drew)); exact HO_12.out) hb); have n3_ := Aside0.mk (Kd.V_lower (Kd.V_mono (ok' := fun k_ => (P0_ k_ ∨ w.heap.size ≤ k_) ∧ some k_ ≠ (v304 : Value).ownBlock) ho0 (fun k_ hk_ => ⟨Or.elim hk_ (fun hs_ => (.inr (((HO308.out).1 k_ hs_.symm).1))) (fun hn_ => (.inr (Nat.le_trans (below_size (by repeat (first | (with_reducible first | exact HB.out | apply below_alloc | apply pw_below_drewN | apply below_drew1) | exact HB.out))) hn_))), Or.elim hk_ (fun hs_ => ((HO308.out).1 k_ hs_.symm).2) (fun hn_ => (Kd.fresh' (Kd.R_lt (by (with_reducible repeat (first | apply Kd.R_alloc | apply Kd.R_drewN | apply Kd.R_drew)); exact HO_12.out)) k_ hn_))⟩)) (below_size (by repeat (first | (with_reducible first | exact HB.out | apply below_alloc | apply pw_below_drewN | apply below_drew1) | exact HB.out)))); have n4_ := Aside0.mk (below_step (by repeat (first | (with_reducible first | exact HB.out | apply below_alloc | apply pw_below_drewN | apply below_drew1) | exact HB.out)) hb); clear HO_9; clear HO308; clear HO_12; clear HB; have HO_9 := n0_; have HO308 := n1_; have HO_12 := n2_; have HO311 := n3_; have HB := n4_; clear n0_ n1_ n2_ n3_ n4_; (try clear hb); (try clear hb2); (try clear hk); (try clear hi); (try clear ho0); obtain ⟨Ao78, co78, eo78⟩ := Kd.V_slice HO311.out; subst eo78) | ((with_reducible refine gate_callee (f := 53) rfl ?_); refine goesL_ (some 136) rfl rfl Tryd.func53 (by kernel_rfl) rfl #[.slice Ao78 t309.length co78, .int .i64 t292] rfl (by (try simp only [List.map_toArray, List.map_cons, List.map_nil]); first | done | rfl | (simp only [List.length_drop, List.length_take]; rfl)) ?_; (with_reducible refine (nat_number_shr.calls k1 _ _ t309 t292 t312 t315 _ ?side1 ?side2 A74.out).mono ?_); (case side1 => repeat (first | exact (Kd.V_reads' HO311.out).2.2 | (with_reducible refine Kd.C_alloc ?_ _) | (with_reducible refine Kd.C_drewN ?_ _) | (with_reducible refine Kd.C_drew ?_))); (case side2 => exact (Kd.V_reads' HO311.out).2.1); rintro e w79 ⟨v313, rfl, ho0, hb⟩; refine ⟨_, rfl, ?_⟩; have n0_ := Aside0.mk (Kd.V_below (by (with_reducible repeat (first | apply Kd.V_alloc | apply Kd.V_drewN | apply Kd.V_drew)); exact HO_9.out) hb); have n1_ := Aside0.mk (Kd.R_below (by (with_reducible repeat (first | apply Kd.R_alloc | apply Kd.R_drewN | apply Kd.R_drew)); exact HO308.out) hb); have n2_ := Aside0.mk (Kd.R_below (by (with_reducible repeat (first | apply Kd.R_alloc | apply Kd.R_drewN | apply Kd.R_drew)); exact HO_12.out) hb); have n3_ := Aside0.mk (Kd.V_below (by (with_reducible repeat (first | apply Kd.V_alloc | apply Kd.V_drewN | apply Kd.V_drew)); exact HO311.out) hb); have n4_ := Aside0.mk (Kd.V_lower (Kd.V_mono (ok' := fun k_ => (P0_ k_ ∨ w.heap.size ≤ k_) ∧ some k_ ≠ (.slice Ao30 y306.length co30 : Value).ownBlock ∧ some k_ ≠ (v304 : Value).ownBlock) ho0 (fun k_ hk_ => ⟨(.inr (Nat.le_trans (below_size (by repeat (first | (with_reducible first | exact HB.out | apply below_alloc | apply pw_below_drewN | apply below_drew1) | exact HB.out))) hk_)), (Kd.fresh' (Kd.R_lt (by (with_reducible repeat (first | apply Kd.R_alloc | apply Kd.R_drewN | apply Kd.R_drew)); exact HO308.out)) k_ hk_), (Kd.fresh' (Kd.R_lt (by (with_reducible repeat (first | apply Kd.R_alloc | apply Kd.R_drewN | apply Kd.R_drew)); exact HO_12.out)) k_ hk_)⟩)) (below_size (by repeat (first | (with_reducible first | exact HB.out | apply below_alloc | apply pw_below_drewN | apply below_drew1) | exact HB.out)))); have n5_ := Aside0.mk (below_step (by repeat (first | (with_reducible first | exact HB.out | apply below_alloc | apply pw_below_drewN | apply below_drew1) | exact HB.out)) hb); clear HO_9; clear HO308; clear HO_12; clear HO311; clear HB; have HO_9 := n0_; have HO308 := n1_; have HO_12 := n2_; have HO311 := n3_; have HO314 := n4_; have HB := n5_; clear n0_ n1_ n2_ n3_ n4_ n5_; (try clear hb); (try clear hb2); (try clear hk); (try clear hi); (try clear ho0); obtain ⟨Ao80, co80, eo80⟩ := Kd.R_slice HO_12.out; subst eo80) | ((with_reducible refine gate_callee (f := 30) rfl ?_); refine goesL_ (some 140) rfl rfl Tryd.func30 (by kernel_rfl) rfl #[.slice Ao80 x12_1.length co80] rfl (by (try simp only [List.map_toArray, List.map_cons, List.map_nil]); first | done | rfl | (simp only [List.length_drop, List.length_take]; rfl)) ?_; (with_reducible refine (nat_norm.calls k1 (fun k_ => some k_ = (.slice Ao80 x12_1.length co80 : Value).ownBlock) _ _ x12_1 t316 _ ?side1 A75.out).mono ?_); (case side1 => exact Kd.R_V (Kd.R_tight rfl (HO_12.out))); rintro e w81 ⟨v317, rfl, ho0, hb⟩; refine ⟨_, rfl, ?_⟩; have n0_ := Aside0.mk (Kd.V_below (by (with_reducible repeat (first | apply Kd.V_alloc | apply Kd.V_drewN | apply Kd.V_drew)); exact HO_9.out) hb); have n1_ := Aside0.mk (Kd.R_below (by (with_reducible repeat (first | apply Kd.R_alloc | apply Kd.R_drewN | apply Kd.R_drew)); exact HO308.out) hb); have n2_ := Aside0.mk (Kd.R_below (by (with_reducible repeat (first | apply Kd.R_alloc | apply Kd.R_drewN | apply Kd.R_drew)); exact HO_12.out) hb); have n3_ := Aside0.mk (Kd.V_below (by (with_reducible repeat (first | apply Kd.V_alloc | apply Kd.V_drewN | apply Kd.V_drew)); exact HO311.out) hb); have n4_ := Aside0.mk (Kd.V_below (by (with_reducible repeat (first | apply Kd.V_alloc | apply Kd.V_drewN | apply Kd.V_drew)); exact HO314.out) hb); have n5_ := Aside0.mk (Kd.V_lower (Kd.V_mono (ok' := fun k_ => (P0_ k_ ∨ w.heap.size ≤ k_) ∧ some k_ ≠ (.slice Ao30 y306.length co30 : Value).ownBlock) ho0 (fun k_ hk_ => ⟨Or.elim hk_ (fun hs_ => (.inr (((HO_12.out).1 k_ hs_.symm).1))) (fun hn_ => (.inr (Nat.le_trans (below_size (by repeat (first | (with_reducible first | exact HB.out | apply below_alloc | apply pw_below_drewN | apply below_drew1) | exact HB.out))) hn_))), Or.elim hk_ (fun hs_ => ((HO_12.out).1 k_ hs_.symm).2) (fun hn_ => (Kd.fresh' (Kd.R_lt (by (with_reducible repeat (first | apply Kd.R_alloc | apply Kd.R_drewN | apply Kd.R_drew)); exact HO308.out)) k_ hn_))⟩)) (below_size (by repeat (first | (with_reducible first | exact HB.out | apply below_alloc | apply pw_below_drewN | apply below_drew1) | exact HB.out)))); have n6_ := Aside0.mk (below_step (by repeat (first | (with_reducible first | exact HB.out | apply below_alloc | apply pw_below_drewN | apply below_drew1) | exact HB.out)) hb); clear HO_9; clear HO308; clear HO_12; clear HO311; clear HO314; clear HB; have HO_9 := n0_; have HO308 := n1_; have HO_12 := n2_; have HO311 := n3_; have HO314 := n4_; have HO318 := n5_; have HB := n6_; clear n0_ n1_ n2_ n3_ n4_ n5_ n6_; (try clear hb); (try clear hb2); (try clear hk); (try clear hi); (try clear ho0)))
              go_ret2
              exact ⟨_, _, by first | rfl | (simp [errW_none, errW_some] <;> rfl) | (simp [*, errW_none, errW_some] <;> rfl), by (with_reducible repeat (first | apply Kd.V_alloc | apply Kd.V_drewN | apply Kd.V_drew)); exact Kd.V_mono HO318.out (fun _ hk => hk.1), by (with_reducible repeat (first | apply Kd.V_alloc | apply Kd.V_drewN | apply Kd.V_drew)); exact Kd.V_mono HO314.out (fun _ hk => hk.1), by repeat (first | (with_reducible first | exact HB.out | apply below_alloc | apply pw_below_drewN | apply below_drew1) | exact HB.out)⟩
             ·rw [if_neg c72] at H
              exact absurd H (by simp)
            ·rw [if_neg c71] at H
             exact absurd H (by simp)
        ·rw [if_neg c22] at H
         exact absurd H (by simp)
       ·rw [if_neg c21] at H
        exact absurd H (by simp)
      ·rw [if_neg c19] at H
       exact absurd H (by simp)
     ·rw [if_neg c18] at H
      exact absurd H (by simp)
    ·rw [if_neg c15] at H
     exact absurd H (by simp)
   ·rw [if_neg c14] at H
    exact absurd H (by simp)
end Go.Proofs.YtdbhednhhmbooaaDoor.PAll
