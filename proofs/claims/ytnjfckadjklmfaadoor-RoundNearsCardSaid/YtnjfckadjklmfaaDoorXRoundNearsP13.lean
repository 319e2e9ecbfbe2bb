/- Printed functions, merged by a program of this session. -/
import Derived.Test.YtnjfckadjklmfaaDoorXRoundNearsP0
import Derived.Test.YtnjfckadjklmfaaDoorXRoundNearsP12
import Derived.Test.YtnjfckadjklmfaaDoorXRoundNearsSh
namespace Go.Proofs.YtnjfckadjklmfaaDoor.PAll
open Go.RowKit Go.Proofs.YtnjfckadjklmfaaDoorW.PrintWords Go.Proofs.YtnjfckadjklmfaaDoorW.PrintLast Go.Proofs.YtnjfckadjklmfaaDoorW.PrintMore Go.Proofs.YtnjfckadjklmfaaDoorW.PrintWords.Kd
attribute [local go_sem] max2_int min2_int max_two min_two max_three min_three max_four min_four   -- for this text's walks alone
set_option linter.unusedVariables false
set_option linter.unusedSimpArgs false
attribute [local go_sem] fld75_0 fld75_1 fld75_2 ext118 ext119
def limbs_Shr.l0 : Nat → List Int → Bool → List Int → Int → List Int → Int → Int → Option (List Int × Bool)
 | 0, _, _, _, _, _, _, _ => none
 | k + 1, x0, x6, x7, x8, x35, x36, x37 => if x37 < x36 then (if 0 ≤ x37 then (if x37 < (x35.length : Int) then (if 0 ≤ x8 then (if x37 < (x7.length : Int) then ((some (x7.set (x37 : Int).toNat (shr .u64 (rd x35 x37) x8) : List Int)).bind fun y427 => (if x8 > 0 then (if (wrap64 (x37 + 1)) < (x0.length : Int) then (if 0 ≤ (wrap64 (x37 + 1)) then (if 0 ≤ (wrap64 (64 - x8)) then (limbs_Shr.l0 k x0 x6 (y427.set (x37 : Int).toNat (Go.bits .or .u64 (rd y427 x37) (shl .u64 (rd x0 (wrap64 (x37 + 1))) (wrap64 (64 - x8))))) x8 x35 x36 (wrap64 (x37 + 1))) else (none)) else (none)) else (limbs_Shr.l0 k x0 x6 y427 x8 x35 x36 (wrap64 (x37 + 1)))) else (limbs_Shr.l0 k x0 x6 y427 x8 x35 x36 (wrap64 (x37 + 1))))) else (none)) else (none)) else (none)) else (none)) else ((limbs_Trim.f k x7).bind fun t431 => (some (t431, x6)))
def limbs_Shr.f (k : Nat) (l0 : List Int) (a1 : Int) : Option (List Int × Bool) := (limbs_Trim.f k l0).bind fun t414 => (if (t414.length : Int) = 0 then (some (([] : List Int), false)) else ((limbs_Low.f k t414).bind fun t417 => (if (wrap64 (Int.tdiv a1 64)) ≥ (t414.length : Int) then (some (([] : List Int), decide (t417 < a1))) else (if 0 ≤ (wrap64 (Int.tdiv a1 64)) then (if (wrap64 (Int.tdiv a1 64)) ≤ (t414.length : Int) then ((some (t414.drop ((wrap64 (Int.tdiv a1 64)) : Int).toNat : List Int)).bind fun y418 => (if 0 ≤ (y418.length : Int) then (if ((y418.length : Int) : Int).toNat ≤ 35184372088832 then (limbs_Shr.l0 k y418 (decide (t417 < a1)) (List.replicate ((y418.length : Int) : Int).toNat 0) (Int.tmod a1 64) y418 (y418.length : Int) 0) else (none)) else (none))) else (none)) else (none)))))
theorem limbs_Shr.mono_l : ∀ k, (∀ y0 y1 y2 y3 y4 y5 y6, LeO (limbs_Shr.l0 k y0 y1 y2 y3 y4 y5 y6) (limbs_Shr.l0 (k + 1) y0 y1 y2 y3 y4 y5 y6))
 | 0 => fun _ _ _ _ _ _ _ r h => by simp [limbs_Shr.l0] at h
 | k + 1 => by
  have ih0 := limbs_Shr.mono_l k
  intro y0 y1 y2 y3 y4 y5 y6
  unfold limbs_Shr.l0
  repeat' first
  | (with_reducible exact ih0 _ _ _ _ _ _ _)
  | (with_reducible exact limbs_Low.mono _ _)
  | (with_reducible exact limbs_Trim.mono _ _)
  | (with_reducible exact LeO.refl _)
  | (with_reducible exact LeO.none _)
  | (with_reducible refine LeO.ite ?_ ?_)
  | (with_reducible refine LeO.bind ?_ (fun _ => ?_))
  | exact ih0 _ _ _ _ _ _ _
  | exact limbs_Low.mono _ _
  | exact limbs_Trim.mono _ _
  | exact LeO.none _
  | refine LeO.ite ?_ ?_
  | refine LeO.bind ?_ (fun _ => ?_)
theorem limbs_Shr.mono : ∀ a0 a1 k, LeO (limbs_Shr.f k a0 a1) (limbs_Shr.f (k + 1) a0 a1) := by
 intro a0 a1 k
 have ih0 := limbs_Shr.mono_l k
 unfold limbs_Shr.f
 repeat' first
   | (with_reducible exact ih0 _ _ _ _ _ _ _)
   | (with_reducible exact limbs_Low.mono _ _)
   | (with_reducible exact limbs_Trim.mono _ _)
   | (with_reducible exact LeO.refl _)
   | (with_reducible exact LeO.none _)
   | (with_reducible refine LeO.ite ?_ ?_)
   | (with_reducible refine LeO.bind ?_ (fun _ => ?_))
   | exact ih0 _ _ _ _ _ _ _
   | exact limbs_Low.mono _ _
   | exact limbs_Trim.mono _ _
   | exact LeO.none _
   | refine LeO.ite ?_ ?_
   | refine LeO.bind ?_ (fun _ => ?_)
def limbs_Shr.T15 : Bool × List (List Nat × List Nat) := (true, [([], []), ([], []), ([0, 1], [0, 1]), ([2], [2]), ([], []), ([], []), ([5], [5]), ([4, 6], [4, 6]), ([7], [7]), ([], []), ([9], [9]), ([8, 10], [8, 10]), ([3, 11], [3, 11]), ([0, 1, 0, 1, 2, 3, 4, 5, 6, 7, 8, 9, 10, 11, 12], [0, 1]), ([13, 12, 0, 1, 2, 3, 4, 5, 6, 7, 8, 9, 10, 11, 12], [12, 13])])
def limbs_Shr.B15 : List Nat := [0, 0, 3, 7, 0, 0, 32, 112, 240, 0, 512, 2032, 4095, 8191, 16383]
theorem limbs_Shr.tab15 : rtab .any (opsOf Tryd.f86 15) = limbs_Shr.T15 := by kernel_rfl
theorem limbs_Shr.bits15 : waitsOk limbs_Shr.T15.2 limbs_Shr.B15 = true := by kernel_rfl
set_option maxHeartbeats 8000000 in
set_option maxRecDepth 100000 in
theorem limbs_Shr.calls (k : Nat) (P0_ : Nat → Prop) (A0 : Option Addr) (c0 : Nat) (l0 : List Int) (a1 : Int) (r1 : List Int) (r2 : Bool) (w : World) (hs0 : Kd.V (Kd.int .u64) 26 w w.heap.size (fun k_ => P0_ k_) (.slice A0 l0.length c0) l0) (hT : Laid w) (h : limbs_Shr.f k l0 a1 = some (r1, r2)) :
  Calls Tryd.prog 86 #[.slice A0 l0.length c0, .int .i64 a1] w fun e w' => ∃ v0_ : Value, e = .returned (.tuple #[v0_, .bool r2]) ∧ Kd.V (Kd.int .u64) 26 w' w.heap.size (fun k_ => (P0_ k_ ∨ w.heap.size ≤ k_)) v0_ r1 ∧ Below w.heap.size w w' := by
 have HO0 := zA (show Kd.V (Kd.int .u64) 26 w w.heap.size (fun k_ => (P0_ k_ ∨ w.heap.size ≤ k_)) (.slice A0 l0.length c0) l0 from V_mono hs0 (fun k_ hk => .inl hk))
 have HB := zA (Below.refl w.heap.size w)
 have H : ((limbs_Trim.f k l0).bind fun t414 => (if (t414.length : Int) = 0 then (some (([] : List Int), false)) else ((limbs_Low.f k t414).bind fun t417 => (if (wrap64 (Int.tdiv a1 64)) ≥ (t414.length : Int) then (some (([] : List Int), decide (t417 < a1))) else (if 0 ≤ (wrap64 (Int.tdiv a1 64)) then (if (wrap64 (Int.tdiv a1 64)) ≤ (t414.length : Int) then ((some (t414.drop ((wrap64 (Int.tdiv a1 64)) : Int).toNat : List Int)).bind fun y418 => (if 0 ≤ (y418.length : Int) then (if ((y418.length : Int) : Int).toNat ≤ 35184372088832 then (limbs_Shr.l0 k y418 (decide (t417 < a1)) (List.replicate ((y418.length : Int) : Int).toNat 0) (Int.tmod a1 64) y418 (y418.length : Int) 0) else (none)) else (none))) else (none)) else (none)))))) = some (r1, r2) := h
 clear h
 obtain ⟨t414, A3, H⟩ := zh H
 by_cases c4 : (t414.length : Int) = 0
 ·rw [if_pos c4] at H
  have c4b0 := beq_iff_eq.mpr c4
  have c4b1 := bne_eq_false_iff_eq.mpr c4
  clear c4
  simp only [Option.some.injEq, Prod.mk.injEq] at H
  obtain ⟨rfl, rfl⟩ := H
  go_enter Tryd.func86, Tryd.ntmps86
  go_wp2_with (first | ((with_reducible refine zG 84 rfl ?_); refine zL (some 12) rfl rfl Tryd.func84 #[.slice A0 l0.length c0] rfl ?_; (with_reducible refine (limbs_Trim.calls k (fun k_ => (P0_ k_ ∨ w.heap.size ≤ k_)) _ _ l0 t414 _ ?side1 A3.out).mono ?_); (case side1 => exact HO0.out); rintro e w5 ⟨v415, rfl, ho0, hb⟩; refine ⟨_, rfl, ?_⟩; replace HO0 := zA (V_below (vu HO0.out) hb); have HO416 := zA (V_lower (V_mono (ok' := fun k_ => (P0_ k_ ∨ w.heap.size ≤ k_)) ho0 (fun k_ hk_ => Or.elim hk_ (fun hs_ => hs_) (fun hn_ => (.inr (Nat.le_trans (below_size bq) hn_))))) (below_size bq)); replace HB := ze hb; (try clear ho0); obtain ⟨Ao6, co6, eo6⟩ := V_slice HO416.out; subst eo6))
  go_ret2
  exact ⟨_, er, V_nil _ _ _ _ _, bq⟩
 rw [if_neg c4] at H
 have c4b0 := beq_eq_false_iff_ne.mpr c4
 have c4b1 := bne_iff_ne.mpr c4
 have c4b2 : ¬ (t414 = []) := fun h_ => c4 (by rw [h_]; rfl)
 obtain ⟨t417, A7, H⟩ := zh H
 by_cases c8 : (wrap64 (Int.tdiv a1 64)) ≥ (t414.length : Int)
 ·rw [if_pos c8] at H
  have c8b0 := decide_eq_true c8
  clear c8
  simp only [Option.some.injEq, Prod.mk.injEq] at H
  obtain ⟨rfl, rfl⟩ := H
  go_enter Tryd.func86, Tryd.ntmps86
  go_wp2_with (first | ((with_reducible refine zG 84 rfl ?_); refine zL (some 12) rfl rfl Tryd.func84 #[.slice A0 l0.length c0] rfl ?_; (with_reducible refine (limbs_Trim.calls k (fun k_ => (P0_ k_ ∨ w.heap.size ≤ k_)) _ _ l0 t414 _ ?side1 A3.out).mono ?_); (case side1 => exact HO0.out); rintro e w9 ⟨v415, rfl, ho0, hb⟩; refine ⟨_, rfl, ?_⟩; replace HO0 := zA (V_below (vu HO0.out) hb); have HO416 := zA (V_lower (V_mono (ok' := fun k_ => (P0_ k_ ∨ w.heap.size ≤ k_)) ho0 (fun k_ hk_ => Or.elim hk_ (fun hs_ => hs_) (fun hn_ => (.inr (Nat.le_trans (below_size bq) hn_))))) (below_size bq)); replace HB := ze hb; (try clear ho0); obtain ⟨Ao10, co10, eo10⟩ := V_slice HO416.out; subst eo10) | ((with_reducible refine zG 85 rfl ?_); refine zL (some 17) rfl rfl Tryd.func85 #[.slice Ao10 t414.length co10] rfl ?_; (with_reducible refine (limbs_Low.calls k _ _ t414 t417 _ ?side1 ?side2 (laid_below hT bq) A7.out).mono ?_); (case side1 => exact zk (V_reads' HO416.out).2.2); (case side2 => exact (V_reads' HO416.out).2.1); rintro e w' ⟨rfl, ⟨nd, rfl⟩⟩; refine ⟨_, rfl, ?_⟩))
  go_ret2
  exact ⟨_, er, V_nil _ _ _ _ _, bq⟩
 rw [if_neg c8] at H
 have c8b0 := decide_eq_false c8
 clear c8
 obtain ⟨ji11, hji11⟩ : ∃ j_ : Int, (wrap64 (Int.tdiv a1 64)) = j_ := ⟨_, rfl⟩
 replace H : (if 0 ≤ (ji11) then (if (ji11) ≤ (t414.length : Int) then ((some (t414.drop ((ji11) : Int).toNat : List Int)).bind fun y418 => (if 0 ≤ (y418.length : Int) then (if ((y418.length : Int) : Int).toNat ≤ 35184372088832 then (limbs_Shr.l0 k y418 (decide (t417 < a1)) (List.replicate ((y418.length : Int) : Int).toNat 0) (Int.tmod a1 64) y418 (y418.length : Int) 0) else (none)) else (none))) else (none)) else (none)) = some (r1, r2) := zQ hji11 H
 (try rw [hji11] at c8b0)
 (try rw [hji11] at A3)
 (try rw [hji11] at A7)
 have hji11w : (IntKind.i64.wrap (Int.tdiv a1 64)) = ji11 := (i64_w _).trans hji11
 replace H := dn H
 obtain ⟨c12, H⟩ := H
 have c12b0 := eq_true c12
 have c12b1 := decide_eq_true c12
 clear c12
 replace H := dn H
 obtain ⟨c13, H⟩ := H
 have c13b0 := eq_true c13
 have c13b1 := decide_eq_true c13
 clear c13
 obtain ⟨y418, hy418⟩ : ∃ y_ : List Int, y_ = (t414.drop ((ji11) : Int).toNat) := ⟨_, rfl⟩
 replace H : (if 0 ≤ (y418.length : Int) then (if ((y418.length : Int) : Int).toNat ≤ 35184372088832 then (limbs_Shr.l0 k y418 (decide (t417 < a1)) (List.replicate ((y418.length : Int) : Int).toNat 0) (Int.tmod a1 64) y418 (y418.length : Int) 0) else (none)) else (none)) = some (r1, r2) := zR hy418 H
 have Ny418 := zA hy418
 clear hy418
 replace H := dn H
 obtain ⟨c14, H⟩ := H
 have c14b0 := eq_true c14
 have c14b1 := decide_eq_true c14
 clear c14
 replace H := dn H
 obtain ⟨c15, H⟩ := H
 have c15b0 := eq_true c15
 have c15b1 := decide_eq_true c15
 clear c15
 obtain ⟨y423, hy423⟩ : ∃ y_ : List Int, y_ = (List.replicate ((y418.length : Int) : Int).toNat 0) := ⟨_, rfl⟩
 replace H : (limbs_Shr.l0 k y418 (decide (t417 < a1)) y423 (Int.tmod a1 64) y418 (y418.length : Int) 0) = some (r1, r2) := zR hy423 H
 have Ny423 := zA hy423
 clear hy423
 have H' := zA H
 clear H
 go_enter Tryd.func86, Tryd.ntmps86
 go_wp2_with (first | ((with_reducible refine zG 84 rfl ?_); refine zL (some 12) rfl rfl Tryd.func84 #[.slice A0 l0.length c0] rfl ?_; (with_reducible refine (limbs_Trim.calls k (fun k_ => (P0_ k_ ∨ w.heap.size ≤ k_)) _ _ l0 t414 _ ?side1 A3.out).mono ?_); (case side1 => exact HO0.out); rintro e w16 ⟨v415, rfl, ho0, hb⟩; refine ⟨_, rfl, ?_⟩; replace HO0 := zA (V_below (vu HO0.out) hb); have HO416 := zA (V_lower (V_mono (ok' := fun k_ => (P0_ k_ ∨ w.heap.size ≤ k_)) ho0 (fun k_ hk_ => Or.elim hk_ (fun hs_ => hs_) (fun hn_ => (.inr (Nat.le_trans (below_size bq) hn_))))) (below_size bq)); replace HB := ze hb; (try clear ho0); obtain ⟨Ao17, co17, eo17⟩ := V_slice HO416.out; subst eo17) | ((with_reducible refine zG 85 rfl ?_); refine zL (some 17) rfl rfl Tryd.func85 #[.slice Ao17 t414.length co17] rfl ?_; (with_reducible refine (limbs_Low.calls k _ _ t414 t417 _ ?side1 ?side2 (laid_below hT bq) A7.out).mono ?_); (case side1 => exact zk (V_reads' HO416.out).2.2); (case side2 => exact (V_reads' HO416.out).2.1); rintro e w' ⟨rfl, ⟨nd, rfl⟩⟩; refine ⟨_, rfl, ?_⟩; have q18 : ((ji11) : Int) ≤ ((t414.length : Int) : Int) := od; obtain ⟨i018, hi018, _, hsz18, _⟩ := info_parts info26; have hroom18 : t414.length ≤ co17 := (V_reads' HO416.out).2.1; have hC18 : Kd.F (Kd.int .u64) _ _ Ao17 t414.length t414 := (V_at (base := w.heap.size) HO416.out).2.2; have q018 : (0 : Int) ≤ ((ji11) : Int) := od; have hcut18 := cut_from (P := Tryd.prog) 22 26 .i64 Tryd.underlying22 hi018 1 hsz18 Ao17 t414.length co17 (ji11) q018 q18; have hr18 := Kd.F_cut (m := ((ji11) : Int).toNat) (c := co17) hC18 (by omega) hroom18; obtain ⟨A18, hA18⟩ : ∃ A1, A1 = (if co17 = ((ji11) : Int).toNat then Ao17 else (Ao17 : Option Addr).map (·.add (((ji11) : Int).toNat * 1))) := ⟨_, rfl⟩; obtain ⟨c18, hc18⟩ : ∃ c1, c1 = co17 - ((ji11) : Int).toNat := ⟨_, rfl⟩; have hy18 : y418.length = t414.length - ((ji11) : Int).toNat := (by rw [Ny418.out, List.length_drop] <;> omega); rw [show (t414).drop ((ji11) : Int).toNat = y418 from Ny418.out.symm] at hr18; replace hr18 : Kd.F (Kd.int .u64) _ _ A18 y418.length y418 := (by rw [hA18]; exact hr18); rw [← hy18, ← hA18, ← hc18] at hcut18; have HO422 := zA (show Kd.V (Kd.int .u64) 26 _ w.heap.size _ (.slice A18 y418.length c18) y418 from V_mk (by rw [hy18, hc18]; exact Nat.sub_le_sub_right hroom18 _) hr18); have HC422 := zA (show y418.length ≤ c18 from by rw [hy18, hc18]; exact Nat.sub_le_sub_right hroom18 _); have KC18 := zA hc18; clear hr18 hC18 hroom18 hi018 hsz18 hc18; have KY18 := zA hy18; have KA18 := zA hA18; clear hy18 hA18; replace q18 := eq_true q18) | ((with_reducible refine zD 32 rfl ?_); (try (refine gate_guard (by rfl) ?_; dsimp only)); refine R_make (Kd.int .u64) _ 26 rfl (N := 32) rfl 22 _ _ rfl (y418.length : Int) rfl rfl Tryd.underlying22 (.int .u64 0) 8 info26 rfl (by decide) (by omega) 0 (ok := fun _ => True) (okp := fun _ => True) rfl (fun _ hk => hk) trivial (od) (Nat.le_trans (Nat.mul_le_mul_right _ (od : (y418.length : Int).toNat ≤ 35184372088832)) (by omega)) (Below.refl _ _) (Nat.le_refl _) ?_; intro v424 w19 ho20 hb hg_ hnew_; clear hg_ hnew_; (first | rw [← Ny423.out] at ho20 | (simp only [Int.reduceToNat] at ho20; rw [← Ny423.out] at ho20)); replace HO0 := zA (V_elder' (vu HO0.out) (R_base ho20) hb); replace HO416 := zA (V_elder' (vu HO416.out) (R_base ho20) hb); replace HO422 := zA (V_elder' (vu HO422.out) (R_base ho20) hb); have HO425 := zA (R_lower (R_newM (M := fun k_ => (w.heap.size ≤ k_)) ho20 (below_size bq) (fun k_ h_ => h_)) (below_size bq)); replace HB := ze hb; clear hb ho20))
 go_loopg [37] k (fun kq v37 w' => ∃ (x7_1 : List Int) (x37_1 : Int), v37 = .int .i64 x37_1 ∧ Aside0 (limbs_Shr.l0 kq y418 (decide (t417 < a1)) x7_1 (Int.tmod a1 64) y418 (y418.length : Int) x37_1 = some (r1, r2)) ∧ Aside0 (kq ≤ k) ∧ Aside0 (Kd.V (Kd.int .u64) 26 w' w.heap.size (fun k_ => (P0_ k_ ∨ w.heap.size ≤ k_) ∧ some k_ ≠ (v424 : Value).ownBlock) (.slice A18 y418.length c18) y418) ∧ Aside0 (Kd.R (Kd.int .u64) 26 w' w.heap.size (fun k_ => (w.heap.size ≤ k_)) v424 x7_1) ∧ Aside0 (Kd.V (Kd.int .u64) 26 w' w.heap.size (fun k_ => (P0_ k_ ∨ w.heap.size ≤ k_) ∧ some k_ ≠ (v424 : Value).ownBlock) (.slice A18 y418.length c18) y418) ∧ Aside0 (Below w.heap.size w w'))
 case atStart => exact ⟨(y423), (0), zi, H', ⟨Nat.le_refl _⟩, ⟨vu HO422.out⟩, ⟨ru (R_mono HO425.out (fun _ hk => hk.1))⟩, ⟨vu HO422.out⟩, ⟨bq⟩⟩
 case round =>
  clear H'
  try clear c1
  try clear c4
  try clear c4b0
  try clear c4b1
  try clear c4b2
  try clear c8
  try clear c8b0
  try clear c12
  try clear c12b0
  try clear c12b1
  try clear c13
  try clear c13b0
  try clear c13b1
  try clear c14
  try clear c14b0
  try clear c14b1
  try clear c15
  try clear c15b0
  try clear c15b1
  try clear c18
  try clear q18
  try clear q018
  try clear q18
  obtain ⟨x7_1, x37_1, rfl, HA, HK1, HO_0, HO_7, HO_35, HB⟩ := hrel
  cases gk with
  | zero => exact absurd HA.out (by simp [limbs_Shr.l0])
  | succ k1 =>
   have H := HA.out
   clear HA
   simp only [limbs_Shr.l0] at H
   by_cases c21 : x37_1 < (y418.length : Int)
   ·rw [if_pos c21] at H
    have c21b0 := decide_eq_true c21
    clear c21
    replace H := dn H
    obtain ⟨c22, H⟩ := H
    have c22b0 := decide_eq_true c22
    clear c22
    replace H := dn H
    obtain ⟨c23, H⟩ := H
    have c23b0 := decide_eq_true c23
    clear c23
    obtain ⟨ji24, hji24⟩ : ∃ j_ : Int, (Int.tmod a1 64) = j_ := ⟨_, rfl⟩
    replace H : (if 0 ≤ (ji24) then (if x37_1 < (x7_1.length : Int) then ((some (x7_1.set (x37_1 : Int).toNat (shr .u64 (rd y418 x37_1) (ji24)) : List Int)).bind fun y427 => (if (ji24) > 0 then (if (wrap64 (x37_1 + 1)) < (y418.length : Int) then (if 0 ≤ (wrap64 (x37_1 + 1)) then (if 0 ≤ (wrap64 (64 - (ji24))) then (limbs_Shr.l0 k1 y418 (decide (t417 < a1)) (y427.set (x37_1 : Int).toNat (Go.bits .or .u64 (rd y427 x37_1) (shl .u64 (rd y418 (wrap64 (x37_1 + 1))) (wrap64 (64 - (ji24)))))) (ji24) y418 (y418.length : Int) (wrap64 (x37_1 + 1))) else (none)) else (none)) else (limbs_Shr.l0 k1 y418 (decide (t417 < a1)) y427 (ji24) y418 (y418.length : Int) (wrap64 (x37_1 + 1)))) else (limbs_Shr.l0 k1 y418 (decide (t417 < a1)) y427 (ji24) y418 (y418.length : Int) (wrap64 (x37_1 + 1))))) else (none)) else (none)) = some (r1, r2) := zQ hji24 H
    replace H := dn H
    obtain ⟨c25, H⟩ := H
    have c25b0 := eq_true c25
    have c25b1 := decide_eq_true c25
    clear c25
    obtain ⟨ji26, hji26⟩ : ∃ j_ : Int, (shr .u64 (rd y418 x37_1) (ji24)) = j_ := ⟨_, rfl⟩
    replace H : (if x37_1 < (x7_1.length : Int) then ((some (x7_1.set (x37_1 : Int).toNat (ji26) : List Int)).bind fun y427 => (if (ji24) > 0 then (if (wrap64 (x37_1 + 1)) < (y418.length : Int) then (if 0 ≤ (wrap64 (x37_1 + 1)) then (if 0 ≤ (wrap64 (64 - (ji24))) then (limbs_Shr.l0 k1 y418 (decide (t417 < a1)) (y427.set (x37_1 : Int).toNat (Go.bits .or .u64 (rd y427 x37_1) (shl .u64 (rd y418 (wrap64 (x37_1 + 1))) (wrap64 (64 - (ji24)))))) (ji24) y418 (y418.length : Int) (wrap64 (x37_1 + 1))) else (none)) else (none)) else (limbs_Shr.l0 k1 y418 (decide (t417 < a1)) y427 (ji24) y418 (y418.length : Int) (wrap64 (x37_1 + 1)))) else (limbs_Shr.l0 k1 y418 (decide (t417 < a1)) y427 (ji24) y418 (y418.length : Int) (wrap64 (x37_1 + 1))))) else (none)) = some (r1, r2) := zQ hji26 H
    have hji26_ : ((rd y418 x37_1) / 2 ^ min (ji24).toNat 64) = ji26 := hji26
    have hji26z : (ji24) ≤ 64 → ((rd y418 x37_1) / 2 ^ (ji24).toNat) = ji26 := shr_small hji26
    replace H := dn H
    obtain ⟨c27, H⟩ := H
    have c27b0 := decide_eq_true c27
    clear c27
    obtain ⟨y427, hy427⟩ : ∃ y_ : List Int, y_ = (x7_1.set (x37_1 : Int).toNat (ji26)) := ⟨_, rfl⟩
    replace H : (if (ji24) > 0 then (if (wrap64 (x37_1 + 1)) < (y418.length : Int) then (if 0 ≤ (wrap64 (x37_1 + 1)) then (if 0 ≤ (wrap64 (64 - (ji24))) then (limbs_Shr.l0 k1 y418 (decide (t417 < a1)) (y427.set (x37_1 : Int).toNat (Go.bits .or .u64 (rd y427 x37_1) (shl .u64 (rd y418 (wrap64 (x37_1 + 1))) (wrap64 (64 - (ji24)))))) (ji24) y418 (y418.length : Int) (wrap64 (x37_1 + 1))) else (none)) else (none)) else (limbs_Shr.l0 k1 y418 (decide (t417 < a1)) y427 (ji24) y418 (y418.length : Int) (wrap64 (x37_1 + 1)))) else (limbs_Shr.l0 k1 y418 (decide (t417 < a1)) y427 (ji24) y418 (y418.length : Int) (wrap64 (x37_1 + 1)))) = some (r1, r2) := zR hy427 H
    have Ny427 := zA hy427
    clear hy427
    by_cases c29 : (ji24) > 0
    ·rw [if_pos c29] at H
     have c29b0 := decide_eq_true c29
     clear c29
     by_cases c30 : (wrap64 (x37_1 + 1)) < (y418.length : Int)
     ·rw [if_pos c30] at H
      have c30b0 := decide_eq_true c30
      clear c30
      obtain ⟨ji31, hji31⟩ : ∃ j_ : Int, (wrap64 (x37_1 + 1)) = j_ := ⟨_, rfl⟩
      replace H : (if 0 ≤ (ji31) then (if 0 ≤ (wrap64 (64 - (ji24))) then (limbs_Shr.l0 k1 y418 (decide (t417 < a1)) (y427.set (x37_1 : Int).toNat (Go.bits .or .u64 (rd y427 x37_1) (shl .u64 (rd y418 (ji31)) (wrap64 (64 - (ji24)))))) (ji24) y418 (y418.length : Int) ji31) else (none)) else (none)) = some (r1, r2) := zQ hji31 H
      (try rw [hji31] at c30b0)
      have hji31w : (IntKind.i64.wrap (x37_1 + 1)) = ji31 := (i64_w _).trans hji31
      replace H := dn H
      obtain ⟨c32, H⟩ := H
      have c32b0 := decide_eq_true c32
      clear c32
      obtain ⟨ji33, hji33⟩ : ∃ j_ : Int, (wrap64 (64 - (ji24))) = j_ := ⟨_, rfl⟩
      replace H : (if 0 ≤ (ji33) then (limbs_Shr.l0 k1 y418 (decide (t417 < a1)) (y427.set (x37_1 : Int).toNat (Go.bits .or .u64 (rd y427 x37_1) (shl .u64 (rd y418 (ji31)) (ji33)))) (ji24) y418 (y418.length : Int) ji31) else (none)) = some (r1, r2) := zQ hji33 H
      have hji33w : (IntKind.i64.wrap (64 - (ji24))) = ji33 := (i64_w _).trans hji33
      replace H := dn H
      obtain ⟨c34, H⟩ := H
      have c34b0 := eq_true c34
      have c34b1 := decide_eq_true c34
      clear c34
      obtain ⟨ji35, hji35⟩ : ∃ j_ : Int, (shl .u64 (rd y418 (ji31)) (ji33)) = j_ := ⟨_, rfl⟩
      replace H : (limbs_Shr.l0 k1 y418 (decide (t417 < a1)) (y427.set (x37_1 : Int).toNat (Go.bits .or .u64 (rd y427 x37_1) (ji35))) (ji24) y418 (y418.length : Int) ji31) = some (r1, r2) := zQ hji35 H
      have hji35_ : (IntKind.u64.wrap ((rd y418 (ji31)) * 2 ^ min (ji33).toNat 64)) = ji35 := hji35
      have hji35z : (ji33) ≤ 64 → (IntKind.u64.wrap ((rd y418 (ji31)) * 2 ^ (ji33).toNat)) = ji35 := shl_small hji35
      obtain ⟨y430, hy430⟩ : ∃ y_ : List Int, y_ = (y427.set (x37_1 : Int).toNat (Go.bits .or .u64 (rd y427 x37_1) (ji35))) := ⟨_, rfl⟩
      replace H : (limbs_Shr.l0 k1 y418 (decide (t417 < a1)) y430 (ji24) y418 (y418.length : Int) ji31) = some (r1, r2) := zR hy430 H
      have Ny430 := zA hy430
      clear hy430
      have H' := zA H
      clear H
      have p426 : 0 ≤ (x37_1 : Int) := od
      have q426 : x37_1 < (y418.length : Int) := od
      obtain ⟨ad426, e426, hx426_0⟩ := Kd.at_int (V_reads' HO_35.out).2.2 x37_1 p426 q426
      cases e426
      replace p426 := eq_true p426
      replace q426 := eq_true q426
      have p28 : 0 ≤ (x37_1 : Int) := od
      have q28 : (x37_1 : Int) < ((x7_1.length : Int) : Int) := od
      obtain ⟨go28, co28, eo28, gb28, gl28, cl28, HG28⟩ := R_form HO_7.out (by omega)
      (first | cases eo28 | (injection eo28 with ea_ en_ ec_; (first | subst ea_ | (injection ea_ with ea_; subst ea_)); subst ec_; clear en_))
      have GB28 := zA gb28
      have GG28 := zA HG28
      clear gb28 gl28 HG28
      obtain ⟨hx28_0, hf28_0⟩ := R_celln 0 HO_7.out (x37_1 : Int) p28 q28
      replace p28 := eq_true p28
      replace q28 := eq_true q28
      have HP37 := R_putg HO_7.out (x37_1 : Int) ji26
      try go_wp2_with (first | ((with_reducible refine gate_store (t := 26) (p := 47) rfl ?_); refine store_event (t := 26) (p := 47) (v := ?vo_w38) (w1 := (wr.setCell ⟨go28, (x37_1 : Int).toNat, none⟩ (.int .u64 ji26))) ?hg ?ho ?hn ?hr ?_; (case ho => rfl); (case hg => rfl); (case hn => rfl); (case hr => first | (go_simp; done) | (go_simp; rfl)); intro w38 hw; have hg : wr.grownBy w38 (some go28) := (by rw [hw]; exact HP37.2); have hp_ : Kd.R (Kd.int .u64) 26 w38 w.heap.size (fun k_ => (w.heap.size ≤ k_)) (.slice (some ⟨go28, 0, none⟩) x7_1.length co28) y427 := (by rw [hw, Ny427.out]; exact HP37.1); clear HP37; replace HO_0 := zA (V_afterv (v := (.slice (some ⟨go28, 0, none⟩) x7_1.length co28)) (v1 := (.slice (some ⟨go28, 0, none⟩) x7_1.length co28)) (ok := (fun k_ => (P0_ k_ ∨ w.heap.size ≤ k_))) (vu HO_0.out) hg (.inl rfl)); replace HO_7 := zA (hp_); replace HO_35 := zA (V_afterv (v := (.slice (some ⟨go28, 0, none⟩) x7_1.length co28)) (v1 := (.slice (some ⟨go28, 0, none⟩) x7_1.length co28)) (ok := (fun k_ => (P0_ k_ ∨ w.heap.size ≤ k_))) (vu HO_35.out) hg (.inl rfl)); replace HB := zA ((by rw [hw]; exact below_set (HB.out) GB28.out : Below w.heap.size w w38)); clear hg hw hp_))
      replace HO_0 := zA (V_drew HO_0.out)
      replace HO_7 := zA (R_drew HO_7.out)
      replace HO_35 := zA (V_drew HO_35.out)
      replace HB := zA (below_drew1 HB.out)
      have p428 : 0 ≤ (x37_1 : Int) := od
      have q428 : x37_1 < (y427.length : Int) := (by have h_ : (x37_1 : Int) < ((x7_1.length : Int) : Int) := od; first | (have e_ := (R_reads' HO_7.out).1; omega) | simpa only [Ny427.out, List.length_set] using h_)
      have ql428 : ((x37_1 : Int) < ((x7_1.length : Int) : Int)) = True := eq_true (od)
      obtain ⟨ad428, e428, hx428_0⟩ := Kd.at_int (R_reads' HO_7.out).2.2 x37_1 p428 q428
      obtain rfl : (⟨go28, 0, none⟩ : Addr) = ad428 := (by injection e428)
      (first | simp only [add_plain] at hx428_0 | simp only [add_at] at hx428_0 | simp only [Addr.add, Nat.zero_add] at hx428_0 | skip)
      replace p428 := eq_true p428
      replace q428 := eq_true q428
      have p429 : 0 ≤ ((ji31) : Int) := od
      have q429 : (ji31) < (y418.length : Int) := od
      obtain ⟨ad429, e429, hx429_0⟩ := Kd.at_int (V_reads' HO_0.out).2.2 (ji31) p429 q429
      obtain rfl : ad426 = ad429 := (by injection e429)
      replace p429 := eq_true p429
      replace q429 := eq_true q429
      have p36 : 0 ≤ (x37_1 : Int) := od
      have q36 : (x37_1 : Int) < ((x7_1.length : Int) : Int) := od
      obtain ⟨hx36_0, hf36_0⟩ := R_celln 0 HO_7.out (x37_1 : Int) p36 q36
      replace p36 := eq_true p36
      replace q36 := eq_true q36
      have HP40 := R_putn HO_7.out (x37_1 : Int) (Go.bits .or .u64 (rd y427 x37_1) (ji35))
      rw [← Ny430.out] at HP40
      have HQ40 := zA HP40
      clear HP40
      refine start_ (n := 15) (S := fun w' => w'.cell? ⟨go28, (x37_1).toNat, none⟩ = some (.int .u64 (rd y427 x37_1)) ∧ w'.cell? (ad426.add ((ji31)).toNat) = some (.int .u64 (rd y418 (ji31)))) (ds := [14]) #[false, false, false, false, false, false, false, false, false, false, false, false, false, false, false] (by kernel_rfl) rfl rfl ⟨hx428_0, hx429_0⟩ (fun hHeld => ?_); refine with_tabW limbs_Shr.tab15 limbs_Shr.bits15 (fun HT_ HW_ => ?_)
      generalize w38.drew = w39 at HO_0 HO_7 HO_35 HB HQ40 hf36_0 hx36_0 hx428_0 hx429_0 hHeld ⊢
      refine pure_ (i := 0) (N := some 57) (v := ?_) (a' := ?_) #[true, false, false, false, false, false, false, false, false, false, false, false, false, false, false] rfl rfl (any_of HT_.out (by kernel_rfl)) (fun _ _ _ h => h) (Or.inl ⟨by rfl, ?_⟩) ?_ ?_
      rotate_left
      ·intro w'
       go_simp
       with_reducible rfl
      rotate_left
      ·exact zq
      refine pure_ (i := 1) (N := some 58) (v := ?_) (a' := ?_) #[true, true, false, false, false, false, false, false, false, false, false, false, false, false, false] rfl rfl (any_of HT_.out (by kernel_rfl)) (fun _ _ _ h => h) (Or.inl ⟨by rfl, ?_⟩) ?_ ?_
      rotate_left
      ·intro w'
       go_simp
       with_reducible rfl
      rotate_left
      ·exact zq
      refine pure_ (i := 2) (N := some 59) (v := ?_) (a' := ?_) #[true, true, true, false, false, false, false, false, false, false, false, false, false, false, false] rfl rfl (any_of HT_.out (by kernel_rfl)) (fun _ _ _ h => h) (Or.inl ⟨by rfl, ?_⟩) ?_ ?_
      rotate_left
      ·intro w'
       go_simp
       with_reducible rfl
      rotate_left
      ·exact zq
      refine pure_ (i := 4) (N := some 61) (v := ?_) (a' := ?_) #[true, true, true, false, true, false, false, false, false, false, false, false, false, false, false] rfl rfl (any_of HT_.out (by kernel_rfl)) (fun _ _ _ h => h) (Or.inl ⟨by rfl, ?_⟩) ?_ ?_
      rotate_left
      ·intro w'
       go_simp
       with_reducible rfl
      rotate_left
      ·exact zq
      refine pure_ (i := 5) (N := some 62) (v := ?_) (a' := ?_) #[true, true, true, false, true, true, false, false, false, false, false, false, false, false, false] rfl rfl (any_of HT_.out (by kernel_rfl)) (fun _ _ _ h => h) (Or.inl ⟨by rfl, ?_⟩) ?_ ?_
      rotate_left
      ·intro w'
       go_simp
       with_reducible rfl
      rotate_left
      ·exact zq
      refine pure_ (i := 6) (N := some 63) (v := ?_) (a' := ?_) #[true, true, true, false, true, true, true, false, false, false, false, false, false, false, false] rfl rfl (any_of HT_.out (by kernel_rfl)) (fun _ _ _ h => h) (Or.inl ⟨by rfl, ?_⟩) ?_ ?_
      rotate_left
      ·intro w'
       go_simp
       with_reducible rfl
      rotate_left
      ·exact zq
      refine pure_ (i := 7) (N := some 64) (v := ?_) (a' := ?_) #[true, true, true, false, true, true, true, true, false, false, false, false, false, false, false] rfl rfl (any_of HT_.out (by kernel_rfl)) (fun _ _ _ h => h) (Or.inl ⟨by rfl, ?_⟩) ?_ ?_
      rotate_left
      ·intro w'
       go_simp
       with_reducible rfl
      rotate_left
      ·exact zq
      refine pure_ (i := 9) (N := some 66) (v := ?_) (a' := ?_) #[true, true, true, false, true, true, true, true, false, true, false, false, false, false, false] rfl rfl (any_of HT_.out (by kernel_rfl)) (fun _ _ _ h => h) (Or.inl ⟨by rfl, ?_⟩) ?_ ?_
      rotate_left
      ·intro w'
       go_simp
       with_reducible rfl
      rotate_left
      ·exact zq
      refine pure_ (i := 10) (N := some 67) (v := ?_) (a' := ?_) #[true, true, true, false, true, true, true, true, false, true, true, false, false, false, false] rfl rfl (any_of HT_.out (by kernel_rfl)) (fun _ _ _ h => h) (Or.inl ⟨by rfl, ?_⟩) ?_ ?_
      rotate_left
      ·intro w'
       go_simp
       with_reducible rfl
      rotate_left
      ·exact zq
      refine take_ (i := 3) (N := some 60) (v := ?_) (a' := ?_) #[true, true, true, true, true, true, true, true, false, true, true, false, false, false, false] rfl rfl (take_ofW HT_.out HW_.out (by kernel_rfl)) (fun _ _ _ h => h) (Or.inl ⟨by rfl, ?_⟩) hHeld ?_ ?_
      rotate_left
      ·rintro w' ⟨s0, s1⟩
       go_simp
       with_reducible rfl
      rotate_left
      ·exact zq
      refine take_ (i := 8) (N := some 65) (v := ?_) (a' := ?_) #[true, true, true, true, true, true, true, true, true, true, true, false, false, false, false] rfl rfl (take_ofW HT_.out HW_.out (by kernel_rfl)) (fun _ _ _ h => h) (Or.inl ⟨by rfl, ?_⟩) hHeld ?_ ?_
      rotate_left
      ·rintro w' ⟨s0, s1⟩
       go_simp
       with_reducible rfl
      rotate_left
      ·exact zq
      refine pure_ (i := 11) (N := some 68) (v := ?_) (a' := ?_) #[true, true, true, true, true, true, true, true, true, true, true, true, false, false, false] rfl rfl (any_of HT_.out (by kernel_rfl)) (fun _ _ _ h => h) (Or.inl ⟨by rfl, ?_⟩) ?_ ?_
      rotate_left
      ·intro w'
       go_simp
       with_reducible rfl
      rotate_left
      ·exact zq
      refine pure_ (i := 12) (N := some 69) (v := ?_) (a' := ?_) #[true, true, true, true, true, true, true, true, true, true, true, true, true, false, false] rfl rfl (any_of HT_.out (by kernel_rfl)) (fun _ _ _ h => h) (Or.inl ⟨by rfl, ?_⟩) ?_ ?_
      rotate_left
      ·intro w'
       go_simp
       with_reducible rfl
      rotate_left
      ·exact zq
      refine pure_ (i := 13) (N := some 70) (v := ?_) (a' := ?_) #[true, true, true, true, true, true, true, true, true, true, true, true, true, true, false] rfl rfl (any_of HT_.out (by kernel_rfl)) (fun _ _ _ h => h) (Or.inl ⟨by rfl, ?_⟩) ?_ ?_
      rotate_left
      ·intro w'
       go_simp
       with_reducible rfl
      rotate_left
      ·exact zq
      refine last_ (i := 14) (N := none) #[true, true, true, true, true, true, true, true, true, true, true, true, true, true, true] rfl rfl (one_of HT_.out (by kernel_rfl)) (by decide) (fun K hK => ?_)
      refine skip_ (w1 := ?_) (by rfl) rfl ?_ ?_
      rotate_left
      ·go_simp
       rfl
      refine hK.out _ _ ?_
      clear hK K
      refine done_ (done_of HT_.out (by kernel_rfl)) ?_
      try go_wp2
      (try simp only [← hji24, ← hji33])
      go_roundg k1
      case measure => have := HK1.out; omega
      case rel => exact ⟨(y430), (ji31), (by first | rfl | (simp; done) | (simp only [← hji31] <;> (first | rfl | simp)) | (simp [*]; done)), (by first | exact H' | (simp only [hji11, hji24, hji26, hji31, hji33, hji35]; exact H') | (simp only [hji11, hji24, hji26, hji31, hji33, hji35] at H' ⊢; exact H')), ⟨by have := HK1.out; omega⟩, ⟨vu (V_mono (V_far (p := ⟨go28, (x37_1 : Int).toNat, none⟩) (V_mono HO_0.out (fun k_ hk => (⟨hk, fun e_ => hk.2 (by rw [e_]; rfl)⟩ : _ ∧ k_ ≠ go28))) (fun _ hk => hk.2) (.int .u64 (Go.bits .or .u64 (rd y427 x37_1) (ji35)))) (fun _ hk => ⟨hk.1.1, hk.1.2⟩))⟩, ⟨ru HQ40.out⟩, ⟨vu (V_mono (V_far (p := ⟨go28, (x37_1 : Int).toNat, none⟩) (V_mono HO_35.out (fun k_ hk => (⟨hk, fun e_ => hk.2 (by rw [e_]; rfl)⟩ : _ ∧ k_ ≠ go28))) (fun _ hk => hk.2) (.int .u64 (Go.bits .or .u64 (rd y427 x37_1) (ji35)))) (fun _ hk => ⟨hk.1.1, hk.1.2⟩))⟩, ⟨by repeat (first | (with_reducible first | exact HB.out | apply below_alloc | apply pw_below_drewN | apply below_drew1 | refine below_set ?_ GB28.out) | exact HB.out)⟩⟩
     rw [if_neg c30] at H
     have c30b0 := decide_eq_false c30
     clear c30
     have H' := zA H
     clear H
     have p426 : 0 ≤ (x37_1 : Int) := od
     have q426 : x37_1 < (y418.length : Int) := od
     obtain ⟨ad426, e426, hx426_0⟩ := Kd.at_int (V_reads' HO_35.out).2.2 x37_1 p426 q426
     cases e426
     replace p426 := eq_true p426
     replace q426 := eq_true q426
     have p28 : 0 ≤ (x37_1 : Int) := od
     have q28 : (x37_1 : Int) < ((x7_1.length : Int) : Int) := od
     obtain ⟨go28, co28, eo28, gb28, gl28, cl28, HG28⟩ := R_form HO_7.out (by omega)
     (first | cases eo28 | (injection eo28 with ea_ en_ ec_; (first | subst ea_ | (injection ea_ with ea_; subst ea_)); subst ec_; clear en_))
     have GB28 := zA gb28
     have GG28 := zA HG28
     clear gb28 gl28 HG28
     obtain ⟨hx28_0, hf28_0⟩ := R_celln 0 HO_7.out (x37_1 : Int) p28 q28
     replace p28 := eq_true p28
     replace q28 := eq_true q28
     have HP41 := R_putg HO_7.out (x37_1 : Int) ji26
     go_wp2_with (first | ((with_reducible refine gate_store (t := 26) (p := 47) rfl ?_); refine store_event (t := 26) (p := 47) (v := ?vo_w42) (w1 := (wr.setCell ⟨go28, (x37_1 : Int).toNat, none⟩ (.int .u64 ji26))) ?hg ?ho ?hn ?hr ?_; (case ho => rfl); (case hg => rfl); (case hn => rfl); (case hr => first | (go_simp; done) | (go_simp; rfl)); intro w42 hw; have hg : wr.grownBy w42 (some go28) := (by rw [hw]; exact HP41.2); have hp_ : Kd.R (Kd.int .u64) 26 w42 w.heap.size (fun k_ => (w.heap.size ≤ k_)) (.slice (some ⟨go28, 0, none⟩) x7_1.length co28) y427 := (by rw [hw, Ny427.out]; exact HP41.1); clear HP41; replace HO_0 := zA (V_afterv (v := (.slice (some ⟨go28, 0, none⟩) x7_1.length co28)) (v1 := (.slice (some ⟨go28, 0, none⟩) x7_1.length co28)) (ok := (fun k_ => (P0_ k_ ∨ w.heap.size ≤ k_))) (vu HO_0.out) hg (.inl rfl)); replace HO_7 := zA (hp_); replace HO_35 := zA (V_afterv (v := (.slice (some ⟨go28, 0, none⟩) x7_1.length co28)) (v1 := (.slice (some ⟨go28, 0, none⟩) x7_1.length co28)) (ok := (fun k_ => (P0_ k_ ∨ w.heap.size ≤ k_))) (vu HO_35.out) hg (.inl rfl)); replace HB := zA ((by rw [hw]; exact below_set (HB.out) GB28.out : Below w.heap.size w w42)); clear hg hw hp_))
     (try simp only [← hji24])
     go_roundg k1
     case measure => have := HK1.out; omega
     case rel => exact ⟨(y427), (wrap64 (x37_1 + 1)), zi, (by first | exact H' | (simp only [hji11, hji24, hji26]; exact H') | (simp only [hji11, hji24, hji26] at H' ⊢; exact H')), ⟨by have := HK1.out; omega⟩, ⟨vu HO_0.out⟩, ⟨ru HO_7.out⟩, ⟨vu HO_35.out⟩, ⟨bq⟩⟩
    rw [if_neg c29] at H
    have c29b0 := decide_eq_false c29
    clear c29
    have H' := zA H
    clear H
    have p426 : 0 ≤ (x37_1 : Int) := od
    have q426 : x37_1 < (y418.length : Int) := od
    obtain ⟨ad426, e426, hx426_0⟩ := Kd.at_int (V_reads' HO_35.out).2.2 x37_1 p426 q426
    cases e426
    replace p426 := eq_true p426
    replace q426 := eq_true q426
    have p28 : 0 ≤ (x37_1 : Int) := od
    have q28 : (x37_1 : Int) < ((x7_1.length : Int) : Int) := od
    obtain ⟨go28, co28, eo28, gb28, gl28, cl28, HG28⟩ := R_form HO_7.out (by omega)
    (first | cases eo28 | (injection eo28 with ea_ en_ ec_; (first | subst ea_ | (injection ea_ with ea_; subst ea_)); subst ec_; clear en_))
    have GB28 := zA gb28
    have GG28 := zA HG28
    clear gb28 gl28 HG28
    obtain ⟨hx28_0, hf28_0⟩ := R_celln 0 HO_7.out (x37_1 : Int) p28 q28
    replace p28 := eq_true p28
    replace q28 := eq_true q28
    have HP43 := R_putg HO_7.out (x37_1 : Int) ji26
    go_wp2_with (first | ((with_reducible refine gate_store (t := 26) (p := 47) rfl ?_); refine store_event (t := 26) (p := 47) (v := ?vo_w44) (w1 := (wr.setCell ⟨go28, (x37_1 : Int).toNat, none⟩ (.int .u64 ji26))) ?hg ?ho ?hn ?hr ?_; (case ho => rfl); (case hg => rfl); (case hn => rfl); (case hr => first | (go_simp; done) | (go_simp; rfl)); intro w44 hw; have hg : wr.grownBy w44 (some go28) := (by rw [hw]; exact HP43.2); have hp_ : Kd.R (Kd.int .u64) 26 w44 w.heap.size (fun k_ => (w.heap.size ≤ k_)) (.slice (some ⟨go28, 0, none⟩) x7_1.length co28) y427 := (by rw [hw, Ny427.out]; exact HP43.1); clear HP43; replace HO_0 := zA (V_afterv (v := (.slice (some ⟨go28, 0, none⟩) x7_1.length co28)) (v1 := (.slice (some ⟨go28, 0, none⟩) x7_1.length co28)) (ok := (fun k_ => (P0_ k_ ∨ w.heap.size ≤ k_))) (vu HO_0.out) hg (.inl rfl)); replace HO_7 := zA (hp_); replace HO_35 := zA (V_afterv (v := (.slice (some ⟨go28, 0, none⟩) x7_1.length co28)) (v1 := (.slice (some ⟨go28, 0, none⟩) x7_1.length co28)) (ok := (fun k_ => (P0_ k_ ∨ w.heap.size ≤ k_))) (vu HO_35.out) hg (.inl rfl)); replace HB := zA ((by rw [hw]; exact below_set (HB.out) GB28.out : Below w.heap.size w w44)); clear hg hw hp_))
    (try simp only [← hji24])
    go_roundg k1
    case measure => have := HK1.out; omega
    case rel => exact ⟨(y427), (wrap64 (x37_1 + 1)), zi, (by first | exact H' | (simp only [hji11, hji24, hji26]; exact H') | (simp only [hji11, hji24, hji26] at H' ⊢; exact H')), ⟨by have := HK1.out; omega⟩, ⟨vu HO_0.out⟩, ⟨ru HO_7.out⟩, ⟨vu HO_35.out⟩, ⟨bq⟩⟩
   rw [if_neg c21] at H
   have c21b0 := decide_eq_false c21
   clear c21
   obtain ⟨t431, A45, H⟩ := zh H
   simp only [Option.some.injEq, Prod.mk.injEq] at H
   obtain ⟨rfl, rfl⟩ := H
   obtain ⟨Ao46, co46, eo46⟩ := R_slice HO_7.out
   subst eo46
   go_wp2_with (first | ((with_reducible refine zG 84 rfl ?_); refine zL (some 73) rfl rfl Tryd.func84 #[.slice Ao46 x7_1.length co46] rfl ?_; (with_reducible refine (limbs_Trim.calls k1 (fun k_ => some k_ = (.slice Ao46 x7_1.length co46 : Value).ownBlock) _ _ x7_1 t431 _ ?side1 A45.out).mono ?_); (case side1 => exact R_V (R_tight rfl (HO_7.out))); rintro e w47 ⟨v432, rfl, ho0, hb⟩; refine ⟨_, rfl, ?_⟩; replace HO_0 := zA (V_below (vu HO_0.out) hb); replace HO_35 := zA (V_below (vu HO_35.out) hb); have HO433 := zA (V_lower (V_mono (ok' := fun k_ => (P0_ k_ ∨ w.heap.size ≤ k_)) ho0 (fun k_ hk_ => Or.elim hk_ (fun hs_ => (.inr (((HO_7.out).1 k_ hs_.symm)))) (fun hn_ => (.inr (Nat.le_trans (below_size bq) hn_))))) (below_size bq)); replace HO_7 := zA (R_below (ru HO_7.out) hb); replace HB := ze hb; (try clear ho0)))
   go_ret2
   exact ⟨_, by first | rfl | (simp [errW_none, errW_some] <;> rfl) | (simp only [← hji11]; first | rfl | (simp [errW_none, errW_some] <;> rfl)) | (simp [*, errW_none, errW_some] <;> rfl), vu HO433.out, bq⟩
def raw_Form.f (k : Nat) (a0 : Bool) (l1 : List Int) (a2 : Int) : Option (Bool × List Int × Int) := (limbs_Trim.f k l1).bind fun t435 => (if (t435.length : Int) = 0 then (some (false, ([] : List Int), 0)) else ((limbs_Low.f k t435).bind fun t438 => ((limbs_Shr.f k t435 t438).bind fun bt439 => (some (a0, bt439.1, wrap64 (a2 + t438))))))
theorem raw_Form.mono : ∀ a0 a1 a2 k, LeO (raw_Form.f k a0 a1 a2) (raw_Form.f (k + 1) a0 a1 a2) := by
 intro a0 a1 a2 k
 unfold raw_Form.f
 repeat' first
   | (with_reducible exact limbs_Low.mono _ _)
   | (with_reducible exact limbs_Shr.mono _ _ _)
   | (with_reducible exact limbs_Trim.mono _ _)
   | (with_reducible exact LeO.refl _)
   | (with_reducible exact LeO.none _)
   | (with_reducible refine LeO.ite ?_ ?_)
   | (with_reducible refine LeO.bind ?_ (fun _ => ?_))
   | exact limbs_Low.mono _ _
   | exact limbs_Shr.mono _ _ _
   | exact limbs_Trim.mono _ _
   | exact LeO.none _
   | refine LeO.ite ?_ ?_
   | refine LeO.bind ?_ (fun _ => ?_)
set_option maxHeartbeats 8000000 in
set_option maxRecDepth 100000 in
theorem raw_Form.calls (k : Nat) (a0 : Bool) (P1_ : Nat → Prop) (A1 : Option Addr) (c1 : Nat) (l1 : List Int) (a2 : Int) (r1 : Bool) (r2 : List Int) (r3 : Int) (w : World) (hs1 : Kd.V (Kd.int .u64) 26 w w.heap.size (fun k_ => P1_ k_) (.slice A1 l1.length c1) l1) (hT : Laid w) (h : raw_Form.f k a0 l1 a2 = some (r1, r2, r3)) :
  Calls Tryd.prog 46 #[.bool a0, .slice A1 l1.length c1, .int .i64 a2] w fun e w' => ∃ v1_ : Value, e = .returned (.agg #[.bool r1, v1_, .int .i64 r3]) ∧ Kd.V (Kd.int .u64) 26 w' w.heap.size (fun k_ => (P1_ k_ ∨ w.heap.size ≤ k_)) v1_ r2 ∧ Below w.heap.size w w' := by
 have hu25 := Tryd.underlying25
 have HO1 := zA (show Kd.V (Kd.int .u64) 26 w w.heap.size (fun k_ => (P1_ k_ ∨ w.heap.size ≤ k_)) (.slice A1 l1.length c1) l1 from V_mono hs1 (fun k_ hk => .inl hk))
 have HB := zA (Below.refl w.heap.size w)
 have H : ((limbs_Trim.f k l1).bind fun t435 => (if (t435.length : Int) = 0 then (some (false, ([] : List Int), 0)) else ((limbs_Low.f k t435).bind fun t438 => ((limbs_Shr.f k t435 t438).bind fun bt439 => (some (a0, bt439.1, wrap64 (a2 + t438))))))) = some (r1, r2, r3) := h
 clear h
 obtain ⟨t435, A4, H⟩ := zh H
 by_cases c5 : (t435.length : Int) = 0
 ·rw [if_pos c5] at H
  have c5b0 := beq_iff_eq.mpr c5
  have c5b1 := bne_eq_false_iff_eq.mpr c5
  clear c5
  simp only [Option.some.injEq, Prod.mk.injEq] at H
  obtain ⟨rfl, rfl, rfl⟩ := H
  go_enter Tryd.func46, Tryd.ntmps46
  go_wp2_with (first | ((with_reducible refine zD 6 rfl ?_); refine zn (N := 6) (cs := #[.bool false, .slice none 0 0, .int .i64 0]) (t := 25) rfl rfl ?_; intro gb434 hg w6 hbox hb; replace HO1 := zA (V_below (V_elderB (vu HO1.out) gb434 (Nat.le_of_eq hg.symm)) hb); have BK434 := zA (hbox); have GW434 := zw hg; replace HB := ze hb; clear hb hbox hg) | ((with_reducible refine zG 84 rfl ?_); refine zL (some 11) rfl rfl Tryd.func84 #[.slice A1 l1.length c1] rfl ?_; (with_reducible refine (limbs_Trim.calls k (fun k_ => ((P1_ k_ ∨ w.heap.size ≤ k_) ∧ k_ ≠ gb434)) _ _ l1 t435 _ ?side1 A4.out).mono ?_); (case side1 => exact HO1.out); rintro e w7 ⟨v436, rfl, ho0, hb⟩; refine ⟨_, rfl, ?_⟩; replace HO1 := zA (V_below (vu HO1.out) hb); have HO437 := zA (V_lower (V_mono (ok' := fun k_ => (P1_ k_ ∨ w.heap.size ≤ k_) ∧ k_ ≠ gb434) ho0 (fun k_ hk_ => ⟨Or.elim hk_ (fun hs_ => hs_.1) (fun hn_ => (.inr (Nat.le_trans (below_size zs) hn_))), Or.elim hk_ (fun hs_ => hs_.2) (fun hn_ => (zj BK434 k_ hn_))⟩)) (below_size zs)); replace BK434 := zb BK434 hb; replace HB := zf hb; (try clear ho0); obtain ⟨Ao8, co8, eo8⟩ := V_slice HO437.out; subst eo8; obtain ⟨hcz9_0, hcz9_1, hcz9_2, hfz9_0, hfz9_1, hfz9_2⟩ := zc BK434))
  refine bodyPost_ret (results_cell_row rfl _ _ gb434 25 #[.bool false, .slice none 0 0, .int .i64 0] (0, 0) _ rfl (zy BK434) Tryd.underlying25 rfl (by kernel_rfl)) rfl ?_
  exact ⟨_, er, V_nil _ _ _ _ _, zs⟩
 rw [if_neg c5] at H
 have c5b0 := beq_eq_false_iff_ne.mpr c5
 have c5b1 := bne_iff_ne.mpr c5
 have c5b2 : ¬ (t435 = []) := fun h_ => c5 (by rw [h_]; rfl)
 obtain ⟨t438, A10, H⟩ := zh H
 obtain ⟨⟨t439, t442⟩, A11, H⟩ := zh H
 (try dsimp only at H)
 simp only [Option.some.injEq, Prod.mk.injEq] at H
 obtain ⟨rfl, rfl, rfl⟩ := H
 go_enter Tryd.func46, Tryd.ntmps46
 go_wp2_with (first | ((with_reducible refine zD 6 rfl ?_); refine zn (N := 6) (cs := #[.bool false, .slice none 0 0, .int .i64 0]) (t := 25) rfl rfl ?_; intro gb434 hg w12 hbox hb; replace HO1 := zA (V_below (V_elderB (vu HO1.out) gb434 (Nat.le_of_eq hg.symm)) hb); have BK434 := zA (hbox); have GW434 := zw hg; replace HB := ze hb; clear hb hbox hg) | ((with_reducible refine zG 84 rfl ?_); refine zL (some 11) rfl rfl Tryd.func84 #[.slice A1 l1.length c1] rfl ?_; (with_reducible refine (limbs_Trim.calls k (fun k_ => ((P1_ k_ ∨ w.heap.size ≤ k_) ∧ k_ ≠ gb434)) _ _ l1 t435 _ ?side1 A4.out).mono ?_); (case side1 => exact HO1.out); rintro e w13 ⟨v436, rfl, ho0, hb⟩; refine ⟨_, rfl, ?_⟩; replace HO1 := zA (V_below (vu HO1.out) hb); have HO437 := zA (V_lower (V_mono (ok' := fun k_ => (P1_ k_ ∨ w.heap.size ≤ k_) ∧ k_ ≠ gb434) ho0 (fun k_ hk_ => ⟨Or.elim hk_ (fun hs_ => hs_.1) (fun hn_ => (.inr (Nat.le_trans (below_size zs) hn_))), Or.elim hk_ (fun hs_ => hs_.2) (fun hn_ => (zj BK434 k_ hn_))⟩)) (below_size zs)); replace BK434 := zb BK434 hb; replace HB := zf hb; (try clear ho0); obtain ⟨Ao14, co14, eo14⟩ := V_slice HO437.out; subst eo14) | ((with_reducible refine zG 85 rfl ?_); refine zL (some 17) rfl rfl Tryd.func85 #[.slice Ao14 t435.length co14] rfl ?_; (with_reducible refine (limbs_Low.calls k _ _ t435 t438 _ ?side1 ?side2 (laid_below hT zs) A10.out).mono ?_); (case side1 => exact zk (V_reads' HO437.out).2.2); (case side2 => exact (V_reads' HO437.out).2.1); rintro e w' ⟨rfl, ⟨nd, rfl⟩⟩; refine ⟨_, rfl, ?_⟩; (try (rw [drewN_self w13]; generalize hq_ : World.drewN w13 _ = w13; have n0_ : Aside0 (Kd.V (Kd.int .u64) 26 w13 w.heap.size (fun k_ => (P1_ k_ ∨ w.heap.size ≤ k_) ∧ k_ ≠ gb434) (.slice A1 l1.length c1) l1) := ⟨by rw [← hq_]; exact (vu HO1.out)⟩; have n1_ : Aside0 (Kd.V (Kd.int .u64) 26 w13 w.heap.size (fun k_ => (P1_ k_ ∨ w.heap.size ≤ k_) ∧ k_ ≠ gb434) (.slice Ao14 t435.length co14) t435) := ⟨by rw [← hq_]; exact (vu HO437.out)⟩; have n2_ : Aside0 (w13.heap[gb434]? = some (.cells #[.bool false, .slice none 0 0, .int .i64 0] 25 (0, 0))) := ⟨by rw [← hq_]; exact (zu BK434)⟩; have n3_ : Aside0 (Below w.heap.size w w13) := ⟨by rw [← hq_]; exact zs⟩; clear HO1 HO437 BK434 HB hq_; have HO1 := n0_; have HO437 := n1_; have BK434 := n2_; have HB := n3_; clear n0_ n1_ n2_ n3_))) | ((with_reducible refine zG 86 rfl ?_); refine zL (some 21) rfl rfl Tryd.func86 #[.slice Ao14 t435.length co14, .int .i64 t438] rfl ?_; (with_reducible refine (limbs_Shr.calls k (fun k_ => ((P1_ k_ ∨ w.heap.size ≤ k_) ∧ k_ ≠ gb434)) _ _ t435 t438 t439 t442 _ ?side1 (laid_below hT zs) A11.out).mono ?_); (case side1 => exact HO437.out); rintro e w15 ⟨v440, rfl, ho0, hb⟩; refine ⟨_, rfl, ?_⟩; replace HO1 := zA (V_below (vu HO1.out) hb); replace HO437 := zA (V_below (vu HO437.out) hb); have HO441 := zA (V_lower (V_mono (ok' := fun k_ => (P1_ k_ ∨ w.heap.size ≤ k_) ∧ k_ ≠ gb434) ho0 (fun k_ hk_ => ⟨Or.elim hk_ (fun hs_ => hs_.1) (fun hn_ => (.inr (Nat.le_trans (below_size zs) hn_))), Or.elim hk_ (fun hs_ => hs_.2) (fun hn_ => (zj BK434 k_ hn_))⟩)) (below_size zs)); replace BK434 := zb BK434 hb; replace HB := zf hb; (try clear ho0); obtain ⟨Ao16, co16, eo16⟩ := V_slice HO441.out; subst eo16; obtain ⟨hcz17_0, hcz17_1, hcz17_2, hfz17_0, hfz17_1, hfz17_2⟩ := zc BK434))
 refine bodyPost_ret (results_cell_row rfl _ _ gb434 25 #[.bool a0, .slice Ao16 t439.length co16, .int .i64 (wrap64 (a2 + t438))] (0, 0) _ rfl (zy BK434) Tryd.underlying25 rfl (by kernel_rfl)) rfl ?_
 exact ⟨_, er, vu (V_mono (V_far (p := ⟨gb434, 2, none⟩) (V_far (p := ⟨gb434, 1, none⟩) (V_far (p := ⟨gb434, 0, none⟩) (V_mono HO441.out (fun k_ hk => (⟨hk, hk.2⟩ : _ ∧ k_ ≠ gb434))) (fun _ hk => hk.2) (.bool a0)) (fun _ hk => hk.2) (.slice Ao16 t439.length co16)) (fun _ hk => hk.2) (.int .i64 (wrap64 (a2 + t438)))) (fun _ hk => hk.1.1)), zs⟩
end Go.Proofs.YtnjfckadjklmfaaDoor.PAll
