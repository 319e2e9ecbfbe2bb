/- Printed functions, merged by a program of this session. -/
import Derived.Test.YtnjfckadjklmfaaDoorXRoundNearsP0
import Derived.Test.YtnjfckadjklmfaaDoorXRoundNearsSh
namespace Go.Proofs.YtnjfckadjklmfaaDoor.PAll
open Go.RowKit Go.Proofs.YtnjfckadjklmfaaDoorW.PrintWords Go.Proofs.YtnjfckadjklmfaaDoorW.PrintLast Go.Proofs.YtnjfckadjklmfaaDoorW.PrintMore Go.Proofs.YtnjfckadjklmfaaDoorW.PrintWords.Kd
attribute [local go_sem] max2_int min2_int max_two min_two max_three min_three max_four min_four   -- for this text's walks alone
set_option linter.unusedVariables false
set_option linter.unusedSimpArgs false
attribute [local go_sem] fld75_0 fld75_1 fld75_2 ext118 ext119
def limbs_Shl.l0 : Nat → Int → List Int → Int → List Int → Int → Int → Option (List Int)
 | 0, _, _, _, _, _, _ => none
 | k + 1, x1, x5, x6, x23, x24, x25 => if x25 < x24 then (if 0 ≤ x25 then (if x25 < (x23.length : Int) then (if 0 ≤ (wrap64 ((wrap64 (Int.tdiv x1 64)) + x25)) then (if (wrap64 ((wrap64 (Int.tdiv x1 64)) + x25)) < (x5.length : Int) then (if 0 ≤ x6 then ((some (x5.set ((wrap64 ((wrap64 (Int.tdiv x1 64)) + x25)) : Int).toNat (Go.bits .or .u64 (rd x5 (wrap64 ((wrap64 (Int.tdiv x1 64)) + x25))) (shl .u64 (rd x23 x25) x6)) : List Int)).bind fun y471 => (if x6 > 0 then (if 0 ≤ (wrap64 (64 - x6)) then (if 0 ≤ (wrap64 ((wrap64 ((wrap64 (Int.tdiv x1 64)) + x25)) + 1)) then (if (wrap64 ((wrap64 ((wrap64 (Int.tdiv x1 64)) + x25)) + 1)) < (x5.length : Int) then (limbs_Shl.l0 k x1 (y471.set ((wrap64 ((wrap64 ((wrap64 (Int.tdiv x1 64)) + x25)) + 1)) : Int).toNat (shr .u64 (rd x23 x25) (wrap64 (64 - x6)))) x6 x23 x24 (wrap64 (x25 + 1))) else (none)) else (none)) else (none)) else (limbs_Shl.l0 k x1 y471 x6 x23 x24 (wrap64 (x25 + 1))))) else (none)) else (none)) else (none)) else (none)) else (none)) else ((limbs_Trim.f k x5).bind fun t473 => (some t473))
def limbs_Shl.f (k : Nat) (l0 : List Int) (a1 : Int) : Option (List Int) := (limbs_Trim.f k l0).bind fun t463 => (if (t463.length : Int) = 0 then (some ([] : List Int)) else (if 0 ≤ (wrap64 ((wrap64 ((wrap64 (Int.tdiv a1 64)) + (t463.length : Int))) + 1)) then (if (wrap64 ((wrap64 ((wrap64 (Int.tdiv a1 64)) + (t463.length : Int))) + 1) : Int).toNat ≤ 35184372088832 then (limbs_Shl.l0 k a1 (List.replicate (wrap64 ((wrap64 ((wrap64 (Int.tdiv a1 64)) + (t463.length : Int))) + 1) : Int).toNat 0) (Int.tmod a1 64) t463 (t463.length : Int) 0) else (none)) else (none)))
theorem limbs_Shl.mono_l : ∀ k, (∀ y0 y1 y2 y3 y4 y5, LeO (limbs_Shl.l0 k y0 y1 y2 y3 y4 y5) (limbs_Shl.l0 (k + 1) y0 y1 y2 y3 y4 y5))
 | 0 => fun _ _ _ _ _ _ r h => by simp [limbs_Shl.l0] at h
 | k + 1 => by
  have ih0 := limbs_Shl.mono_l k
  intro y0 y1 y2 y3 y4 y5
  unfold limbs_Shl.l0
  repeat' first
  | (with_reducible exact ih0 _ _ _ _ _ _)
  | (with_reducible exact limbs_Trim.mono _ _)
  | (with_reducible exact LeO.refl _)
  | (with_reducible exact LeO.none _)
  | (with_reducible refine LeO.ite ?_ ?_)
  | (with_reducible refine LeO.bind ?_ (fun _ => ?_))
  | exact ih0 _ _ _ _ _ _
  | exact limbs_Trim.mono _ _
  | exact LeO.none _
  | refine LeO.ite ?_ ?_
  | refine LeO.bind ?_ (fun _ => ?_)
theorem limbs_Shl.mono : ∀ a0 a1 k, LeO (limbs_Shl.f k a0 a1) (limbs_Shl.f (k + 1) a0 a1) := by
 intro a0 a1 k
 have ih0 := limbs_Shl.mono_l k
 unfold limbs_Shl.f
 repeat' first
   | (with_reducible exact ih0 _ _ _ _ _ _)
   | (with_reducible exact limbs_Trim.mono _ _)
   | (with_reducible exact LeO.refl _)
   | (with_reducible exact LeO.none _)
   | (with_reducible refine LeO.ite ?_ ?_)
   | (with_reducible refine LeO.bind ?_ (fun _ => ?_))
   | exact ih0 _ _ _ _ _ _
   | exact limbs_Trim.mono _ _
   | exact LeO.none _
   | refine LeO.ite ?_ ?_
   | refine LeO.bind ?_ (fun _ => ?_)
def limbs_Shl.T9 : Bool × List (List Nat × List Nat) := (true, [([], []), ([], []), ([1], [1]), ([], []), ([2, 3], [2, 3]), ([0, 4], [0, 4]), ([5], [5]), ([], []), ([], []), ([7, 8], [7, 8]), ([6, 9], [6, 9]), ([0, 4, 0, 1, 2, 3, 4, 5, 6, 7, 8, 9, 10], [0, 4]), ([11, 10, 0, 1, 2, 3, 4, 5, 6, 7, 8, 9, 10], [10, 11])])
def limbs_Shl.B9 : List Nat := [0, 0, 2, 0, 14, 31, 63, 0, 0, 384, 1023, 2047, 4095]
theorem limbs_Shl.tab9 : rtab .any (opsOf Tryd.f117 9) = limbs_Shl.T9 := by kernel_rfl
theorem limbs_Shl.bits9 : waitsOk limbs_Shl.T9.2 limbs_Shl.B9 = true := by kernel_rfl
set_option maxHeartbeats 8000000 in
set_option maxRecDepth 100000 in
theorem limbs_Shl.calls (k : Nat) (P0_ : Nat → Prop) (A0 : Option Addr) (c0 : Nat) (l0 : List Int) (a1 : Int) (r : List Int) (w : World) (hs0 : Kd.V (Kd.int .u64) 26 w w.heap.size (fun k_ => P0_ k_) (.slice A0 l0.length c0) l0) (h : limbs_Shl.f k l0 a1 = some r) :
  Calls Tryd.prog 117 #[.slice A0 l0.length c0, .int .i64 a1] w fun e w' => ∃ v0_ : Value, e = .returned (v0_) ∧ Kd.V (Kd.int .u64) 26 w' w.heap.size (fun k_ => (P0_ k_ ∨ w.heap.size ≤ k_)) v0_ r ∧ Below w.heap.size w w' := by
 have HO0 := zA (show Kd.V (Kd.int .u64) 26 w w.heap.size (fun k_ => (P0_ k_ ∨ w.heap.size ≤ k_)) (.slice A0 l0.length c0) l0 from V_mono hs0 (fun k_ hk => .inl hk))
 have HB := zA (Below.refl w.heap.size w)
 have H : ((limbs_Trim.f k l0).bind fun t463 => (if (t463.length : Int) = 0 then (some ([] : List Int)) else (if 0 ≤ (wrap64 ((wrap64 ((wrap64 (Int.tdiv a1 64)) + (t463.length : Int))) + 1)) then (if (wrap64 ((wrap64 ((wrap64 (Int.tdiv a1 64)) + (t463.length : Int))) + 1) : Int).toNat ≤ 35184372088832 then (limbs_Shl.l0 k a1 (List.replicate (wrap64 ((wrap64 ((wrap64 (Int.tdiv a1 64)) + (t463.length : Int))) + 1) : Int).toNat 0) (Int.tmod a1 64) t463 (t463.length : Int) 0) else (none)) else (none)))) = some r := h
 clear h
 obtain ⟨t463, A3, H⟩ := zh H
 by_cases c4 : (t463.length : Int) = 0
 ·rw [if_pos c4] at H
  have c4b0 := beq_iff_eq.mpr c4
  have c4b1 := bne_eq_false_iff_eq.mpr c4
  clear c4
  obtain rfl := Option.some.inj H
  go_enter Tryd.func117, Tryd.ntmps117
  go_wp2_with (first | ((with_reducible refine zG 84 rfl ?_); refine zL (some 10) rfl rfl Tryd.func84 #[.slice A0 l0.length c0] rfl ?_; (with_reducible refine (limbs_Trim.calls k (fun k_ => (P0_ k_ ∨ w.heap.size ≤ k_)) _ _ l0 t463 _ ?side1 A3.out).mono ?_); (case side1 => exact HO0.out); rintro e w5 ⟨v464, rfl, ho0, hb⟩; refine ⟨_, rfl, ?_⟩; replace HO0 := zA (V_below (vu HO0.out) hb); have HO465 := zA (V_lower (V_mono (ok' := fun k_ => (P0_ k_ ∨ w.heap.size ≤ k_)) ho0 (fun k_ hk_ => Or.elim hk_ (fun hs_ => hs_) (fun hn_ => (.inr (Nat.le_trans (below_size bq) hn_))))) (below_size bq)); replace HB := ze hb; (try clear ho0); obtain ⟨Ao6, co6, eo6⟩ := V_slice HO465.out; subst eo6))
  go_ret
  exact ⟨_, er, V_nil _ _ _ _ _, bq⟩
 rw [if_neg c4] at H
 have c4b0 := beq_eq_false_iff_ne.mpr c4
 have c4b1 := bne_iff_ne.mpr c4
 have c4b2 : ¬ (t463 = []) := fun h_ => c4 (by rw [h_]; rfl)
 obtain ⟨ji7, hji7⟩ : ∃ j_ : Int, (wrap64 ((wrap64 ((wrap64 (Int.tdiv a1 64)) + (t463.length : Int))) + 1)) = j_ := ⟨_, rfl⟩
 replace H : (if 0 ≤ (ji7) then (if (ji7 : Int).toNat ≤ 35184372088832 then (limbs_Shl.l0 k a1 (List.replicate (ji7 : Int).toNat 0) (Int.tmod a1 64) t463 (t463.length : Int) 0) else (none)) else (none)) = some r := zQ hji7 H
 (try rw [hji7] at A3)
 have hji7w : (IntKind.i64.wrap ((wrap64 ((wrap64 (Int.tdiv a1 64)) + (t463.length : Int))) + 1)) = ji7 := (i64_w _).trans hji7
 replace H := dn H
 obtain ⟨c8, H⟩ := H
 have c8b0 := eq_true c8
 have c8b1 := decide_eq_true c8
 clear c8
 replace H := dn H
 obtain ⟨c9, H⟩ := H
 have c9b0 := eq_true c9
 have c9b1 := decide_eq_true c9
 clear c9
 obtain ⟨y466, hy466⟩ : ∃ y_ : List Int, y_ = (List.replicate (ji7 : Int).toNat 0) := ⟨_, rfl⟩
 replace H : (limbs_Shl.l0 k a1 y466 (Int.tmod a1 64) t463 (t463.length : Int) 0) = some r := zR hy466 H
 have Ny466 := zA hy466
 clear hy466
 have H' := zA H
 clear H
 go_enter Tryd.func117, Tryd.ntmps117
 go_wp2_with (first | ((with_reducible refine zG 84 rfl ?_); refine zL (some 10) rfl rfl Tryd.func84 #[.slice A0 l0.length c0] rfl ?_; (with_reducible refine (limbs_Trim.calls k (fun k_ => (P0_ k_ ∨ w.heap.size ≤ k_)) _ _ l0 t463 _ ?side1 A3.out).mono ?_); (case side1 => exact HO0.out); rintro e w10 ⟨v464, rfl, ho0, hb⟩; refine ⟨_, rfl, ?_⟩; replace HO0 := zA (V_below (vu HO0.out) hb); have HO465 := zA (V_lower (V_mono (ok' := fun k_ => (P0_ k_ ∨ w.heap.size ≤ k_)) ho0 (fun k_ hk_ => Or.elim hk_ (fun hs_ => hs_) (fun hn_ => (.inr (Nat.le_trans (below_size bq) hn_))))) (below_size bq)); replace HB := ze hb; (try clear ho0); obtain ⟨Ao11, co11, eo11⟩ := V_slice HO465.out; subst eo11) | ((with_reducible refine zD 20 rfl ?_); refine R_make (Kd.int .u64) _ 26 rfl (N := 20) rfl 22 _ _ rfl ji7 rfl rfl Tryd.underlying22 (.int .u64 0) 8 info26 rfl (by decide) (by omega) 0 (ok := fun _ => True) (okp := fun _ => True) rfl (fun _ hk => hk) trivial (od) (Nat.le_trans (Nat.mul_le_mul_right _ (od : ji7.toNat ≤ 35184372088832)) (by omega)) (Below.refl _ _) (Nat.le_refl _) ?_; intro v467 w12 ho13 hb hg_ hnew_; clear hg_ hnew_; (first | rw [← Ny466.out] at ho13 | (simp only [Int.reduceToNat] at ho13; rw [← Ny466.out] at ho13)); replace HO0 := zA (V_elder' (vu HO0.out) (R_base ho13) hb); replace HO465 := zA (V_elder' (vu HO465.out) (R_base ho13) hb); have HO468 := zA (R_lower (R_newM (M := fun k_ => (w.heap.size ≤ k_)) ho13 (below_size bq) (fun k_ h_ => h_)) (below_size bq)); replace HB := ze hb; clear hb ho13))
 go_loopg [25] k (fun kq v25 w' => ∃ (x5_1 : List Int) (x25_1 : Int), v25 = .int .i64 x25_1 ∧ Aside0 (limbs_Shl.l0 kq a1 x5_1 (Int.tmod a1 64) t463 (t463.length : Int) x25_1 = some r) ∧ Aside0 (kq ≤ k) ∧ Aside0 (Kd.R (Kd.int .u64) 26 w' w.heap.size (fun k_ => (w.heap.size ≤ k_)) v467 x5_1) ∧ Aside0 (Kd.V (Kd.int .u64) 26 w' w.heap.size (fun k_ => (P0_ k_ ∨ w.heap.size ≤ k_) ∧ some k_ ≠ (v467 : Value).ownBlock) (.slice Ao11 t463.length co11) t463) ∧ Aside0 (Below w.heap.size w w'))
 case atStart => exact ⟨(y466), (0), zi, H', ⟨Nat.le_refl _⟩, ⟨ru (R_mono HO468.out (fun _ hk => hk.1))⟩, ⟨vu HO465.out⟩, ⟨bq⟩⟩
 case round =>
  clear H'
  try clear c4
  try clear c4b0
  try clear c4b1
  try clear c4b2
  try clear c8
  try clear c8b0
  try clear c8b1
  try clear c9
  try clear c9b0
  try clear c9b1
  obtain ⟨x5_1, x25_1, rfl, HA, HK1, HO_5, HO_23, HB⟩ := hrel
  cases gk with
  | zero => exact absurd HA.out (by simp [limbs_Shl.l0])
  | succ k1 =>
   have H := HA.out
   clear HA
   simp only [limbs_Shl.l0] at H
   by_cases c14 : x25_1 < (t463.length : Int)
   ·rw [if_pos c14] at H
    have c14b0 := decide_eq_true c14
    clear c14
    replace H := dn H
    obtain ⟨c15, H⟩ := H
    have c15b0 := decide_eq_true c15
    clear c15
    replace H := dn H
    obtain ⟨c16, H⟩ := H
    have c16b0 := decide_eq_true c16
    clear c16
    obtain ⟨ji17, hji17⟩ : ∃ j_ : Int, (wrap64 ((wrap64 (Int.tdiv a1 64)) + x25_1)) = j_ := ⟨_, rfl⟩
    replace H : (if 0 ≤ (ji17) then (if (ji17) < (x5_1.length : Int) then (if 0 ≤ (Int.tmod a1 64) then ((some (x5_1.set ((ji17) : Int).toNat (Go.bits .or .u64 (rd x5_1 (ji17)) (shl .u64 (rd t463 x25_1) (Int.tmod a1 64))) : List Int)).bind fun y471 => (if (Int.tmod a1 64) > 0 then (if 0 ≤ (wrap64 (64 - (Int.tmod a1 64))) then (if 0 ≤ (wrap64 ((ji17) + 1)) then (if (wrap64 ((ji17) + 1)) < (x5_1.length : Int) then (limbs_Shl.l0 k1 a1 (y471.set ((wrap64 ((ji17) + 1)) : Int).toNat (shr .u64 (rd t463 x25_1) (wrap64 (64 - (Int.tmod a1 64))))) (Int.tmod a1 64) t463 (t463.length : Int) (wrap64 (x25_1 + 1))) else (none)) else (none)) else (none)) else (limbs_Shl.l0 k1 a1 y471 (Int.tmod a1 64) t463 (t463.length : Int) (wrap64 (x25_1 + 1))))) else (none)) else (none)) else (none)) = some r := zQ hji17 H
    have hji17w : (IntKind.i64.wrap ((wrap64 (Int.tdiv a1 64)) + x25_1)) = ji17 := (i64_w _).trans hji17
    replace H := dn H
    obtain ⟨c18, H⟩ := H
    have c18b0 := decide_eq_true c18
    clear c18
    replace H := dn H
    obtain ⟨c19, H⟩ := H
    have c19b0 := decide_eq_true c19
    clear c19
    obtain ⟨ji20, hji20⟩ : ∃ j_ : Int, (Int.tmod a1 64) = j_ := ⟨_, rfl⟩
    replace H : (if 0 ≤ (ji20) then ((some (x5_1.set ((ji17) : Int).toNat (Go.bits .or .u64 (rd x5_1 (ji17)) (shl .u64 (rd t463 x25_1) (ji20))) : List Int)).bind fun y471 => (if (ji20) > 0 then (if 0 ≤ (wrap64 (64 - (ji20))) then (if 0 ≤ (wrap64 ((ji17) + 1)) then (if (wrap64 ((ji17) + 1)) < (x5_1.length : Int) then (limbs_Shl.l0 k1 a1 (y471.set ((wrap64 ((ji17) + 1)) : Int).toNat (shr .u64 (rd t463 x25_1) (wrap64 (64 - (ji20))))) (ji20) t463 (t463.length : Int) (wrap64 (x25_1 + 1))) else (none)) else (none)) else (none)) else (limbs_Shl.l0 k1 a1 y471 (ji20) t463 (t463.length : Int) (wrap64 (x25_1 + 1))))) else (none)) = some r := zQ hji20 H
    replace H := dn H
    obtain ⟨c21, H⟩ := H
    have c21b0 := eq_true c21
    have c21b1 := decide_eq_true c21
    clear c21
    obtain ⟨ji22, hji22⟩ : ∃ j_ : Int, (shl .u64 (rd t463 x25_1) (ji20)) = j_ := ⟨_, rfl⟩
    replace H : ((some (x5_1.set ((ji17) : Int).toNat (Go.bits .or .u64 (rd x5_1 (ji17)) (ji22)) : List Int)).bind fun y471 => (if (ji20) > 0 then (if 0 ≤ (wrap64 (64 - (ji20))) then (if 0 ≤ (wrap64 ((ji17) + 1)) then (if (wrap64 ((ji17) + 1)) < (x5_1.length : Int) then (limbs_Shl.l0 k1 a1 (y471.set ((wrap64 ((ji17) + 1)) : Int).toNat (shr .u64 (rd t463 x25_1) (wrap64 (64 - (ji20))))) (ji20) t463 (t463.length : Int) (wrap64 (x25_1 + 1))) else (none)) else (none)) else (none)) else (limbs_Shl.l0 k1 a1 y471 (ji20) t463 (t463.length : Int) (wrap64 (x25_1 + 1))))) = some r := zQ hji22 H
    have hji22_ : (IntKind.u64.wrap ((rd t463 x25_1) * 2 ^ min (ji20).toNat 64)) = ji22 := hji22
    have hji22z : (ji20) ≤ 64 → (IntKind.u64.wrap ((rd t463 x25_1) * 2 ^ (ji20).toNat)) = ji22 := shl_small hji22
    obtain ⟨y471, hy471⟩ : ∃ y_ : List Int, y_ = (x5_1.set ((ji17) : Int).toNat (Go.bits .or .u64 (rd x5_1 (ji17)) (ji22))) := ⟨_, rfl⟩
    replace H : (if (ji20) > 0 then (if 0 ≤ (wrap64 (64 - (ji20))) then (if 0 ≤ (wrap64 ((ji17) + 1)) then (if (wrap64 ((ji17) + 1)) < (x5_1.length : Int) then (limbs_Shl.l0 k1 a1 (y471.set ((wrap64 ((ji17) + 1)) : Int).toNat (shr .u64 (rd t463 x25_1) (wrap64 (64 - (ji20))))) (ji20) t463 (t463.length : Int) (wrap64 (x25_1 + 1))) else (none)) else (none)) else (none)) else (limbs_Shl.l0 k1 a1 y471 (ji20) t463 (t463.length : Int) (wrap64 (x25_1 + 1)))) = some r := zR hy471 H
    have Ny471 := zA hy471
    clear hy471
    by_cases c24 : (ji20) > 0
    ·rw [if_pos c24] at H
     have c24b0 := decide_eq_true c24
     clear c24
     obtain ⟨ji25, hji25⟩ : ∃ j_ : Int, (wrap64 (64 - (ji20))) = j_ := ⟨_, rfl⟩
     replace H : (if 0 ≤ (ji25) then (if 0 ≤ (wrap64 ((ji17) + 1)) then (if (wrap64 ((ji17) + 1)) < (x5_1.length : Int) then (limbs_Shl.l0 k1 a1 (y471.set ((wrap64 ((ji17) + 1)) : Int).toNat (shr .u64 (rd t463 x25_1) (ji25))) (ji20) t463 (t463.length : Int) (wrap64 (x25_1 + 1))) else (none)) else (none)) else (none)) = some r := zQ hji25 H
     have hji25w : (IntKind.i64.wrap (64 - (ji20))) = ji25 := (i64_w _).trans hji25
     replace H := dn H
     obtain ⟨c26, H⟩ := H
     have c26b0 := eq_true c26
     have c26b1 := decide_eq_true c26
     clear c26
     obtain ⟨ji27, hji27⟩ : ∃ j_ : Int, (shr .u64 (rd t463 x25_1) (ji25)) = j_ := ⟨_, rfl⟩
     replace H : (if 0 ≤ (wrap64 ((ji17) + 1)) then (if (wrap64 ((ji17) + 1)) < (x5_1.length : Int) then (limbs_Shl.l0 k1 a1 (y471.set ((wrap64 ((ji17) + 1)) : Int).toNat (ji27)) (ji20) t463 (t463.length : Int) (wrap64 (x25_1 + 1))) else (none)) else (none)) = some r := zQ hji27 H
     have hji27_ : ((rd t463 x25_1) / 2 ^ min (ji25).toNat 64) = ji27 := hji27
     have hji27z : (ji25) ≤ 64 → ((rd t463 x25_1) / 2 ^ (ji25).toNat) = ji27 := shr_small hji27
     obtain ⟨ji28, hji28⟩ : ∃ j_ : Int, (wrap64 ((ji17) + 1)) = j_ := ⟨_, rfl⟩
     replace H : (if 0 ≤ (ji28) then (if (ji28) < (x5_1.length : Int) then (limbs_Shl.l0 k1 a1 (y471.set ((ji28) : Int).toNat (ji27)) (ji20) t463 (t463.length : Int) (wrap64 (x25_1 + 1))) else (none)) else (none)) = some r := zQ hji28 H
     have hji28w : (IntKind.i64.wrap ((ji17) + 1)) = ji28 := (i64_w _).trans hji28
     replace H := dn H
     obtain ⟨c29, H⟩ := H
     have c29b0 := decide_eq_true c29
     clear c29
     replace H := dn H
     obtain ⟨c30, H⟩ := H
     have c30b0 := decide_eq_true c30
     clear c30
     obtain ⟨y472, hy472⟩ : ∃ y_ : List Int, y_ = (y471.set ((ji28) : Int).toNat (ji27)) := ⟨_, rfl⟩
     replace H : (limbs_Shl.l0 k1 a1 y472 (ji20) t463 (t463.length : Int) (wrap64 (x25_1 + 1))) = some r := zR hy472 H
     have Ny472 := zA hy472
     clear hy472
     have H' := zA H
     clear H
     have p469 : 0 ≤ (x25_1 : Int) := od
     have q469 : x25_1 < (t463.length : Int) := od
     obtain ⟨ad469, e469, hx469_0⟩ := Kd.at_int (V_reads' HO_23.out).2.2 x25_1 p469 q469
     cases e469
     replace p469 := eq_true p469
     replace q469 := eq_true q469
     try go_wp2
     replace HO_5 := zA (R_drew HO_5.out)
     replace HO_23 := zA (V_drew HO_23.out)
     replace HB := zA (below_drew1 HB.out)
     obtain ⟨Ao33, co33, eo33⟩ := R_slice HO_5.out
     (first | subst eo33 | (injection eo33 with f1_ f2_ f3_; have f4_ := f1_.symm; have f5_ := f3_.symm; clear f1_ f2_ f3_; subst f4_; subst f5_))
     have p470 : 0 ≤ ((ji17) : Int) := od
     have q470 : (ji17) < (x5_1.length : Int) := od
     obtain ⟨ad470, e470, hx470_0⟩ := Kd.at_int (R_reads' HO_5.out).2.2 (ji17) p470 q470
     cases e470
     replace p470 := eq_true p470
     replace q470 := eq_true q470
     have p23 : 0 ≤ ((ji17) : Int) := od
     have q23 : ((ji17) : Int) < ((x5_1.length : Int) : Int) := od
     obtain ⟨go23, co23, eo23, gb23, gl23, cl23, HG23⟩ := R_form HO_5.out (by omega)
     (first | cases eo23 | (injection eo23 with ea_ en_ ec_; (first | subst ea_ | (injection ea_ with ea_; subst ea_)); subst ec_; clear en_))
     have GB23 := zA gb23
     have GG23 := zA HG23
     clear gb23 gl23 HG23
     (first | simp only [add_plain] at hx470_0 | skip)
     obtain ⟨hx23_0, hf23_0⟩ := R_celln 0 HO_5.out ((ji17) : Int) p23 q23
     replace p23 := eq_true p23
     replace q23 := eq_true q23
     have HP34 := R_putn HO_5.out ((ji17) : Int) (Go.bits .or .u64 (rd x5_1 (ji17)) (ji22))
     rw [← Ny471.out] at HP34
     have HQ34 := zA HP34
     clear HP34
     refine start_ (n := 13) (S := fun w' => w'.cell? ⟨go23, ((ji17)).toNat, none⟩ = some (.int .u64 (rd x5_1 (ji17)))) (ds := [12]) #[false, false, false, false, false, false, false, false, false, false, false, false, false] (by kernel_rfl) rfl rfl (hx470_0) (fun hHeld => ?_); refine with_tabW limbs_Shl.tab9 limbs_Shl.bits9 (fun HT_ HW_ => ?_)
     generalize wr.drew = w32 at HO_5 HO_23 HB GG23 HQ34 hf23_0 hx23_0 hx470_0 hHeld ⊢
     refine pure_ (i := 0) (N := some 30) (v := ?_) (a' := ?_) #[true, false, false, false, false, false, false, false, false, false, false, false, false] rfl rfl (any_of HT_.out (by kernel_rfl)) (fun _ _ _ h => h) (Or.inl ⟨by rfl, ?_⟩) ?_ ?_
     rotate_left
     ·intro w'
      go_simp
      with_reducible rfl
     rotate_left
     ·exact zq
     refine pure_ (i := 1) (N := some 31) (v := ?_) (a' := ?_) #[true, true, false, false, false, false, false, false, false, false, false, false, false] rfl rfl (any_of HT_.out (by kernel_rfl)) (fun _ _ _ h => h) (Or.inl ⟨by rfl, ?_⟩) ?_ ?_
     rotate_left
     ·intro w'
      go_simp
      with_reducible rfl
     rotate_left
     ·exact zq
     refine pure_ (i := 2) (N := some 32) (v := ?_) (a' := ?_) #[true, true, true, false, false, false, false, false, false, false, false, false, false] rfl rfl (any_of HT_.out (by kernel_rfl)) (fun _ _ _ h => h) (Or.inl ⟨by rfl, ?_⟩) ?_ ?_
     rotate_left
     ·intro w'
      go_simp
      with_reducible rfl
     rotate_left
     ·exact zq
     refine pure_ (i := 3) (N := some 33) (v := ?_) (a' := ?_) #[true, true, true, true, false, false, false, false, false, false, false, false, false] rfl rfl (any_of HT_.out (by kernel_rfl)) (fun _ _ _ h => h) (Or.inl ⟨by rfl, ?_⟩) ?_ ?_
     rotate_left
     ·intro w'
      go_simp
      with_reducible rfl
     rotate_left
     ·exact zq
     refine pure_ (i := 4) (N := some 34) (v := ?_) (a' := ?_) #[true, true, true, true, true, false, false, false, false, false, false, false, false] rfl rfl (any_of HT_.out (by kernel_rfl)) (fun _ _ _ h => h) (Or.inl ⟨by rfl, ?_⟩) ?_ ?_
     rotate_left
     ·intro w'
      go_simp
      with_reducible rfl
     rotate_left
     ·exact zq
     refine pure_ (i := 5) (N := some 35) (v := ?_) (a' := ?_) #[true, true, true, true, true, true, false, false, false, false, false, false, false] rfl rfl (any_of HT_.out (by kernel_rfl)) (fun _ _ _ h => h) (Or.inl ⟨by rfl, ?_⟩) ?_ ?_
     rotate_left
     ·intro w'
      go_simp
      with_reducible rfl
     rotate_left
     ·exact zq
     refine pure_ (i := 7) (N := some 37) (v := ?_) (a' := ?_) #[true, true, true, true, true, true, false, true, false, false, false, false, false] rfl rfl (any_of HT_.out (by kernel_rfl)) (fun _ _ _ h => h) (Or.inl ⟨by rfl, ?_⟩) ?_ ?_
     rotate_left
     ·intro w'
      go_simp
      with_reducible rfl
     rotate_left
     ·exact zq
     refine pure_ (i := 8) (N := some 38) (v := ?_) (a' := ?_) #[true, true, true, true, true, true, false, true, true, false, false, false, false] rfl rfl (any_of HT_.out (by kernel_rfl)) (fun _ _ _ h => h) (Or.inl ⟨by rfl, ?_⟩) ?_ ?_
     rotate_left
     ·intro w'
      go_simp
      with_reducible rfl
     rotate_left
     ·exact zq
     refine pure_ (i := 9) (N := some 39) (v := ?_) (a' := ?_) #[true, true, true, true, true, true, false, true, true, true, false, false, false] rfl rfl (any_of HT_.out (by kernel_rfl)) (fun _ _ _ h => h) (Or.inl ⟨by rfl, ?_⟩) ?_ ?_
     rotate_left
     ·intro w'
      go_simp
      with_reducible rfl
     rotate_left
     ·exact zq
     refine take_ (i := 6) (N := some 36) (v := ?_) (a' := ?_) #[true, true, true, true, true, true, true, true, true, true, false, false, false] rfl rfl (take_ofW HT_.out HW_.out (by kernel_rfl)) (fun _ _ _ h => h) (Or.inl ⟨by rfl, ?_⟩) hHeld ?_ ?_
     rotate_left
     ·intro w' s0
      go_simp
      with_reducible rfl
     rotate_left
     ·exact zq
     refine pure_ (i := 10) (N := some 40) (v := ?_) (a' := ?_) #[true, true, true, true, true, true, true, true, true, true, true, false, false] rfl rfl (any_of HT_.out (by kernel_rfl)) (fun _ _ _ h => h) (Or.inl ⟨by rfl, ?_⟩) ?_ ?_
     rotate_left
     ·intro w'
      go_simp
      with_reducible rfl
     rotate_left
     ·exact zq
     refine pure_ (i := 11) (N := some 41) (v := ?_) (a' := ?_) #[true, true, true, true, true, true, true, true, true, true, true, true, false] rfl rfl (any_of HT_.out (by kernel_rfl)) (fun _ _ _ h => h) (Or.inl ⟨by rfl, ?_⟩) ?_ ?_
     rotate_left
     ·intro w'
      go_simp
      with_reducible rfl
     rotate_left
     ·exact zq
     refine last_ (i := 12) (N := none) #[true, true, true, true, true, true, true, true, true, true, true, true, true] rfl rfl (one_of HT_.out (by kernel_rfl)) (by decide) (fun K hK => ?_)
     refine skip_ (w1 := ?_) (by rfl) rfl ?_ ?_
     rotate_left
     ·go_simp
      rfl
     refine hK.out _ _ ?_
     clear hK K
     refine done_ (done_of HT_.out (by kernel_rfl)) ?_
     have n0_ : Aside0 (Kd.R (Kd.int .u64) 26 (w32.setCell ⟨go23, ((ji17) : Int).toNat, none⟩ (.int .u64 (Go.bits .or .u64 (rd x5_1 (ji17)) (ji22)))) w.heap.size (fun k_ => (w.heap.size ≤ k_)) (.slice (some ⟨go23, 0, none⟩) x5_1.length co33) y471) := ⟨ru HQ34.out⟩
     have n1_ : Aside0 (Kd.V (Kd.int .u64) 26 (w32.setCell ⟨go23, ((ji17) : Int).toNat, none⟩ (.int .u64 (Go.bits .or .u64 (rd x5_1 (ji17)) (ji22)))) w.heap.size (fun k_ => (P0_ k_ ∨ w.heap.size ≤ k_) ∧ some k_ ≠ (.slice (some ⟨go23, 0, none⟩) x5_1.length co33 : Value).ownBlock) (.slice (some ad469) t463.length co11) t463) := ⟨vu (V_mono (V_far (p := ⟨go23, ((ji17) : Int).toNat, none⟩) (V_mono HO_23.out (fun k_ hk => (⟨hk, fun e_ => hk.2 (by rw [e_]; rfl)⟩ : _ ∧ k_ ≠ go23))) (fun _ hk => hk.2) (.int .u64 (Go.bits .or .u64 (rd x5_1 (ji17)) (ji22)))) (fun _ hk => ⟨hk.1.1, hk.1.2⟩))⟩
     have n2_ : Aside0 (Below w.heap.size w (w32.setCell ⟨go23, ((ji17) : Int).toNat, none⟩ (.int .u64 (Go.bits .or .u64 (rd x5_1 (ji17)) (ji22))))) := ⟨by repeat (first | (with_reducible first | exact HB.out | apply below_alloc | apply pw_below_drewN | apply below_drew1 | refine below_set ?_ GB23.out) | exact HB.out)⟩
     (try clear HO_5)
     (try clear HO_23)
     (try clear HB)
     generalize (w32.setCell ⟨go23, ((ji17) : Int).toNat, none⟩ (.int .u64 (Go.bits .or .u64 (rd x5_1 (ji17)) (ji22)))) = w35 at n0_ n1_ n2_ ⊢
     have HO_5 := n0_
     have HO_23 := n1_
     have HB := n2_
     clear n0_ n1_ n2_
     have p31 : 0 ≤ ((ji28) : Int) := od
     have q31 : ((ji28) : Int) < ((x5_1.length : Int) : Int) := od
     obtain ⟨hx31_0, hf31_0⟩ := R_celln 0 HO_5.out ((ji28) : Int) p31 q31
     replace p31 := eq_true p31
     replace q31 := eq_true q31
     obtain ⟨hy36_, hz36_⟩ := R_celln 0 HO_5.out ((ji28) : Int) (od) (od)
     have HP36 := R_putg HO_5.out ((ji28) : Int) ji27
     try go_wp2_with (first | ((with_reducible refine gate_store (t := 26) (p := 54) rfl ?_); refine store_event (t := 26) (p := 54) (v := ?vo_w37) (w1 := (w35.setCell ⟨go23, ((ji28) : Int).toNat, none⟩ (.int .u64 ji27))) ?hg ?ho ?hn ?hr ?_; (case ho => rfl); (case hg => rfl); (case hn => rfl); (case hr => first | (go_simp; done) | (go_simp; rfl)); intro w37 hw; have hg : w35.grownBy w37 (some go23) := (by rw [hw]; exact HP36.2); have hp_ : Kd.R (Kd.int .u64) 26 w37 w.heap.size (fun k_ => (w.heap.size ≤ k_)) (.slice (some ⟨go23, 0, none⟩) x5_1.length co33) y472 := (by rw [hw, Ny472.out]; exact HP36.1); clear HP36; replace HO_5 := zA (hp_); replace HO_23 := zA (V_afterv (v := (.slice (some ⟨go23, 0, none⟩) x5_1.length co33)) (v1 := (.slice (some ⟨go23, 0, none⟩) x5_1.length co33)) (ok := (fun k_ => (P0_ k_ ∨ w.heap.size ≤ k_))) (vu HO_23.out) hg (.inl rfl)); replace HB := zA ((by rw [hw]; exact below_set (HB.out) GB23.out : Below w.heap.size w w37)); clear hg hw hp_))
     (try simp only [← hji20, ← hji25])
     go_roundg k1
     case measure => have := HK1.out; omega
     case rel => exact ⟨(y472), (wrap64 (x25_1 + 1)), zi, (by first | exact H' | (simp only [hji7, hji17, hji20, hji22, hji25, hji27, hji28]; exact H') | (simp only [hji7, hji17, hji20, hji22, hji25, hji27, hji28] at H' ⊢; exact H')), ⟨by have := HK1.out; omega⟩, ⟨ru HO_5.out⟩, ⟨vu HO_23.out⟩, ⟨bq⟩⟩
    rw [if_neg c24] at H
    have c24b0 := decide_eq_false c24
    clear c24
    have H' := zA H
    clear H
    have p469 : 0 ≤ (x25_1 : Int) := od
    have q469 : x25_1 < (t463.length : Int) := od
    obtain ⟨ad469, e469, hx469_0⟩ := Kd.at_int (V_reads' HO_23.out).2.2 x25_1 p469 q469
    cases e469
    replace p469 := eq_true p469
    replace q469 := eq_true q469
    try go_wp2
    replace HO_5 := zA (R_drew HO_5.out)
    replace HO_23 := zA (V_drew HO_23.out)
    replace HB := zA (below_drew1 HB.out)
    obtain ⟨Ao39, co39, eo39⟩ := R_slice HO_5.out
    (first | subst eo39 | (injection eo39 with f1_ f2_ f3_; have f4_ := f1_.symm; have f5_ := f3_.symm; clear f1_ f2_ f3_; subst f4_; subst f5_))
    have p470 : 0 ≤ ((ji17) : Int) := od
    have q470 : (ji17) < (x5_1.length : Int) := od
    obtain ⟨ad470, e470, hx470_0⟩ := Kd.at_int (R_reads' HO_5.out).2.2 (ji17) p470 q470
    cases e470
    replace p470 := eq_true p470
    replace q470 := eq_true q470
    have p23 : 0 ≤ ((ji17) : Int) := od
    have q23 : ((ji17) : Int) < ((x5_1.length : Int) : Int) := od
    obtain ⟨go23, co23, eo23, gb23, gl23, cl23, HG23⟩ := R_form HO_5.out (by omega)
    (first | cases eo23 | (injection eo23 with ea_ en_ ec_; (first | subst ea_ | (injection ea_ with ea_; subst ea_)); subst ec_; clear en_))
    have GB23 := zA gb23
    have GG23 := zA HG23
    clear gb23 gl23 HG23
    (first | simp only [add_plain] at hx470_0 | skip)
    obtain ⟨hx23_0, hf23_0⟩ := R_celln 0 HO_5.out ((ji17) : Int) p23 q23
    replace p23 := eq_true p23
    replace q23 := eq_true q23
    have HP40 := R_putn HO_5.out ((ji17) : Int) (Go.bits .or .u64 (rd x5_1 (ji17)) (ji22))
    rw [← Ny471.out] at HP40
    have HQ40 := zA HP40
    clear HP40
    refine start_ (n := 13) (S := fun w' => w'.cell? ⟨go23, ((ji17)).toNat, none⟩ = some (.int .u64 (rd x5_1 (ji17)))) (ds := [12]) #[false, false, false, false, false, false, false, false, false, false, false, false, false] (by kernel_rfl) rfl rfl (hx470_0) (fun hHeld => ?_); refine with_tabW limbs_Shl.tab9 limbs_Shl.bits9 (fun HT_ HW_ => ?_)
    generalize wr.drew = w38 at HO_5 HO_23 HB GG23 HQ40 hf23_0 hx23_0 hx470_0 hHeld ⊢
    refine pure_ (i := 0) (N := some 30) (v := ?_) (a' := ?_) #[true, false, false, false, false, false, false, false, false, false, false, false, false] rfl rfl (any_of HT_.out (by kernel_rfl)) (fun _ _ _ h => h) (Or.inl ⟨by rfl, ?_⟩) ?_ ?_
    rotate_left
    ·intro w'
     go_simp
     with_reducible rfl
    rotate_left
    ·exact zq
    refine pure_ (i := 1) (N := some 31) (v := ?_) (a' := ?_) #[true, true, false, false, false, false, false, false, false, false, false, false, false] rfl rfl (any_of HT_.out (by kernel_rfl)) (fun _ _ _ h => h) (Or.inl ⟨by rfl, ?_⟩) ?_ ?_
    rotate_left
    ·intro w'
     go_simp
     with_reducible rfl
    rotate_left
    ·exact zq
    refine pure_ (i := 2) (N := some 32) (v := ?_) (a' := ?_) #[true, true, true, false, false, false, false, false, false, false, false, false, false] rfl rfl (any_of HT_.out (by kernel_rfl)) (fun _ _ _ h => h) (Or.inl ⟨by rfl, ?_⟩) ?_ ?_
    rotate_left
    ·intro w'
     go_simp
     with_reducible rfl
    rotate_left
    ·exact zq
    refine pure_ (i := 3) (N := some 33) (v := ?_) (a' := ?_) #[true, true, true, true, false, false, false, false, false, false, false, false, false] rfl rfl (any_of HT_.out (by kernel_rfl)) (fun _ _ _ h => h) (Or.inl ⟨by rfl, ?_⟩) ?_ ?_
    rotate_left
    ·intro w'
     go_simp
     with_reducible rfl
    rotate_left
    ·exact zq
    refine pure_ (i := 4) (N := some 34) (v := ?_) (a' := ?_) #[true, true, true, true, true, false, false, false, false, false, false, false, false] rfl rfl (any_of HT_.out (by kernel_rfl)) (fun _ _ _ h => h) (Or.inl ⟨by rfl, ?_⟩) ?_ ?_
    rotate_left
    ·intro w'
     go_simp
     with_reducible rfl
    rotate_left
    ·exact zq
    refine pure_ (i := 5) (N := some 35) (v := ?_) (a' := ?_) #[true, true, true, true, true, true, false, false, false, false, false, false, false] rfl rfl (any_of HT_.out (by kernel_rfl)) (fun _ _ _ h => h) (Or.inl ⟨by rfl, ?_⟩) ?_ ?_
    rotate_left
    ·intro w'
     go_simp
     with_reducible rfl
    rotate_left
    ·exact zq
    refine pure_ (i := 7) (N := some 37) (v := ?_) (a' := ?_) #[true, true, true, true, true, true, false, true, false, false, false, false, false] rfl rfl (any_of HT_.out (by kernel_rfl)) (fun _ _ _ h => h) (Or.inl ⟨by rfl, ?_⟩) ?_ ?_
    rotate_left
    ·intro w'
     go_simp
     with_reducible rfl
    rotate_left
    ·exact zq
    refine pure_ (i := 8) (N := some 38) (v := ?_) (a' := ?_) #[true, true, true, true, true, true, false, true, true, false, false, false, false] rfl rfl (any_of HT_.out (by kernel_rfl)) (fun _ _ _ h => h) (Or.inl ⟨by rfl, ?_⟩) ?_ ?_
    rotate_left
    ·intro w'
     go_simp
     with_reducible rfl
    rotate_left
    ·exact zq
    refine pure_ (i := 9) (N := some 39) (v := ?_) (a' := ?_) #[true, true, true, true, true, true, false, true, true, true, false, false, false] rfl rfl (any_of HT_.out (by kernel_rfl)) (fun _ _ _ h => h) (Or.inl ⟨by rfl, ?_⟩) ?_ ?_
    rotate_left
    ·intro w'
     go_simp
     with_reducible rfl
    rotate_left
    ·exact zq
    refine take_ (i := 6) (N := some 36) (v := ?_) (a' := ?_) #[true, true, true, true, true, true, true, true, true, true, false, false, false] rfl rfl (take_ofW HT_.out HW_.out (by kernel_rfl)) (fun _ _ _ h => h) (Or.inl ⟨by rfl, ?_⟩) hHeld ?_ ?_
    rotate_left
    ·intro w' s0
     go_simp
     with_reducible rfl
    rotate_left
    ·exact zq
    refine pure_ (i := 10) (N := some 40) (v := ?_) (a' := ?_) #[true, true, true, true, true, true, true, true, true, true, true, false, false] rfl rfl (any_of HT_.out (by kernel_rfl)) (fun _ _ _ h => h) (Or.inl ⟨by rfl, ?_⟩) ?_ ?_
    rotate_left
    ·intro w'
     go_simp
     with_reducible rfl
    rotate_left
    ·exact zq
    refine pure_ (i := 11) (N := some 41) (v := ?_) (a' := ?_) #[true, true, true, true, true, true, true, true, true, true, true, true, false] rfl rfl (any_of HT_.out (by kernel_rfl)) (fun _ _ _ h => h) (Or.inl ⟨by rfl, ?_⟩) ?_ ?_
    rotate_left
    ·intro w'
     go_simp
     with_reducible rfl
    rotate_left
    ·exact zq
    refine last_ (i := 12) (N := none) #[true, true, true, true, true, true, true, true, true, true, true, true, true] rfl rfl (one_of HT_.out (by kernel_rfl)) (by decide) (fun K hK => ?_)
    refine skip_ (w1 := ?_) (by rfl) rfl ?_ ?_
    rotate_left
    ·go_simp
     rfl
    refine hK.out _ _ ?_
    clear hK K
    refine done_ (done_of HT_.out (by kernel_rfl)) ?_
    try go_wp2
    (try simp only [← hji20])
    go_roundg k1
    case measure => have := HK1.out; omega
    case rel => exact ⟨(y471), (wrap64 (x25_1 + 1)), zi, (by first | exact H' | (simp only [hji7, hji17, hji20, hji22]; exact H') | (simp only [hji7, hji17, hji20, hji22] at H' ⊢; exact H')), ⟨by have := HK1.out; omega⟩, ⟨ru HQ40.out⟩, ⟨vu (V_mono (V_far (p := ⟨go23, ((ji17) : Int).toNat, none⟩) (V_mono HO_23.out (fun k_ hk => (⟨hk, fun e_ => hk.2 (by rw [e_]; rfl)⟩ : _ ∧ k_ ≠ go23))) (fun _ hk => hk.2) (.int .u64 (Go.bits .or .u64 (rd x5_1 (ji17)) (ji22)))) (fun _ hk => ⟨hk.1.1, hk.1.2⟩))⟩, ⟨by repeat (first | (with_reducible first | exact HB.out | apply below_alloc | apply pw_below_drewN | apply below_drew1 | refine below_set ?_ GB23.out) | exact HB.out)⟩⟩
   rw [if_neg c14] at H
   have c14b0 := decide_eq_false c14
   clear c14
   obtain ⟨t473, A41, H⟩ := zh H
   obtain rfl := Option.some.inj H
   obtain ⟨Ao42, co42, eo42⟩ := R_slice HO_5.out
   subst eo42
   go_wp2_with (first | ((with_reducible refine zG 84 rfl ?_); refine zL (some 57) rfl rfl Tryd.func84 #[.slice Ao42 x5_1.length co42] rfl ?_; (with_reducible refine (limbs_Trim.calls k1 (fun k_ => some k_ = (.slice Ao42 x5_1.length co42 : Value).ownBlock) _ _ x5_1 t473 _ ?side1 A41.out).mono ?_); (case side1 => exact R_V (R_tight rfl (HO_5.out))); rintro e w43 ⟨v474, rfl, ho0, hb⟩; refine ⟨_, rfl, ?_⟩; replace HO_23 := zA (V_below (vu HO_23.out) hb); have HO475 := zA (V_lower (V_mono (ok' := fun k_ => (P0_ k_ ∨ w.heap.size ≤ k_)) ho0 (fun k_ hk_ => Or.elim hk_ (fun hs_ => (.inr (((HO_5.out).1 k_ hs_.symm)))) (fun hn_ => (.inr (Nat.le_trans (below_size bq) hn_))))) (below_size bq)); replace HO_5 := zA (R_below (ru HO_5.out) hb); replace HB := ze hb; (try clear ho0)))
   go_ret
   exact ⟨_, by first | rfl | (simp [errW_none, errW_some] <;> rfl) | (simp only [← hji7]; first | rfl | (simp [errW_none, errW_some] <;> rfl)) | (simp [*, errW_none, errW_some] <;> rfl), vu HO475.out, bq⟩
def raw_amounts.f (k : Nat) (a0_0 : Bool) (l0_1 : List Int) (a0_2 : Int) (a1_0 : Bool) (l1_1 : List Int) (a1_2 : Int) : Option (List Int × List Int × Int) := (limbs_Shl.f k l0_1 (wrap64 (a0_2 - (mn a0_2 a1_2)))).bind fun t478 => ((limbs_Shl.f k l1_1 (wrap64 (a1_2 - (mn a0_2 a1_2)))).bind fun t481 => (some (t478, t481, mn a0_2 a1_2)))
theorem raw_amounts.mono : ∀ a0 a1 a2 a3 a4 a5 k, LeO (raw_amounts.f k a0 a1 a2 a3 a4 a5) (raw_amounts.f (k + 1) a0 a1 a2 a3 a4 a5) := by
 intro a0 a1 a2 a3 a4 a5 k
 unfold raw_amounts.f
 repeat' first
   | (with_reducible exact limbs_Shl.mono _ _ _)
   | (with_reducible exact LeO.refl _)
   | (with_reducible exact LeO.none _)
   | (with_reducible refine LeO.ite ?_ ?_)
   | (with_reducible refine LeO.bind ?_ (fun _ => ?_))
   | exact limbs_Shl.mono _ _ _
   | exact LeO.none _
   | refine LeO.ite ?_ ?_
   | refine LeO.bind ?_ (fun _ => ?_)
def raw_amounts.T2 : Bool × List (List Nat × List Nat) := (true, [([], []), ([0], [0]), ([], []), ([2], [2]), ([], []), ([3, 4], [3, 4]), ([1, 5], [1, 5]), ([], []), ([7], [7]), ([], []), ([9], [9]), ([], []), ([10, 11], [10, 11]), ([8, 12, 6], [8, 12]), ([], []), ([6, 13, 0, 1, 2, 3, 4, 5, 6], [6]), ([13, 15, 0, 1, 2, 3, 4, 5, 6, 7, 8, 9, 10, 11, 12, 13, 15], [13]), ([14, 16, 0, 1, 2, 3, 4, 5, 6, 7, 8, 9, 10, 11, 12, 13, 14, 15, 16], [14])])
def raw_amounts.B2 : List Nat := [0, 1, 0, 4, 0, 28, 63, 0, 128, 0, 512, 0, 3584, 8191, 0, 16383, 49151, 131071]
theorem raw_amounts.tab2 : rtab .any (opsOf Tryd.f90 2) = raw_amounts.T2 := by kernel_rfl
theorem raw_amounts.bits2 : waitsOk raw_amounts.T2.2 raw_amounts.B2 = true := by kernel_rfl
set_option maxHeartbeats 8000000 in
set_option maxRecDepth 100000 in
theorem raw_amounts.calls (k : Nat) (a0_0 : Bool) (P0_1_ : Nat → Prop) (A0_1 : Option Addr) (c0_1 : Nat) (l0_1 : List Int) (a0_2 : Int) (a1_0 : Bool) (P1_1_ : Nat → Prop) (A1_1 : Option Addr) (c1_1 : Nat) (l1_1 : List Int) (a1_2 : Int) (r1 : List Int) (r2 : List Int) (r3 : Int) (w : World) (hs0_1 : Kd.V (Kd.int .u64) 26 w w.heap.size (fun k_ => P0_1_ k_) (.slice A0_1 l0_1.length c0_1) l0_1) (hs1_1 : Kd.V (Kd.int .u64) 26 w w.heap.size (fun k_ => P1_1_ k_) (.slice A1_1 l1_1.length c1_1) l1_1) (h : raw_amounts.f k a0_0 l0_1 a0_2 a1_0 l1_1 a1_2 = some (r1, r2, r3)) :
  Calls Tryd.prog 90 #[.agg #[.bool a0_0, .slice A0_1 l0_1.length c0_1, .int .i64 a0_2], .agg #[.bool a1_0, .slice A1_1 l1_1.length c1_1, .int .i64 a1_2]] w fun e w' => ∃ v0_ v1_ : Value, e = .returned (.tuple #[v0_, v1_, .int .i64 r3]) ∧ Kd.V (Kd.int .u64) 26 w' w.heap.size (fun k_ => ((P0_1_ k_ ∨ P1_1_ k_) ∨ w.heap.size ≤ k_)) v0_ r1 ∧ Kd.V (Kd.int .u64) 26 w' w.heap.size (fun k_ => ((P0_1_ k_ ∨ P1_1_ k_) ∨ w.heap.size ≤ k_)) v1_ r2 ∧ Below w.heap.size w w' := by
 have hu25 := Tryd.underlying25
 have HO0_1 := zA (show Kd.V (Kd.int .u64) 26 w w.heap.size (fun k_ => ((P0_1_ k_ ∨ P1_1_ k_) ∨ w.heap.size ≤ k_)) (.slice A0_1 l0_1.length c0_1) l0_1 from V_mono hs0_1 (fun k_ hk => .inl (.inl hk)))
 have HO1_1 := zA (show Kd.V (Kd.int .u64) 26 w w.heap.size (fun k_ => ((P0_1_ k_ ∨ P1_1_ k_) ∨ w.heap.size ≤ k_)) (.slice A1_1 l1_1.length c1_1) l1_1 from V_mono hs1_1 (fun k_ hk => .inl (.inr hk)))
 have HB := zA (Below.refl w.heap.size w)
 have H : ((limbs_Shl.f k l0_1 (wrap64 (a0_2 - (mn a0_2 a1_2)))).bind fun t478 => ((limbs_Shl.f k l1_1 (wrap64 (a1_2 - (mn a0_2 a1_2)))).bind fun t481 => (some (t478, t481, mn a0_2 a1_2)))) = some (r1, r2, r3) := h
 clear h
 obtain ⟨ji3, hji3⟩ : ∃ j_ : Int, (mn a0_2 a1_2) = j_ := ⟨_, rfl⟩
 replace H : ((limbs_Shl.f k l0_1 (wrap64 (a0_2 - (ji3)))).bind fun t478 => ((limbs_Shl.f k l1_1 (wrap64 (a1_2 - (ji3)))).bind fun t481 => (some (t478, t481, ji3)))) = some (r1, r2, r3) := zQ hji3 H
 have hji3_ : (if a1_2 < a0_2 then a1_2 else a0_2) = ji3 := hji3
 obtain ⟨t478, A4, H⟩ := zh H
 obtain ⟨t481, A5, H⟩ := zh H
 simp only [Option.some.injEq, Prod.mk.injEq] at H
 obtain ⟨rfl, rfl, rfl⟩ := H
 go_enter Tryd.func90, Tryd.ntmps90
 try go_wp2_with (first | ((with_reducible refine zD 2 rfl ?_); refine zn (N := 2) (cs := #[.bool a0_0, .slice A0_1 l0_1.length c0_1, .int .i64 a0_2]) (t := 25) rfl rfl ?_; intro gb476 hg w6 hbox hb; replace HO0_1 := zA (V_below (V_elderB (vu HO0_1.out) gb476 (Nat.le_of_eq hg.symm)) hb); replace HO1_1 := zA (V_below (V_elderB (vu HO1_1.out) gb476 (Nat.le_of_eq hg.symm)) hb); have BK476 := zA (hbox); have GW476 := zw hg; replace HB := ze hb; clear hb hbox hg) | ((with_reducible refine zD 3 rfl ?_); refine zn (N := 3) (cs := #[.bool a1_0, .slice A1_1 l1_1.length c1_1, .int .i64 a1_2]) (t := 25) rfl rfl ?_; intro gb477 hg w7 hbox hb; replace HO0_1 := zA (V_below (V_elderB (vu HO0_1.out) gb477 (Nat.le_of_eq hg.symm)) hb); replace HO1_1 := zA (V_below (V_elderB (vu HO1_1.out) gb477 (Nat.le_of_eq hg.symm)) hb); have BK477 := zA (hbox); have GW477 := zx hg; replace HB := zf hb; have NB476_477 := zl BK476 hg; have NB477_476 := zg BK476 hg; replace BK476 := zb BK476 hb; clear hb hbox hg; have hnb8 := NB476_477.out; have hnc8 := NB477_476.out; obtain ⟨_, _, _, _, _, _⟩ := zc BK476; obtain ⟨_, _, _, _, _, _⟩ := zc BK477))
 replace HO0_1 := zA (V_drew HO0_1.out)
 replace HO1_1 := zA (V_drew HO1_1.out)
 replace BK476 := zA (blk_drew BK476.out)
 replace BK477 := zA (blk_drew BK477.out)
 replace HB := zA (below_drew1 HB.out)
 refine start_ (n := 18) (S := fun w' => z4 w' gb476 (.bool a0_0) (.slice A0_1 l0_1.length c0_1) (.int .i64 a0_2) (z3 w' gb477 (.bool a1_0) (.slice A1_1 l1_1.length c1_1) (.int .i64 a1_2))) (ds := []) #[false, false, false, false, false, false, false, false, false, false, false, false, false, false, false, false, false, false] (by kernel_rfl) rfl rfl (za BK476 (zz BK477)) (fun hHeld => ?_); refine with_tabW raw_amounts.tab2 raw_amounts.bits2 (fun HT_ HW_ => ?_)
 generalize w7.drew = w11 at HO0_1 HO1_1 BK476 BK477 HB hHeld ⊢
 refine pure_ (i := 0) (N := some 13) (v := ?_) (a' := ?_) #[true, false, false, false, false, false, false, false, false, false, false, false, false, false, false, false, false, false] rfl rfl (any_of HT_.out (by kernel_rfl)) (fun _ _ _ h => h) (Or.inl ⟨by rfl, ?_⟩) ?_ ?_
 rotate_left
 ·intro w'
  go_simp
  with_reducible rfl
 rotate_left
 ·exact zq
 refine pure_ (i := 2) (N := some 15) (v := ?_) (a' := ?_) #[true, false, true, false, false, false, false, false, false, false, false, false, false, false, false, false, false, false] rfl rfl (any_of HT_.out (by kernel_rfl)) (fun _ _ _ h => h) (Or.inl ⟨by rfl, ?_⟩) ?_ ?_
 rotate_left
 ·intro w'
  go_simp
  with_reducible rfl
 rotate_left
 ·exact zq
 refine pure_ (i := 4) (N := some 17) (v := ?_) (a' := ?_) #[true, false, true, false, true, false, false, false, false, false, false, false, false, false, false, false, false, false] rfl rfl (any_of HT_.out (by kernel_rfl)) (fun _ _ _ h => h) (Or.inl ⟨by rfl, ?_⟩) ?_ ?_
 rotate_left
 ·intro w'
  go_simp
  with_reducible rfl
 rotate_left
 ·exact zq
 refine pure_ (i := 7) (N := some 20) (v := ?_) (a' := ?_) #[true, false, true, false, true, false, false, true, false, false, false, false, false, false, false, false, false, false] rfl rfl (any_of HT_.out (by kernel_rfl)) (fun _ _ _ h => h) (Or.inl ⟨by rfl, ?_⟩) ?_ ?_
 rotate_left
 ·intro w'
  go_simp
  with_reducible rfl
 rotate_left
 ·exact zq
 refine pure_ (i := 9) (N := some 22) (v := ?_) (a' := ?_) #[true, false, true, false, true, false, false, true, false, true, false, false, false, false, false, false, false, false] rfl rfl (any_of HT_.out (by kernel_rfl)) (fun _ _ _ h => h) (Or.inl ⟨by rfl, ?_⟩) ?_ ?_
 rotate_left
 ·intro w'
  go_simp
  with_reducible rfl
 rotate_left
 ·exact zq
 refine pure_ (i := 11) (N := some 24) (v := ?_) (a' := ?_) #[true, false, true, false, true, false, false, true, false, true, false, true, false, false, false, false, false, false] rfl rfl (any_of HT_.out (by kernel_rfl)) (fun _ _ _ h => h) (Or.inl ⟨by rfl, ?_⟩) ?_ ?_
 rotate_left
 ·intro w'
  go_simp
  with_reducible rfl
 rotate_left
 ·exact zq
 refine pure_ (i := 14) (N := some 27) (v := ?_) (a' := ?_) #[true, false, true, false, true, false, false, true, false, true, false, true, false, false, true, false, false, false] rfl rfl (any_of HT_.out (by kernel_rfl)) (fun _ _ _ h => h) (Or.inl ⟨by rfl, ?_⟩) ?_ ?_
 rotate_left
 ·intro w'
  go_simp
  with_reducible rfl
 rotate_left
 ·exact zq
 refine take_ (i := 1) (N := some 14) (v := ?_) (a' := ?_) #[true, true, true, false, true, false, false, true, false, true, false, true, false, false, true, false, false, false] rfl rfl (take_ofW HT_.out HW_.out (by kernel_rfl)) (fun _ _ _ h => h) (Or.inl ⟨by rfl, ?_⟩) hHeld ?_ ?_
 rotate_left
 ·rintro w' ⟨s0, s1, s2, s3, s4, s5⟩
  go_simp
  with_reducible rfl
 rotate_left
 ·exact zq
 refine take_ (i := 3) (N := some 16) (v := ?_) (a' := ?_) #[true, true, true, true, true, false, false, true, false, true, false, true, false, false, true, false, false, false] rfl rfl (take_ofW HT_.out HW_.out (by kernel_rfl)) (fun _ _ _ h => h) (Or.inl ⟨by rfl, ?_⟩) hHeld ?_ ?_
 rotate_left
 ·rintro w' ⟨s0, s1, s2, s3, s4, s5⟩
  go_simp
  with_reducible rfl
 rotate_left
 ·exact zq
 refine pure_ (i := 5) (N := some 18) (v := ?_) (a' := ?_) #[true, true, true, true, true, true, false, true, false, true, false, true, false, false, true, false, false, false] rfl rfl (any_of HT_.out (by kernel_rfl)) (fun _ _ _ h => h) (Or.inl ⟨by rfl, ?_⟩) ?_ ?_
 rotate_left
 ·intro w'
  go_simp
  with_reducible rfl
 rotate_left
 ·exact zq
 refine take_ (i := 8) (N := some 21) (v := ?_) (a' := ?_) #[true, true, true, true, true, true, false, true, true, true, false, true, false, false, true, false, false, false] rfl rfl (take_ofW HT_.out HW_.out (by kernel_rfl)) (fun _ _ _ h => h) (Or.inl ⟨by rfl, ?_⟩) hHeld ?_ ?_
 rotate_left
 ·rintro w' ⟨s0, s1, s2, s3, s4, s5⟩
  go_simp
  with_reducible rfl
 rotate_left
 ·exact zq
 refine take_ (i := 10) (N := some 23) (v := ?_) (a' := ?_) #[true, true, true, true, true, true, false, true, true, true, true, true, false, false, true, false, false, false] rfl rfl (take_ofW HT_.out HW_.out (by kernel_rfl)) (fun _ _ _ h => h) (Or.inl ⟨by rfl, ?_⟩) hHeld ?_ ?_
 rotate_left
 ·rintro w' ⟨s0, s1, s2, s3, s4, s5⟩
  go_simp
  with_reducible rfl
 rotate_left
 ·exact zq
 refine pure_ (i := 12) (N := some 25) (v := ?_) (a' := ?_) #[true, true, true, true, true, true, false, true, true, true, true, true, true, false, true, false, false, false] rfl rfl (any_of HT_.out (by kernel_rfl)) (fun _ _ _ h => h) (Or.inl ⟨by rfl, ?_⟩) ?_ ?_
 rotate_left
 ·intro w'
  go_simp
  with_reducible rfl
 rotate_left
 ·exact zq
 refine one_ (i := 6) (N := some 19) #[true, true, true, true, true, true, true, true, true, true, true, true, true, false, true, false, false, false] rfl rfl (one_of HT_.out (by kernel_rfl)) (by decide) (fun K hK => ?_)
 refine goes_ Tryd.func117 (by kernel_rfl) rfl #[.slice A0_1 l0_1.length c0_1, .int .i64 (wrap64 (a0_2 - (ji3)))] (by rfl) rfl rfl (by (try simp only [List.map_toArray, List.map_cons, List.map_nil]); first | done | (simp only [hji3]; rfl) | rfl | (simp only [List.length_drop, List.length_take]; rfl)) ?_
 with_reducible refine (limbs_Shl.calls k (fun k_ => ((((P0_1_ k_ ∨ P1_1_ k_) ∨ w.heap.size ≤ k_) ∧ k_ ≠ gb476) ∧ k_ ≠ gb477)) _ _ l0_1 (wrap64 (a0_2 - (ji3))) t478 _ ?side1 A4.out).mono ?_
 (case side1 => exact HO0_1.out)
 rintro e w12 ⟨v479, rfl, ho0, hb⟩
 refine ⟨_, rfl, ?_⟩
 replace HO0_1 := zA (V_below (vu HO0_1.out) hb)
 replace HO1_1 := zA (V_below (vu HO1_1.out) hb)
 have HO480 := zA (V_lower (V_mono (ok' := fun k_ => ((P0_1_ k_ ∨ P1_1_ k_) ∨ w.heap.size ≤ k_) ∧ k_ ≠ gb476 ∧ k_ ≠ gb477) ho0 (fun k_ hk_ => ⟨Or.elim hk_ (fun hs_ => hs_.1.1) (fun hn_ => (.inr (Nat.le_trans (below_size zs) hn_))), Or.elim hk_ (fun hs_ => hs_.1.2) (fun hn_ => (zj BK476 k_ hn_)), Or.elim hk_ (fun hs_ => hs_.2) (fun hn_ => (zj BK477 k_ hn_))⟩)) (below_size zs))
 replace BK476 := zb BK476 hb
 replace BK477 := zb BK477 hb
 replace HB := zf hb
 (try clear hb)
 (try clear hb2)
 (try clear hk)
 (try clear hi)
 (try clear ho0)
 refine hK.out _ _ (za BK476 (zz BK477)) (fun hHeld => ?_)
 clear hK K
 refine norm_ (a' := ?_) ?_ ?_
 rotate_left
 ·show Act.put _ (some 19) _ = _
  simp only [Act.put, List.setIfInBounds_toArray, List.set_cons_zero, List.set_cons_succ, i64_w, i32_w]
  rfl
 refine one_ (i := 13) (N := some 26) #[true, true, true, true, true, true, true, true, true, true, true, true, true, true, true, false, false, false] rfl rfl (one_of HT_.out (by kernel_rfl)) (by decide) (fun K hK => ?_)
 refine goes_ Tryd.func117 (by kernel_rfl) rfl #[.slice A1_1 l1_1.length c1_1, .int .i64 (wrap64 (a1_2 - (ji3)))] (by rfl) rfl rfl (by (try simp only [List.map_toArray, List.map_cons, List.map_nil]); first | done | (simp only [hji3]; rfl) | rfl | (simp only [List.length_drop, List.length_take]; rfl)) ?_
 with_reducible refine (limbs_Shl.calls k (fun k_ => ((((P0_1_ k_ ∨ P1_1_ k_) ∨ w.heap.size ≤ k_) ∧ k_ ≠ gb476) ∧ k_ ≠ gb477)) _ _ l1_1 (wrap64 (a1_2 - (ji3))) t481 _ ?side1 A5.out).mono ?_
 (case side1 => exact HO1_1.out)
 rintro e w13 ⟨v482, rfl, ho0, hb⟩
 refine ⟨_, rfl, ?_⟩
 replace HO0_1 := zA (V_below (vu HO0_1.out) hb)
 replace HO1_1 := zA (V_below (vu HO1_1.out) hb)
 replace HO480 := zA (V_below (vu HO480.out) hb)
 have HO483 := zA (V_lower (V_mono (ok' := fun k_ => ((P0_1_ k_ ∨ P1_1_ k_) ∨ w.heap.size ≤ k_) ∧ k_ ≠ gb476 ∧ k_ ≠ gb477) ho0 (fun k_ hk_ => ⟨Or.elim hk_ (fun hs_ => hs_.1.1) (fun hn_ => (.inr (Nat.le_trans (below_size zs) hn_))), Or.elim hk_ (fun hs_ => hs_.1.2) (fun hn_ => (zj BK476 k_ hn_)), Or.elim hk_ (fun hs_ => hs_.2) (fun hn_ => (zj BK477 k_ hn_))⟩)) (below_size zs))
 replace BK476 := zb BK476 hb
 replace BK477 := zb BK477 hb
 replace HB := zf hb
 (try clear hb)
 (try clear hb2)
 (try clear hk)
 (try clear hi)
 (try clear ho0)
 refine hK.out _ _ (za BK476 (zz BK477)) (fun hHeld => ?_)
 clear hK K
 refine norm_ (a' := ?_) ?_ ?_
 rotate_left
 ·show Act.put _ (some 26) _ = _
  simp only [Act.put, List.setIfInBounds_toArray, List.set_cons_zero, List.set_cons_succ, i64_w, i32_w]
  rfl
 refine pure_ (i := 15) (N := some 4) (v := ?_) (a' := ?_) #[true, true, true, true, true, true, true, true, true, true, true, true, true, true, true, true, false, false] rfl rfl (any_of HT_.out (by kernel_rfl)) (fun _ _ _ h => h) (Or.inl ⟨by rfl, ?_⟩) ?_ ?_
 rotate_left
 ·intro w'
  go_simp
  with_reducible rfl
 rotate_left
 ·exact zq
 refine pure_ (i := 16) (N := some 5) (v := ?_) (a' := ?_) #[true, true, true, true, true, true, true, true, true, true, true, true, true, true, true, true, true, false] rfl rfl (any_of HT_.out (by kernel_rfl)) (fun _ _ _ h => h) (Or.inl ⟨by rfl, ?_⟩) ?_ ?_
 rotate_left
 ·intro w'
  go_simp
  with_reducible rfl
 rotate_left
 ·exact zq
 refine pure_ (i := 17) (N := some 6) (v := ?_) (a' := ?_) #[true, true, true, true, true, true, true, true, true, true, true, true, true, true, true, true, true, true] rfl rfl (any_of HT_.out (by kernel_rfl)) (fun _ _ _ h => h) (Or.inl ⟨by rfl, ?_⟩) ?_ ?_
 rotate_left
 ·intro w'
  go_simp
  with_reducible rfl
 rotate_left
 ·exact zq
 refine done_ (done_of HT_.out (by kernel_rfl)) ?_
 try go_wp2
 go_ret3
 exact ⟨_, _, by first | rfl | (simp [errW_none, errW_some] <;> rfl) | (simp only [← hji3]; first | rfl | (simp [errW_none, errW_some] <;> rfl)) | (simp [*, errW_none, errW_some] <;> rfl), vu (V_mono HO480.out (fun _ hk => hk.1)), vu (V_mono HO483.out (fun _ hk => hk.1)), zs⟩
end Go.Proofs.YtnjfckadjklmfaaDoor.PAll
