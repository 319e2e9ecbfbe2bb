/- Printed functions, merged by a program of this session. -/
import Derived.Test.YtnjfckadjklmfaaDoorXRoundNearsP0
import Derived.Test.YtnjfckadjklmfaaDoorXRoundNearsP1
import Derived.Test.YtnjfckadjklmfaaDoorXRoundNearsSh
namespace Go.Proofs.YtnjfckadjklmfaaDoor.PAll
open Go.RowKit Go.Proofs.YtnjfckadjklmfaaDoorW.PrintWords Go.Proofs.YtnjfckadjklmfaaDoorW.PrintLast Go.Proofs.YtnjfckadjklmfaaDoorW.PrintMore Go.Proofs.YtnjfckadjklmfaaDoorW.PrintWords.Kd
attribute [local go_sem] max2_int min2_int max_two min_two max_three min_three max_four min_four   -- for this text's walks alone
set_option linter.unusedVariables false
set_option linter.unusedSimpArgs false
attribute [local go_sem] fld75_0 fld75_1 fld75_2 ext118 ext119
def nat_number_shl.l0 : Nat → Int → Int → List Int → List Int → Int → Int → Option (List Int)
 | 0, _, _, _, _, _, _ => none
 | k + 1, x5, x6, x7, x23, x24, x25 => if x25 < x24 then (if 0 ≤ x25 then (if x25 < (x23.length : Int) then (if 0 ≤ (wrap64 (x25 + x5)) then (if (wrap64 (x25 + x5)) < (x7.length : Int) then (if 0 ≤ x6 then ((some (x7.set ((wrap64 (x25 + x5)) : Int).toNat (Go.bits .or .u64 (rd x7 (wrap64 (x25 + x5))) (shl .u64 (rd x23 x25) x6)) : List Int)).bind fun y166 => (if x6 > 0 then (if 0 ≤ (wrap64 (64 - x6)) then (if 0 ≤ (wrap64 ((wrap64 (x25 + x5)) + 1)) then (if (wrap64 ((wrap64 (x25 + x5)) + 1)) < (x7.length : Int) then (nat_number_shl.l0 k x5 x6 (y166.set ((wrap64 ((wrap64 (x25 + x5)) + 1)) : Int).toNat (shr .u64 (rd x23 x25) (wrap64 (64 - x6)))) x23 x24 (wrap64 (x25 + 1))) else (none)) else (none)) else (none)) else (nat_number_shl.l0 k x5 x6 y166 x23 x24 (wrap64 (x25 + 1))))) else (none)) else (none)) else (none)) else (none)) else (none)) else ((nat_norm.f k x7).bind fun t168 => (some t168))
def nat_number_shl.f (k : Nat) (l0 : List Int) (a1 : Int) : Option (List Int) := if (l0.length : Int) = 0 then (some ([] : List Int)) else (if 0 ≤ (wrap64 ((wrap64 ((l0.length : Int) + (wrap64 (Int.tdiv a1 64)))) + 1)) then (if (wrap64 ((wrap64 ((l0.length : Int) + (wrap64 (Int.tdiv a1 64)))) + 1) : Int).toNat ≤ 35184372088832 then (nat_number_shl.l0 k (wrap64 (Int.tdiv a1 64)) (Int.tmod a1 64) (List.replicate (wrap64 ((wrap64 ((l0.length : Int) + (wrap64 (Int.tdiv a1 64)))) + 1) : Int).toNat 0) l0 (l0.length : Int) 0) else (none)) else (none))
theorem nat_number_shl.mono_l : ∀ k, (∀ y0 y1 y2 y3 y4 y5, LeO (nat_number_shl.l0 k y0 y1 y2 y3 y4 y5) (nat_number_shl.l0 (k + 1) y0 y1 y2 y3 y4 y5))
 | 0 => fun _ _ _ _ _ _ r h => by simp [nat_number_shl.l0] at h
 | k + 1 => by
  have ih0 := nat_number_shl.mono_l k
  intro y0 y1 y2 y3 y4 y5
  unfold nat_number_shl.l0
  repeat' first
  | (with_reducible exact ih0 _ _ _ _ _ _)
  | (with_reducible exact nat_norm.mono _ _)
  | (with_reducible exact LeO.refl _)
  | (with_reducible exact LeO.none _)
  | (with_reducible refine LeO.ite ?_ ?_)
  | (with_reducible refine LeO.bind ?_ (fun _ => ?_))
  | exact ih0 _ _ _ _ _ _
  | exact nat_norm.mono _ _
  | exact LeO.none _
  | refine LeO.ite ?_ ?_
  | refine LeO.bind ?_ (fun _ => ?_)
theorem nat_number_shl.mono : ∀ a0 a1 k, LeO (nat_number_shl.f k a0 a1) (nat_number_shl.f (k + 1) a0 a1) := by
 intro a0 a1 k
 have ih0 := nat_number_shl.mono_l k
 unfold nat_number_shl.f
 repeat' first
   | (with_reducible exact ih0 _ _ _ _ _ _)
   | (with_reducible exact nat_norm.mono _ _)
   | (with_reducible exact LeO.refl _)
   | (with_reducible exact LeO.none _)
   | (with_reducible refine LeO.ite ?_ ?_)
   | (with_reducible refine LeO.bind ?_ (fun _ => ?_))
   | exact ih0 _ _ _ _ _ _
   | exact nat_norm.mono _ _
   | exact LeO.none _
   | refine LeO.ite ?_ ?_
   | refine LeO.bind ?_ (fun _ => ?_)
def nat_number_shl.T8 : Bool × List (List Nat × List Nat) := (true, [([], []), ([], []), ([], []), ([1, 2], [1, 2]), ([0, 3], [0, 3]), ([4], [4]), ([], []), ([], []), ([6, 7], [6, 7]), ([5, 8], [5, 8]), ([0, 3, 0, 1, 2, 3, 4, 5, 6, 7, 8, 9], [0, 3]), ([10, 9, 0, 1, 2, 3, 4, 5, 6, 7, 8, 9], [9, 10])])
def nat_number_shl.B8 : List Nat := [0, 0, 0, 6, 15, 31, 0, 0, 192, 511, 1023, 2047]
theorem nat_number_shl.tab8 : rtab .any (opsOf Tryd.f123 8) = nat_number_shl.T8 := by kernel_rfl
theorem nat_number_shl.bits8 : waitsOk nat_number_shl.T8.2 nat_number_shl.B8 = true := by kernel_rfl
set_option maxHeartbeats 8000000 in
set_option maxRecDepth 100000 in
theorem nat_number_shl.calls (k : Nat) (A0 : Option Addr) (c0 : Nat) (l0 : List Int) (a1 : Int) (r : List Int) (w : World) (hr0 : Kd.C (Kd.int .u64) w A0 l0.length l0) (hc0 : l0.length ≤ c0) (h : nat_number_shl.f k l0 a1 = some r) :
  Calls Tryd.prog 123 #[.slice A0 l0.length c0, .int .i64 a1] w fun e w' => ∃ v0_ : Value, e = .returned (v0_) ∧ Kd.V (Kd.int .u64) 26 w' w.heap.size (fun k_ => (w.heap.size ≤ k_)) v0_ r ∧ Below w.heap.size w w' := by
 have HR0 := zA hr0
 have HC0 := zA hc0
 clear hr0 hc0
 have HB := zA (Below.refl w.heap.size w)
 have H : (if (l0.length : Int) = 0 then (some ([] : List Int)) else (if 0 ≤ (wrap64 ((wrap64 ((l0.length : Int) + (wrap64 (Int.tdiv a1 64)))) + 1)) then (if (wrap64 ((wrap64 ((l0.length : Int) + (wrap64 (Int.tdiv a1 64)))) + 1) : Int).toNat ≤ 35184372088832 then (nat_number_shl.l0 k (wrap64 (Int.tdiv a1 64)) (Int.tmod a1 64) (List.replicate (wrap64 ((wrap64 ((l0.length : Int) + (wrap64 (Int.tdiv a1 64)))) + 1) : Int).toNat 0) l0 (l0.length : Int) 0) else (none)) else (none))) = some r := h
 clear h
 by_cases c3 : (l0.length : Int) = 0
 ·rw [if_pos c3] at H
  have c3b0 := beq_iff_eq.mpr c3
  have c3b1 := bne_eq_false_iff_eq.mpr c3
  clear c3
  obtain rfl := Option.some.inj H
  go_enter Tryd.func123, Tryd.ntmps123
  go_wp2
  go_ret
  exact ⟨_, er, V_nil _ _ _ _ _, bq⟩
 rw [if_neg c3] at H
 have c3b0 := beq_eq_false_iff_ne.mpr c3
 have c3b1 := bne_iff_ne.mpr c3
 have c3b2 : ¬ (l0 = []) := fun h_ => c3 (by rw [h_]; rfl)
 obtain ⟨ji4, hji4⟩ : ∃ j_ : Int, (wrap64 ((wrap64 ((l0.length : Int) + (wrap64 (Int.tdiv a1 64)))) + 1)) = j_ := ⟨_, rfl⟩
 replace H : (if 0 ≤ (ji4) then (if (ji4 : Int).toNat ≤ 35184372088832 then (nat_number_shl.l0 k (wrap64 (Int.tdiv a1 64)) (Int.tmod a1 64) (List.replicate (ji4 : Int).toNat 0) l0 (l0.length : Int) 0) else (none)) else (none)) = some r := zQ hji4 H
 have hji4w : (IntKind.i64.wrap ((wrap64 ((l0.length : Int) + (wrap64 (Int.tdiv a1 64)))) + 1)) = ji4 := (i64_w _).trans hji4
 replace H := dn H
 obtain ⟨c5, H⟩ := H
 have c5b0 := eq_true c5
 have c5b1 := decide_eq_true c5
 clear c5
 replace H := dn H
 obtain ⟨c6, H⟩ := H
 have c6b0 := eq_true c6
 have c6b1 := decide_eq_true c6
 clear c6
 obtain ⟨y161, hy161⟩ : ∃ y_ : List Int, y_ = (List.replicate (ji4 : Int).toNat 0) := ⟨_, rfl⟩
 replace H : (nat_number_shl.l0 k (wrap64 (Int.tdiv a1 64)) (Int.tmod a1 64) y161 l0 (l0.length : Int) 0) = some r := zR hy161 H
 have Ny161 := zA hy161
 clear hy161
 have H' := zA H
 clear H
 go_enter Tryd.func123, Tryd.ntmps123
 go_wp2_with (first | ((with_reducible refine zD 22 rfl ?_); refine R_make (Kd.int .u64) _ 26 rfl (N := 22) rfl 106 _ _ rfl ji4 rfl rfl Tryd.underlying106 (.int .u64 0) 8 info26 rfl (by decide) (by omega) 0 (ok := fun _ => True) (okp := fun _ => True) rfl (fun _ hk => hk) trivial (od) (Nat.le_trans (Nat.mul_le_mul_right _ (od : ji4.toNat ≤ 35184372088832)) (by omega)) (Below.refl _ _) (Nat.le_refl _) ?_; intro v162 w7 ho8 hb hg_ hnew_; clear hg_ hnew_; (first | rw [← Ny161.out] at ho8 | (simp only [Int.reduceToNat] at ho8; rw [← Ny161.out] at ho8)); have HO163 := zA (R_lower (R_newM (M := fun k_ => (w.heap.size ≤ k_)) ho8 (below_size bq) (fun k_ h_ => h_)) (below_size bq)); replace HB := ze hb; clear hb ho8))
 go_loopg [25] k (fun kq v25 w' => ∃ (x7_1 : List Int) (x25_1 : Int), v25 = .int .i64 x25_1 ∧ Aside0 (nat_number_shl.l0 kq (wrap64 (Int.tdiv a1 64)) (Int.tmod a1 64) x7_1 l0 (l0.length : Int) x25_1 = some r) ∧ Aside0 (kq ≤ k) ∧ Aside0 (Kd.R (Kd.int .u64) 26 w' w.heap.size (fun k_ => (w.heap.size ≤ k_)) v162 x7_1) ∧ Aside0 (Below w.heap.size w w'))
 case atStart => exact ⟨(y161), (0), zi, H', ⟨Nat.le_refl _⟩, ⟨ru (R_mono HO163.out (fun _ hk => hk.1))⟩, ⟨bq⟩⟩
 case round =>
  clear H'
  try clear c3
  try clear c3b0
  try clear c3b1
  try clear c3b2
  try clear c5
  try clear c5b0
  try clear c5b1
  try clear c6
  try clear c6b0
  try clear c6b1
  obtain ⟨x7_1, x25_1, rfl, HA, HK1, HO_7, HB⟩ := hrel
  cases gk with
  | zero => exact absurd HA.out (by simp [nat_number_shl.l0])
  | succ k1 =>
   have H := HA.out
   clear HA
   simp only [nat_number_shl.l0] at H
   by_cases c9 : x25_1 < (l0.length : Int)
   ·rw [if_pos c9] at H
    have c9b0 := decide_eq_true c9
    clear c9
    replace H := dn H
    obtain ⟨c10, H⟩ := H
    have c10b0 := decide_eq_true c10
    clear c10
    replace H := dn H
    obtain ⟨c11, H⟩ := H
    have c11b0 := decide_eq_true c11
    clear c11
    obtain ⟨ji12, hji12⟩ : ∃ j_ : Int, (wrap64 (x25_1 + (wrap64 (Int.tdiv a1 64)))) = j_ := ⟨_, rfl⟩
    replace H : (if 0 ≤ (ji12) then (if (ji12) < (x7_1.length : Int) then (if 0 ≤ (Int.tmod a1 64) then ((some (x7_1.set ((ji12) : Int).toNat (Go.bits .or .u64 (rd x7_1 (ji12)) (shl .u64 (rd l0 x25_1) (Int.tmod a1 64))) : List Int)).bind fun y166 => (if (Int.tmod a1 64) > 0 then (if 0 ≤ (wrap64 (64 - (Int.tmod a1 64))) then (if 0 ≤ (wrap64 ((ji12) + 1)) then (if (wrap64 ((ji12) + 1)) < (x7_1.length : Int) then (nat_number_shl.l0 k1 (wrap64 (Int.tdiv a1 64)) (Int.tmod a1 64) (y166.set ((wrap64 ((ji12) + 1)) : Int).toNat (shr .u64 (rd l0 x25_1) (wrap64 (64 - (Int.tmod a1 64))))) l0 (l0.length : Int) (wrap64 (x25_1 + 1))) else (none)) else (none)) else (none)) else (nat_number_shl.l0 k1 (wrap64 (Int.tdiv a1 64)) (Int.tmod a1 64) y166 l0 (l0.length : Int) (wrap64 (x25_1 + 1))))) else (none)) else (none)) else (none)) = some r := zQ hji12 H
    have hji12w : (IntKind.i64.wrap (x25_1 + (wrap64 (Int.tdiv a1 64)))) = ji12 := (i64_w _).trans hji12
    replace H := dn H
    obtain ⟨c13, H⟩ := H
    have c13b0 := decide_eq_true c13
    clear c13
    replace H := dn H
    obtain ⟨c14, H⟩ := H
    have c14b0 := decide_eq_true c14
    clear c14
    obtain ⟨ji15, hji15⟩ : ∃ j_ : Int, (Int.tmod a1 64) = j_ := ⟨_, rfl⟩
    replace H : (if 0 ≤ (ji15) then ((some (x7_1.set ((ji12) : Int).toNat (Go.bits .or .u64 (rd x7_1 (ji12)) (shl .u64 (rd l0 x25_1) (ji15))) : List Int)).bind fun y166 => (if (ji15) > 0 then (if 0 ≤ (wrap64 (64 - (ji15))) then (if 0 ≤ (wrap64 ((ji12) + 1)) then (if (wrap64 ((ji12) + 1)) < (x7_1.length : Int) then (nat_number_shl.l0 k1 (wrap64 (Int.tdiv a1 64)) (ji15) (y166.set ((wrap64 ((ji12) + 1)) : Int).toNat (shr .u64 (rd l0 x25_1) (wrap64 (64 - (ji15))))) l0 (l0.length : Int) (wrap64 (x25_1 + 1))) else (none)) else (none)) else (none)) else (nat_number_shl.l0 k1 (wrap64 (Int.tdiv a1 64)) (ji15) y166 l0 (l0.length : Int) (wrap64 (x25_1 + 1))))) else (none)) = some r := zQ hji15 H
    replace H := dn H
    obtain ⟨c16, H⟩ := H
    have c16b0 := eq_true c16
    have c16b1 := decide_eq_true c16
    clear c16
    obtain ⟨ji17, hji17⟩ : ∃ j_ : Int, (shl .u64 (rd l0 x25_1) (ji15)) = j_ := ⟨_, rfl⟩
    replace H : ((some (x7_1.set ((ji12) : Int).toNat (Go.bits .or .u64 (rd x7_1 (ji12)) (ji17)) : List Int)).bind fun y166 => (if (ji15) > 0 then (if 0 ≤ (wrap64 (64 - (ji15))) then (if 0 ≤ (wrap64 ((ji12) + 1)) then (if (wrap64 ((ji12) + 1)) < (x7_1.length : Int) then (nat_number_shl.l0 k1 (wrap64 (Int.tdiv a1 64)) (ji15) (y166.set ((wrap64 ((ji12) + 1)) : Int).toNat (shr .u64 (rd l0 x25_1) (wrap64 (64 - (ji15))))) l0 (l0.length : Int) (wrap64 (x25_1 + 1))) else (none)) else (none)) else (none)) else (nat_number_shl.l0 k1 (wrap64 (Int.tdiv a1 64)) (ji15) y166 l0 (l0.length : Int) (wrap64 (x25_1 + 1))))) = some r := zQ hji17 H
    have hji17_ : (IntKind.u64.wrap ((rd l0 x25_1) * 2 ^ min (ji15).toNat 64)) = ji17 := hji17
    have hji17z : (ji15) ≤ 64 → (IntKind.u64.wrap ((rd l0 x25_1) * 2 ^ (ji15).toNat)) = ji17 := shl_small hji17
    obtain ⟨y166, hy166⟩ : ∃ y_ : List Int, y_ = (x7_1.set ((ji12) : Int).toNat (Go.bits .or .u64 (rd x7_1 (ji12)) (ji17))) := ⟨_, rfl⟩
    replace H : (if (ji15) > 0 then (if 0 ≤ (wrap64 (64 - (ji15))) then (if 0 ≤ (wrap64 ((ji12) + 1)) then (if (wrap64 ((ji12) + 1)) < (x7_1.length : Int) then (nat_number_shl.l0 k1 (wrap64 (Int.tdiv a1 64)) (ji15) (y166.set ((wrap64 ((ji12) + 1)) : Int).toNat (shr .u64 (rd l0 x25_1) (wrap64 (64 - (ji15))))) l0 (l0.length : Int) (wrap64 (x25_1 + 1))) else (none)) else (none)) else (none)) else (nat_number_shl.l0 k1 (wrap64 (Int.tdiv a1 64)) (ji15) y166 l0 (l0.length : Int) (wrap64 (x25_1 + 1)))) = some r := zR hy166 H
    have Ny166 := zA hy166
    clear hy166
    by_cases c19 : (ji15) > 0
    ·rw [if_pos c19] at H
     have c19b0 := decide_eq_true c19
     clear c19
     obtain ⟨ji20, hji20⟩ : ∃ j_ : Int, (wrap64 (64 - (ji15))) = j_ := ⟨_, rfl⟩
     replace H : (if 0 ≤ (ji20) then (if 0 ≤ (wrap64 ((ji12) + 1)) then (if (wrap64 ((ji12) + 1)) < (x7_1.length : Int) then (nat_number_shl.l0 k1 (wrap64 (Int.tdiv a1 64)) (ji15) (y166.set ((wrap64 ((ji12) + 1)) : Int).toNat (shr .u64 (rd l0 x25_1) (ji20))) l0 (l0.length : Int) (wrap64 (x25_1 + 1))) else (none)) else (none)) else (none)) = some r := zQ hji20 H
     have hji20w : (IntKind.i64.wrap (64 - (ji15))) = ji20 := (i64_w _).trans hji20
     replace H := dn H
     obtain ⟨c21, H⟩ := H
     have c21b0 := eq_true c21
     have c21b1 := decide_eq_true c21
     clear c21
     obtain ⟨ji22, hji22⟩ : ∃ j_ : Int, (shr .u64 (rd l0 x25_1) (ji20)) = j_ := ⟨_, rfl⟩
     replace H : (if 0 ≤ (wrap64 ((ji12) + 1)) then (if (wrap64 ((ji12) + 1)) < (x7_1.length : Int) then (nat_number_shl.l0 k1 (wrap64 (Int.tdiv a1 64)) (ji15) (y166.set ((wrap64 ((ji12) + 1)) : Int).toNat (ji22)) l0 (l0.length : Int) (wrap64 (x25_1 + 1))) else (none)) else (none)) = some r := zQ hji22 H
     have hji22_ : ((rd l0 x25_1) / 2 ^ min (ji20).toNat 64) = ji22 := hji22
     have hji22z : (ji20) ≤ 64 → ((rd l0 x25_1) / 2 ^ (ji20).toNat) = ji22 := shr_small hji22
     obtain ⟨ji23, hji23⟩ : ∃ j_ : Int, (wrap64 ((ji12) + 1)) = j_ := ⟨_, rfl⟩
     replace H : (if 0 ≤ (ji23) then (if (ji23) < (x7_1.length : Int) then (nat_number_shl.l0 k1 (wrap64 (Int.tdiv a1 64)) (ji15) (y166.set ((ji23) : Int).toNat (ji22)) l0 (l0.length : Int) (wrap64 (x25_1 + 1))) else (none)) else (none)) = some r := zQ hji23 H
     have hji23w : (IntKind.i64.wrap ((ji12) + 1)) = ji23 := (i64_w _).trans hji23
     replace H := dn H
     obtain ⟨c24, H⟩ := H
     have c24b0 := decide_eq_true c24
     clear c24
     replace H := dn H
     obtain ⟨c25, H⟩ := H
     have c25b0 := decide_eq_true c25
     clear c25
     obtain ⟨y167, hy167⟩ : ∃ y_ : List Int, y_ = (y166.set ((ji23) : Int).toNat (ji22)) := ⟨_, rfl⟩
     replace H : (nat_number_shl.l0 k1 (wrap64 (Int.tdiv a1 64)) (ji15) y167 l0 (l0.length : Int) (wrap64 (x25_1 + 1))) = some r := zR hy167 H
     have Ny167 := zA hy167
     clear hy167
     have H' := zA H
     clear H
     have p164 : 0 ≤ (x25_1 : Int) := od
     have q164 : x25_1 < (l0.length : Int) := od
     obtain ⟨ad164, e164, hx164_0⟩ := Kd.at_int HR0.out x25_1 p164 q164
     cases e164
     replace hx164_0 := (HB.out.cell (World.block_lt_of_cell? w _ hx164_0)).trans hx164_0
     replace p164 := eq_true p164
     replace q164 := eq_true q164
     try go_wp2
     replace HO_7 := zA (R_drew HO_7.out)
     replace HB := zA (below_drew1 HB.out)
     obtain ⟨Ao28, co28, eo28⟩ := R_slice HO_7.out
     (first | subst eo28 | (injection eo28 with f1_ f2_ f3_; have f4_ := f1_.symm; have f5_ := f3_.symm; clear f1_ f2_ f3_; subst f4_; subst f5_))
     have p165 : 0 ≤ ((ji12) : Int) := od
     have q165 : (ji12) < (x7_1.length : Int) := od
     obtain ⟨ad165, e165, hx165_0⟩ := Kd.at_int (R_reads' HO_7.out).2.2 (ji12) p165 q165
     cases e165
     replace p165 := eq_true p165
     replace q165 := eq_true q165
     have p18 : 0 ≤ ((ji12) : Int) := od
     have q18 : ((ji12) : Int) < ((x7_1.length : Int) : Int) := od
     obtain ⟨go18, co18, eo18, gb18, gl18, cl18, HG18⟩ := R_form HO_7.out (by omega)
     (first | cases eo18 | (injection eo18 with ea_ en_ ec_; (first | subst ea_ | (injection ea_ with ea_; subst ea_)); subst ec_; clear en_))
     have GB18 := zA gb18
     have GG18 := zA HG18
     clear gb18 gl18 HG18
     (first | simp only [add_plain] at hx165_0 | skip)
     obtain ⟨hx18_0, hf18_0⟩ := R_celln 0 HO_7.out ((ji12) : Int) p18 q18
     replace p18 := eq_true p18
     replace q18 := eq_true q18
     have HP29 := R_putn HO_7.out ((ji12) : Int) (Go.bits .or .u64 (rd x7_1 (ji12)) (ji17))
     rw [← Ny166.out] at HP29
     have HQ29 := zA HP29
     clear HP29
     refine start_ (n := 12) (S := fun w' => w'.cell? ⟨go18, ((ji12)).toNat, none⟩ = some (.int .u64 (rd x7_1 (ji12)))) (ds := [11]) #[false, false, false, false, false, false, false, false, false, false, false, false] (by kernel_rfl) rfl rfl (hx165_0) (fun hHeld => ?_); refine with_tabW nat_number_shl.tab8 nat_number_shl.bits8 (fun HT_ HW_ => ?_)
     generalize wr.drew = w27 at HO_7 HB GG18 HQ29 hf18_0 hx165_0 hx18_0 hHeld ⊢
     refine pure_ (i := 0) (N := some 30) (v := ?_) (a' := ?_) #[true, false, false, false, false, false, false, false, false, false, false, false] rfl rfl (any_of HT_.out (by kernel_rfl)) (fun _ _ _ h => h) (Or.inl ⟨by rfl, ?_⟩) ?_ ?_
     rotate_left
     ·intro w'
      go_simp
      with_reducible rfl
     rotate_left
     ·exact zq
     refine pure_ (i := 1) (N := some 31) (v := ?_) (a' := ?_) #[true, true, false, false, false, false, false, false, false, false, false, false] rfl rfl (any_of HT_.out (by kernel_rfl)) (fun _ _ _ h => h) (Or.inl ⟨by rfl, ?_⟩) ?_ ?_
     rotate_left
     ·intro w'
      go_simp
      with_reducible rfl
     rotate_left
     ·exact zq
     refine pure_ (i := 2) (N := some 32) (v := ?_) (a' := ?_) #[true, true, true, false, false, false, false, false, false, false, false, false] rfl rfl (any_of HT_.out (by kernel_rfl)) (fun _ _ _ h => h) (Or.inl ⟨by rfl, ?_⟩) ?_ ?_
     rotate_left
     ·intro w'
      go_simp
      with_reducible rfl
     rotate_left
     ·exact zq
     refine pure_ (i := 3) (N := some 33) (v := ?_) (a' := ?_) #[true, true, true, true, false, false, false, false, false, false, false, false] rfl rfl (any_of HT_.out (by kernel_rfl)) (fun _ _ _ h => h) (Or.inl ⟨by rfl, ?_⟩) ?_ ?_
     rotate_left
     ·intro w'
      go_simp
      with_reducible rfl
     rotate_left
     ·exact zq
     refine pure_ (i := 4) (N := some 34) (v := ?_) (a' := ?_) #[true, true, true, true, true, false, false, false, false, false, false, false] rfl rfl (any_of HT_.out (by kernel_rfl)) (fun _ _ _ h => h) (Or.inl ⟨by rfl, ?_⟩) ?_ ?_
     rotate_left
     ·intro w'
      go_simp
      with_reducible rfl
     rotate_left
     ·exact zq
     refine pure_ (i := 6) (N := some 36) (v := ?_) (a' := ?_) #[true, true, true, true, true, false, true, false, false, false, false, false] rfl rfl (any_of HT_.out (by kernel_rfl)) (fun _ _ _ h => h) (Or.inl ⟨by rfl, ?_⟩) ?_ ?_
     rotate_left
     ·intro w'
      go_simp
      with_reducible rfl
     rotate_left
     ·exact zq
     refine pure_ (i := 7) (N := some 37) (v := ?_) (a' := ?_) #[true, true, true, true, true, false, true, true, false, false, false, false] rfl rfl (any_of HT_.out (by kernel_rfl)) (fun _ _ _ h => h) (Or.inl ⟨by rfl, ?_⟩) ?_ ?_
     rotate_left
     ·intro w'
      go_simp
      with_reducible rfl
     rotate_left
     ·exact zq
     refine pure_ (i := 8) (N := some 38) (v := ?_) (a' := ?_) #[true, true, true, true, true, false, true, true, true, false, false, false] rfl rfl (any_of HT_.out (by kernel_rfl)) (fun _ _ _ h => h) (Or.inl ⟨by rfl, ?_⟩) ?_ ?_
     rotate_left
     ·intro w'
      go_simp
      with_reducible rfl
     rotate_left
     ·exact zq
     refine take_ (i := 5) (N := some 35) (v := ?_) (a' := ?_) #[true, true, true, true, true, true, true, true, true, false, false, false] rfl rfl (take_ofW HT_.out HW_.out (by kernel_rfl)) (fun _ _ _ h => h) (Or.inl ⟨by rfl, ?_⟩) hHeld ?_ ?_
     rotate_left
     ·intro w' s0
      go_simp
      with_reducible rfl
     rotate_left
     ·exact zq
     refine pure_ (i := 9) (N := some 39) (v := ?_) (a' := ?_) #[true, true, true, true, true, true, true, true, true, true, false, false] rfl rfl (any_of HT_.out (by kernel_rfl)) (fun _ _ _ h => h) (Or.inl ⟨by rfl, ?_⟩) ?_ ?_
     rotate_left
     ·intro w'
      go_simp
      with_reducible rfl
     rotate_left
     ·exact zq
     refine pure_ (i := 10) (N := some 40) (v := ?_) (a' := ?_) #[true, true, true, true, true, true, true, true, true, true, true, false] rfl rfl (any_of HT_.out (by kernel_rfl)) (fun _ _ _ h => h) (Or.inl ⟨by rfl, ?_⟩) ?_ ?_
     rotate_left
     ·intro w'
      go_simp
      with_reducible rfl
     rotate_left
     ·exact zq
     refine last_ (i := 11) (N := none) #[true, true, true, true, true, true, true, true, true, true, true, true] rfl rfl (one_of HT_.out (by kernel_rfl)) (by decide) (fun K hK => ?_)
     refine skip_ (w1 := ?_) (by rfl) rfl ?_ ?_
     rotate_left
     ·go_simp
      rfl
     refine hK.out _ _ ?_
     clear hK K
     refine done_ (done_of HT_.out (by kernel_rfl)) ?_
     have n0_ : Aside0 (Kd.R (Kd.int .u64) 26 (w27.setCell ⟨go18, ((ji12) : Int).toNat, none⟩ (.int .u64 (Go.bits .or .u64 (rd x7_1 (ji12)) (ji17)))) w.heap.size (fun k_ => (w.heap.size ≤ k_)) (.slice (some ⟨go18, 0, none⟩) x7_1.length co28) y166) := ⟨ru HQ29.out⟩
     have n1_ : Aside0 (Below w.heap.size w (w27.setCell ⟨go18, ((ji12) : Int).toNat, none⟩ (.int .u64 (Go.bits .or .u64 (rd x7_1 (ji12)) (ji17))))) := ⟨by repeat (first | (with_reducible first | exact HB.out | apply below_alloc | apply pw_below_drewN | apply below_drew1 | refine below_set ?_ GB18.out) | exact HB.out)⟩
     (try clear HO_7)
     (try clear HB)
     generalize (w27.setCell ⟨go18, ((ji12) : Int).toNat, none⟩ (.int .u64 (Go.bits .or .u64 (rd x7_1 (ji12)) (ji17)))) = w30 at n0_ n1_ ⊢
     have HO_7 := n0_
     have HB := n1_
     clear n0_ n1_
     have p26 : 0 ≤ ((ji23) : Int) := od
     have q26 : ((ji23) : Int) < ((x7_1.length : Int) : Int) := od
     obtain ⟨hx26_0, hf26_0⟩ := R_celln 0 HO_7.out ((ji23) : Int) p26 q26
     replace p26 := eq_true p26
     replace q26 := eq_true q26
     obtain ⟨hy31_, hz31_⟩ := R_celln 0 HO_7.out ((ji23) : Int) (od) (od)
     have HP31 := R_putg HO_7.out ((ji23) : Int) ji22
     try go_wp2_with (first | ((with_reducible refine gate_store (t := 26) (p := 52) rfl ?_); refine store_event (t := 26) (p := 52) (v := ?vo_w32) (w1 := (w30.setCell ⟨go18, ((ji23) : Int).toNat, none⟩ (.int .u64 ji22))) ?hg ?ho ?hn ?hr ?_; (case ho => rfl); (case hg => rfl); (case hn => rfl); (case hr => first | (go_simp; done) | (go_simp; rfl)); intro w32 hw; have hg : w30.grownBy w32 (some go18) := (by rw [hw]; exact HP31.2); have hp_ : Kd.R (Kd.int .u64) 26 w32 w.heap.size (fun k_ => (w.heap.size ≤ k_)) (.slice (some ⟨go18, 0, none⟩) x7_1.length co28) y167 := (by rw [hw, Ny167.out]; exact HP31.1); clear HP31; replace HO_7 := zA (hp_); replace HB := zA ((by rw [hw]; exact below_set (HB.out) GB18.out : Below w.heap.size w w32)); clear hg hw hp_))
     (try simp only [← hji15, ← hji20])
     go_roundg k1
     case measure => have := HK1.out; omega
     case rel => exact ⟨(y167), (wrap64 (x25_1 + 1)), zi, (by first | exact H' | (simp only [hji4, hji12, hji15, hji17, hji20, hji22, hji23]; exact H') | (simp only [hji4, hji12, hji15, hji17, hji20, hji22, hji23] at H' ⊢; exact H')), ⟨by have := HK1.out; omega⟩, ⟨ru HO_7.out⟩, ⟨bq⟩⟩
    rw [if_neg c19] at H
    have c19b0 := decide_eq_false c19
    clear c19
    have H' := zA H
    clear H
    have p164 : 0 ≤ (x25_1 : Int) := od
    have q164 : x25_1 < (l0.length : Int) := od
    obtain ⟨ad164, e164, hx164_0⟩ := Kd.at_int HR0.out x25_1 p164 q164
    cases e164
    replace hx164_0 := (HB.out.cell (World.block_lt_of_cell? w _ hx164_0)).trans hx164_0
    replace p164 := eq_true p164
    replace q164 := eq_true q164
    try go_wp2
    replace HO_7 := zA (R_drew HO_7.out)
    replace HB := zA (below_drew1 HB.out)
    obtain ⟨Ao34, co34, eo34⟩ := R_slice HO_7.out
    (first | subst eo34 | (injection eo34 with f1_ f2_ f3_; have f4_ := f1_.symm; have f5_ := f3_.symm; clear f1_ f2_ f3_; subst f4_; subst f5_))
    have p165 : 0 ≤ ((ji12) : Int) := od
    have q165 : (ji12) < (x7_1.length : Int) := od
    obtain ⟨ad165, e165, hx165_0⟩ := Kd.at_int (R_reads' HO_7.out).2.2 (ji12) p165 q165
    cases e165
    replace p165 := eq_true p165
    replace q165 := eq_true q165
    have p18 : 0 ≤ ((ji12) : Int) := od
    have q18 : ((ji12) : Int) < ((x7_1.length : Int) : Int) := od
    obtain ⟨go18, co18, eo18, gb18, gl18, cl18, HG18⟩ := R_form HO_7.out (by omega)
    (first | cases eo18 | (injection eo18 with ea_ en_ ec_; (first | subst ea_ | (injection ea_ with ea_; subst ea_)); subst ec_; clear en_))
    have GB18 := zA gb18
    have GG18 := zA HG18
    clear gb18 gl18 HG18
    (first | simp only [add_plain] at hx165_0 | skip)
    obtain ⟨hx18_0, hf18_0⟩ := R_celln 0 HO_7.out ((ji12) : Int) p18 q18
    replace p18 := eq_true p18
    replace q18 := eq_true q18
    have HP35 := R_putn HO_7.out ((ji12) : Int) (Go.bits .or .u64 (rd x7_1 (ji12)) (ji17))
    rw [← Ny166.out] at HP35
    have HQ35 := zA HP35
    clear HP35
    refine start_ (n := 12) (S := fun w' => w'.cell? ⟨go18, ((ji12)).toNat, none⟩ = some (.int .u64 (rd x7_1 (ji12)))) (ds := [11]) #[false, false, false, false, false, false, false, false, false, false, false, false] (by kernel_rfl) rfl rfl (hx165_0) (fun hHeld => ?_); refine with_tabW nat_number_shl.tab8 nat_number_shl.bits8 (fun HT_ HW_ => ?_)
    generalize wr.drew = w33 at HO_7 HB GG18 HQ35 hf18_0 hx165_0 hx18_0 hHeld ⊢
    refine pure_ (i := 0) (N := some 30) (v := ?_) (a' := ?_) #[true, false, false, false, false, false, false, false, false, false, false, false] rfl rfl (any_of HT_.out (by kernel_rfl)) (fun _ _ _ h => h) (Or.inl ⟨by rfl, ?_⟩) ?_ ?_
    rotate_left
    ·intro w'
     go_simp
     with_reducible rfl
    rotate_left
    ·exact zq
    refine pure_ (i := 1) (N := some 31) (v := ?_) (a' := ?_) #[true, true, false, false, false, false, false, false, false, false, false, false] rfl rfl (any_of HT_.out (by kernel_rfl)) (fun _ _ _ h => h) (Or.inl ⟨by rfl, ?_⟩) ?_ ?_
    rotate_left
    ·intro w'
     go_simp
     with_reducible rfl
    rotate_left
    ·exact zq
    refine pure_ (i := 2) (N := some 32) (v := ?_) (a' := ?_) #[true, true, true, false, false, false, false, false, false, false, false, false] rfl rfl (any_of HT_.out (by kernel_rfl)) (fun _ _ _ h => h) (Or.inl ⟨by rfl, ?_⟩) ?_ ?_
    rotate_left
    ·intro w'
     go_simp
     with_reducible rfl
    rotate_left
    ·exact zq
    refine pure_ (i := 3) (N := some 33) (v := ?_) (a' := ?_) #[true, true, true, true, false, false, false, false, false, false, false, false] rfl rfl (any_of HT_.out (by kernel_rfl)) (fun _ _ _ h => h) (Or.inl ⟨by rfl, ?_⟩) ?_ ?_
    rotate_left
    ·intro w'
     go_simp
     with_reducible rfl
    rotate_left
    ·exact zq
    refine pure_ (i := 4) (N := some 34) (v := ?_) (a' := ?_) #[true, true, true, true, true, false, false, false, false, false, false, false] rfl rfl (any_of HT_.out (by kernel_rfl)) (fun _ _ _ h => h) (Or.inl ⟨by rfl, ?_⟩) ?_ ?_
    rotate_left
    ·intro w'
     go_simp
     with_reducible rfl
    rotate_left
    ·exact zq
    refine pure_ (i := 6) (N := some 36) (v := ?_) (a' := ?_) #[true, true, true, true, true, false, true, false, false, false, false, false] rfl rfl (any_of HT_.out (by kernel_rfl)) (fun _ _ _ h => h) (Or.inl ⟨by rfl, ?_⟩) ?_ ?_
    rotate_left
    ·intro w'
     go_simp
     with_reducible rfl
    rotate_left
    ·exact zq
    refine pure_ (i := 7) (N := some 37) (v := ?_) (a' := ?_) #[true, true, true, true, true, false, true, true, false, false, false, false] rfl rfl (any_of HT_.out (by kernel_rfl)) (fun _ _ _ h => h) (Or.inl ⟨by rfl, ?_⟩) ?_ ?_
    rotate_left
    ·intro w'
     go_simp
     with_reducible rfl
    rotate_left
    ·exact zq
    refine pure_ (i := 8) (N := some 38) (v := ?_) (a' := ?_) #[true, true, true, true, true, false, true, true, true, false, false, false] rfl rfl (any_of HT_.out (by kernel_rfl)) (fun _ _ _ h => h) (Or.inl ⟨by rfl, ?_⟩) ?_ ?_
    rotate_left
    ·intro w'
     go_simp
     with_reducible rfl
    rotate_left
    ·exact zq
    refine take_ (i := 5) (N := some 35) (v := ?_) (a' := ?_) #[true, true, true, true, true, true, true, true, true, false, false, false] rfl rfl (take_ofW HT_.out HW_.out (by kernel_rfl)) (fun _ _ _ h => h) (Or.inl ⟨by rfl, ?_⟩) hHeld ?_ ?_
    rotate_left
    ·intro w' s0
     go_simp
     with_reducible rfl
    rotate_left
    ·exact zq
    refine pure_ (i := 9) (N := some 39) (v := ?_) (a' := ?_) #[true, true, true, true, true, true, true, true, true, true, false, false] rfl rfl (any_of HT_.out (by kernel_rfl)) (fun _ _ _ h => h) (Or.inl ⟨by rfl, ?_⟩) ?_ ?_
    rotate_left
    ·intro w'
     go_simp
     with_reducible rfl
    rotate_left
    ·exact zq
    refine pure_ (i := 10) (N := some 40) (v := ?_) (a' := ?_) #[true, true, true, true, true, true, true, true, true, true, true, false] rfl rfl (any_of HT_.out (by kernel_rfl)) (fun _ _ _ h => h) (Or.inl ⟨by rfl, ?_⟩) ?_ ?_
    rotate_left
    ·intro w'
     go_simp
     with_reducible rfl
    rotate_left
    ·exact zq
    refine last_ (i := 11) (N := none) #[true, true, true, true, true, true, true, true, true, true, true, true] rfl rfl (one_of HT_.out (by kernel_rfl)) (by decide) (fun K hK => ?_)
    refine skip_ (w1 := ?_) (by rfl) rfl ?_ ?_
    rotate_left
    ·go_simp
     rfl
    refine hK.out _ _ ?_
    clear hK K
    refine done_ (done_of HT_.out (by kernel_rfl)) ?_
    try go_wp2
    (try simp only [← hji15])
    go_roundg k1
    case measure => have := HK1.out; omega
    case rel => exact ⟨(y166), (wrap64 (x25_1 + 1)), zi, (by first | exact H' | (simp only [hji4, hji12, hji15, hji17]; exact H') | (simp only [hji4, hji12, hji15, hji17] at H' ⊢; exact H')), ⟨by have := HK1.out; omega⟩, ⟨ru HQ35.out⟩, ⟨by repeat (first | (with_reducible first | exact HB.out | apply below_alloc | apply pw_below_drewN | apply below_drew1 | refine below_set ?_ GB18.out) | exact HB.out)⟩⟩
   rw [if_neg c9] at H
   have c9b0 := decide_eq_false c9
   clear c9
   obtain ⟨t168, A36, H⟩ := zh H
   obtain rfl := Option.some.inj H
   obtain ⟨Ao37, co37, eo37⟩ := R_slice HO_7.out
   subst eo37
   go_wp2_with (first | ((with_reducible refine zG 95 rfl ?_); refine zL (some 55) rfl rfl Tryd.func95 #[.slice Ao37 x7_1.length co37] rfl ?_; (with_reducible refine (nat_norm.calls k1 (fun k_ => some k_ = (.slice Ao37 x7_1.length co37 : Value).ownBlock) _ _ x7_1 t168 _ ?side1 A36.out).mono ?_); (case side1 => exact R_V (R_tight rfl (HO_7.out))); rintro e w38 ⟨v169, rfl, ho0, hb⟩; refine ⟨_, rfl, ?_⟩; have HO170 := zA (V_lower (V_mono (ok' := fun k_ => (w.heap.size ≤ k_)) ho0 (fun k_ hk_ => Or.elim hk_ (fun hs_ => ((HO_7.out).1 k_ hs_.symm)) (fun hn_ => (Nat.le_trans (below_size bq) hn_)))) (below_size bq)); replace HO_7 := zA (R_below (ru HO_7.out) hb); replace HB := ze hb; (try clear ho0)))
   go_ret
   exact ⟨_, by first | rfl | (simp [errW_none, errW_some] <;> rfl) | (simp only [← hji4]; first | rfl | (simp [errW_none, errW_some] <;> rfl)) | (simp [*, errW_none, errW_some] <;> rfl), vu HO170.out, bq⟩
def nat_Shl.f (k : Nat) (l0 : List Int) (a1 : Int) : Option (List Int × Int) := (nat_one.f k l0).bind fun bt171 => (if bt171.2 = 0 then (if a1 < 0 then (some (([] : List Int), 2)) else (if (bt171.1.length : Int) = 0 then (some (([] : List Int), 0)) else (if a1 > 65536 then (some (([] : List Int), 3)) else ((nat_number_shl.f k bt171.1 a1).bind fun t175 => ((nat_answer.f t175).bind fun bt178 => (some (bt178.1, bt178.2))))))) else (some (([] : List Int), bt171.2)))
theorem nat_Shl.mono : ∀ a0 a1 k, LeO (nat_Shl.f k a0 a1) (nat_Shl.f (k + 1) a0 a1) := by
 intro a0 a1 k
 unfold nat_Shl.f
 repeat' first
   | (with_reducible exact nat_number_shl.mono _ _ _)
   | (with_reducible exact nat_one.mono _ _)
   | (with_reducible exact LeO.refl _)
   | (with_reducible exact LeO.none _)
   | (with_reducible refine LeO.ite ?_ ?_)
   | (with_reducible refine LeO.bind ?_ (fun _ => ?_))
   | exact nat_number_shl.mono _ _ _
   | exact nat_one.mono _ _
   | exact LeO.none _
   | refine LeO.ite ?_ ?_
   | refine LeO.bind ?_ (fun _ => ?_)
set_option maxHeartbeats 8000000 in
set_option maxRecDepth 100000 in
theorem nat_Shl.calls (k : Nat) (A0 : Option Addr) (c0 : Nat) (l0 : List Int) (a1 : Int) (r1 : List Int) (r2 : Int) (w : World) (hr0 : Kd.C (Kd.int .u64) w A0 l0.length l0) (hc0 : l0.length ≤ c0) (h : nat_Shl.f k l0 a1 = some (r1, r2)) :
  Calls Tryd.prog 105 #[.slice A0 l0.length c0, .int .i64 a1] w fun e w' => ∃ v0_ : Value, e = .returned (.tuple #[v0_, .int .i64 r2]) ∧ Kd.R (Kd.int .u64) 26 w' w.heap.size (fun _ => True) v0_ r1 ∧ Below w.heap.size w w' := by
 have HR0 := zA hr0
 have HC0 := zA hc0
 clear hr0 hc0
 have HB := zA (Below.refl w.heap.size w)
 have H : ((nat_one.f k l0).bind fun bt171 => (if bt171.2 = 0 then (if a1 < 0 then (some (([] : List Int), 2)) else (if (bt171.1.length : Int) = 0 then (some (([] : List Int), 0)) else (if a1 > 65536 then (some (([] : List Int), 3)) else ((nat_number_shl.f k bt171.1 a1).bind fun t175 => ((nat_answer.f t175).bind fun bt178 => (some (bt178.1, bt178.2))))))) else (some (([] : List Int), bt171.2)))) = some (r1, r2) := h
 clear h
 obtain ⟨⟨t171, t174⟩, A3, H⟩ := zh H
 (try dsimp only at H)
 by_cases c4 : t174 = 0
 ·rw [if_pos c4] at H
  have c4b0 := beq_iff_eq.mpr c4
  have c4b1 := bne_eq_false_iff_eq.mpr c4
  clear c4
  by_cases c5 : a1 < 0
  ·rw [if_pos c5] at H
   have c5b0 := decide_eq_true c5
   clear c5
   simp only [Option.some.injEq, Prod.mk.injEq] at H
   obtain ⟨rfl, rfl⟩ := H
   go_enter Tryd.func105, Tryd.ntmps105
   go_wp2_with (first | ((with_reducible refine zG 103 rfl ?_); refine zL (some 10) rfl rfl Tryd.func103 #[.slice A0 l0.length c0] rfl ?_; (with_reducible refine (nat_one.calls k (fun k_ => k_ < w.heap.size) _ _ l0 t171 t174 _ ?side1 A3.out).mono ?_); (case side1 => exact V_mk HC0.out (Kd.F_below (C_F (Kd.heap_int .u64) HR0.out) bq)); rintro e w6 ⟨v172, rfl, ho0, hb⟩; refine ⟨_, rfl, ?_⟩; have HO173 := zA (V_lower (V_mono (ok' := fun k_ => True) ho0 (fun k_ hk_ => trivial)) (below_size bq)); replace HB := ze hb; (try clear ho0)))
   go_ret2
   exact ⟨_, er, by first | exact R_nil _ _ _ _ _ | exact Kd.N_nil _ _ _ _ _ | exact V_nil _ _ _ _ _ | exact Kd.Q_nil _ _ _ _ _ | exact Kd.S_nil _ _ _ _ _, bq⟩
  rw [if_neg c5] at H
  have c5b0 := decide_eq_false c5
  clear c5
  by_cases c7 : (t171.length : Int) = 0
  ·rw [if_pos c7] at H
   have c7b0 := beq_iff_eq.mpr c7
   have c7b1 := bne_eq_false_iff_eq.mpr c7
   clear c7
   simp only [Option.some.injEq, Prod.mk.injEq] at H
   obtain ⟨rfl, rfl⟩ := H
   go_enter Tryd.func105, Tryd.ntmps105
   go_wp2_with (first | ((with_reducible refine zG 103 rfl ?_); refine zL (some 10) rfl rfl Tryd.func103 #[.slice A0 l0.length c0] rfl ?_; (with_reducible refine (nat_one.calls k (fun k_ => k_ < w.heap.size) _ _ l0 t171 t174 _ ?side1 A3.out).mono ?_); (case side1 => exact V_mk HC0.out (Kd.F_below (C_F (Kd.heap_int .u64) HR0.out) bq)); rintro e w8 ⟨v172, rfl, ho0, hb⟩; refine ⟨_, rfl, ?_⟩; have HO173 := zA (V_lower (V_mono (ok' := fun k_ => True) ho0 (fun k_ hk_ => trivial)) (below_size bq)); replace HB := ze hb; (try clear ho0); obtain ⟨Ao9, co9, eo9⟩ := V_slice HO173.out; subst eo9))
   go_ret2
   exact ⟨_, er, by first | exact R_nil _ _ _ _ _ | exact Kd.N_nil _ _ _ _ _ | exact V_nil _ _ _ _ _ | exact Kd.Q_nil _ _ _ _ _ | exact Kd.S_nil _ _ _ _ _, bq⟩
  rw [if_neg c7] at H
  have c7b0 := beq_eq_false_iff_ne.mpr c7
  have c7b1 := bne_iff_ne.mpr c7
  have c7b2 : ¬ (t171 = []) := fun h_ => c7 (by rw [h_]; rfl)
  by_cases c10 : a1 > 65536
  ·rw [if_pos c10] at H
   have c10b0 := decide_eq_true c10
   clear c10
   simp only [Option.some.injEq, Prod.mk.injEq] at H
   obtain ⟨rfl, rfl⟩ := H
   go_enter Tryd.func105, Tryd.ntmps105
   go_wp2_with (first | ((with_reducible refine zG 103 rfl ?_); refine zL (some 10) rfl rfl Tryd.func103 #[.slice A0 l0.length c0] rfl ?_; (with_reducible refine (nat_one.calls k (fun k_ => k_ < w.heap.size) _ _ l0 t171 t174 _ ?side1 A3.out).mono ?_); (case side1 => exact V_mk HC0.out (Kd.F_below (C_F (Kd.heap_int .u64) HR0.out) bq)); rintro e w11 ⟨v172, rfl, ho0, hb⟩; refine ⟨_, rfl, ?_⟩; have HO173 := zA (V_lower (V_mono (ok' := fun k_ => True) ho0 (fun k_ hk_ => trivial)) (below_size bq)); replace HB := ze hb; (try clear ho0); obtain ⟨Ao12, co12, eo12⟩ := V_slice HO173.out; subst eo12))
   go_ret2
   exact ⟨_, er, by first | exact R_nil _ _ _ _ _ | exact Kd.N_nil _ _ _ _ _ | exact V_nil _ _ _ _ _ | exact Kd.Q_nil _ _ _ _ _ | exact Kd.S_nil _ _ _ _ _, bq⟩
  rw [if_neg c10] at H
  have c10b0 := decide_eq_false c10
  clear c10
  obtain ⟨t175, A13, H⟩ := zh H
  obtain ⟨⟨t178, t179⟩, A14, H⟩ := zh H
  (try dsimp only at H)
  simp only [Option.some.injEq, Prod.mk.injEq] at H
  obtain ⟨rfl, rfl⟩ := H
  go_enter Tryd.func105, Tryd.ntmps105
  go_wp2_with (first | ((with_reducible refine zG 103 rfl ?_); refine zL (some 10) rfl rfl Tryd.func103 #[.slice A0 l0.length c0] rfl ?_; (with_reducible refine (nat_one.calls k (fun k_ => k_ < w.heap.size) _ _ l0 t171 t174 _ ?side1 A3.out).mono ?_); (case side1 => exact V_mk HC0.out (Kd.F_below (C_F (Kd.heap_int .u64) HR0.out) bq)); rintro e w15 ⟨v172, rfl, ho0, hb⟩; refine ⟨_, rfl, ?_⟩; have HO173 := zA (V_lower (V_mono (ok' := fun k_ => True) ho0 (fun k_ hk_ => trivial)) (below_size bq)); replace HB := ze hb; (try clear ho0); obtain ⟨Ao16, co16, eo16⟩ := V_slice HO173.out; subst eo16) | ((with_reducible refine zG 123 rfl ?_); refine zL (some 29) rfl rfl Tryd.func123 #[.slice Ao16 t171.length co16, .int .i64 a1] rfl ?_; (with_reducible refine (nat_number_shl.calls k _ _ t171 a1 t175 _ ?side1 ?side2 A13.out).mono ?_); (case side1 => exact zk (V_reads' HO173.out).2.2); (case side2 => exact (V_reads' HO173.out).2.1); rintro e w17 ⟨v176, rfl, ho0, hb⟩; refine ⟨_, rfl, ?_⟩; replace HO173 := zA (V_below (vu HO173.out) hb); have HO177 := zA (V_lower (V_mono (ok' := fun k_ => True) ho0 (fun k_ hk_ => trivial)) (below_size bq)); replace HB := ze hb; (try clear ho0); obtain ⟨Ao18, co18, eo18⟩ := V_slice HO177.out; subst eo18) | ((with_reducible refine zG 122 rfl ?_); refine zL (some 30) rfl rfl Tryd.func122 #[.slice Ao18 t175.length co18] rfl ?_; (with_reducible refine (nat_answer.calls _ _ t175 t178 t179 _ ?side1 ?side2 A14.out).mono ?_); (case side1 => exact zk (V_reads' HO177.out).2.2); (case side2 => exact (V_reads' HO177.out).2.1); rintro e w19 ⟨v180, rfl, ho0, hb⟩; refine ⟨_, rfl, ?_⟩; replace HO173 := zA (V_elder' (vu HO173.out) (R_base ho0) hb); replace HO177 := zA (V_elder' (vu HO177.out) (R_base ho0) hb); have HO181 := zA (R_lower ho0 (below_size bq)); replace HB := ze hb; (try clear ho0)))
  go_ret2
  exact ⟨_, er, ru HO181.out, bq⟩
 rw [if_neg c4] at H
 have c4b0 := beq_eq_false_iff_ne.mpr c4
 have c4b1 := bne_iff_ne.mpr c4
 simp only [Option.some.injEq, Prod.mk.injEq] at H
 obtain ⟨rfl, rfl⟩ := H
 go_enter Tryd.func105, Tryd.ntmps105
 go_wp2_with (first | ((with_reducible refine zG 103 rfl ?_); refine zL (some 10) rfl rfl Tryd.func103 #[.slice A0 l0.length c0] rfl ?_; (with_reducible refine (nat_one.calls k (fun k_ => k_ < w.heap.size) _ _ l0 t171 t174 _ ?side1 A3.out).mono ?_); (case side1 => exact V_mk HC0.out (Kd.F_below (C_F (Kd.heap_int .u64) HR0.out) bq)); rintro e w20 ⟨v172, rfl, ho0, hb⟩; refine ⟨_, rfl, ?_⟩; have HO173 := zA (V_lower (V_mono (ok' := fun k_ => True) ho0 (fun k_ hk_ => trivial)) (below_size bq)); replace HB := ze hb; (try clear ho0)))
 go_ret2
 exact ⟨_, er, by first | exact R_nil _ _ _ _ _ | exact Kd.N_nil _ _ _ _ _ | exact V_nil _ _ _ _ _ | exact Kd.Q_nil _ _ _ _ _ | exact Kd.S_nil _ _ _ _ _, bq⟩
def round_word.f (l0 : List Int) : Option (Int) := if (l0.length : Int) = 0 then (some 0) else (if 0 < (l0.length : Int) then (some (rd l0 0)) else (none))
set_option maxHeartbeats 8000000 in
set_option maxRecDepth 100000 in
theorem round_word.calls (A0 : Option Addr) (c0 : Nat) (l0 : List Int) (r : Int) (w : World) (hr0 : Kd.C (Kd.int .u64) w A0 l0.length l0) (hc0 : l0.length ≤ c0) (h : round_word.f l0 = some r) :
  Calls Tryd.prog 106 #[.slice A0 l0.length c0] w fun e w' => e = .returned (.int .u64 r) ∧ Drawn0 w w' := by
 have HR0 := zA hr0
 have HC0 := zA hc0
 clear hr0 hc0
 have H : (if (l0.length : Int) = 0 then (some 0) else (if 0 < (l0.length : Int) then (some (rd l0 0)) else (none))) = some r := h
 clear h
 by_cases c2 : (l0.length : Int) = 0
 ·rw [if_pos c2] at H
  have c2b0 := beq_iff_eq.mpr c2
  have c2b1 := bne_eq_false_iff_eq.mpr c2
  clear c2
  obtain rfl := Option.some.inj H
  go_enter Tryd.func106, Tryd.ntmps106
  go_wp2
  go_ret
  exact ⟨by first | rfl | (simp; done) | (simp [*]; done), by repeat (first | exact Drawn0.refl _ | apply Drawn0.step)⟩
 rw [if_neg c2] at H
 have c2b0 := beq_eq_false_iff_ne.mpr c2
 have c2b1 := bne_iff_ne.mpr c2
 have c2b2 : ¬ (l0 = []) := fun h_ => c2 (by rw [h_]; rfl)
 replace H := dn H
 obtain ⟨c3, H⟩ := H
 have c3b0 := decide_eq_true c3
 have c3b1 : decide (0 < l0.length) = true := decide_eq_true (by omega)
 clear c3
 obtain rfl := Option.some.inj H
 have p182 : 0 ≤ (0 : Int) := (by omega)
 have q182 : 0 < (l0.length : Int) := od
 obtain ⟨ad182, e182, hx182_0⟩ := Kd.at_int HR0.out 0 p182 q182
 cases e182
 have qi182 : (0 < l0.length) = True := eq_true (by omega)
 (try rw [show ((0 : Int)).toNat = 0 from rfl] at hx182_0)
 (try rw [Addr.add_zero'] at hx182_0)
 replace p182 := eq_true p182
 replace q182 := eq_true q182
 go_enter Tryd.func106, Tryd.ntmps106
 go_wp2
 go_ret
 exact ⟨by first | rfl | (simp; done) | (simp [*]; done), by repeat (first | exact Drawn0.refl _ | apply Drawn0.step)⟩
end Go.Proofs.YtnjfckadjklmfaaDoor.PAll
