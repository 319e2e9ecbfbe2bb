/- Printed functions, merged by a program of this session. -/
import Derived.Test.YtnjfckadjklmfaaDoorXRoundNearsP0
import Derived.Test.YtnjfckadjklmfaaDoorXRoundNearsSh
namespace Go.Proofs.YtnjfckadjklmfaaDoor.PAll
open Go.RowKit Go.Proofs.YtnjfckadjklmfaaDoorW.PrintWords Go.Proofs.YtnjfckadjklmfaaDoorW.PrintLast Go.Proofs.YtnjfckadjklmfaaDoorW.PrintMore Go.Proofs.YtnjfckadjklmfaaDoorW.PrintWords.Kd
attribute [local go_sem] max2_int min2_int max_two min_two max_three min_three max_four min_four   -- for this text's walks alone
set_option linter.unusedVariables false
set_option linter.unusedSimpArgs false
attribute [local go_sem] fld75_0 fld75_1 fld75_2 ext118 ext119
mutual
def nat_number_shr.l0 : Nat → List Int → Int → Int → Bool → List Int → Int → Int → Option (List Int × Bool)
 | 0, _, _, _, _, _, _, _ => none
 | k + 1, x0, x6, x7, x8, x35, x36, x37 => if x37 < x36 then (if 0 ≤ x37 then (if x37 < (x35.length : Int) then (if x8 = true then (nat_number_shr.l0 k x0 x6 x7 true x35 x36 (wrap64 (x37 + 1))) else (nat_number_shr.l0 k x0 x6 x7 ((rd x35 x37) != 0) x35 x36 (wrap64 (x37 + 1)))) else (none)) else (none)) else (if 0 ≤ (wrap64 ((x0.length : Int) - x6)) then (if (wrap64 ((x0.length : Int) - x6) : Int).toNat ≤ 35184372088832 then ((some (List.replicate (wrap64 ((x0.length : Int) - x6) : Int).toNat 0 : List Int)).bind fun y186 => (nat_number_shr.l1 k x0 x6 x7 x8 y186 (y186.length : Int) 0)) else (none)) else (none))
def nat_number_shr.l1 : Nat → List Int → Int → Int → Bool → List Int → Int → Int → Option (List Int × Bool)
 | 0, _, _, _, _, _, _, _ => none
 | k + 1, x0, x6, x7, x8, x11, x53, x54 => if x54 < x53 then (if 0 ≤ (wrap64 (x54 + x6)) then (if (wrap64 (x54 + x6)) < (x0.length : Int) then (if 0 ≤ x7 then (if 0 ≤ x54 then (if x54 < (x11.length : Int) then ((some (x11.set (x54 : Int).toNat (shr .u64 (rd x0 (wrap64 (x54 + x6))) x7) : List Int)).bind fun y190 => (if x7 > 0 then (if (wrap64 ((wrap64 (x54 + x6)) + 1)) < (x0.length : Int) then (if 0 ≤ (wrap64 ((wrap64 (x54 + x6)) + 1)) then (if 0 ≤ (wrap64 (64 - x7)) then (nat_number_shr.l1 k x0 x6 x7 x8 (y190.set (x54 : Int).toNat (Go.bits .or .u64 (rd y190 x54) (shl .u64 (rd x0 (wrap64 ((wrap64 (x54 + x6)) + 1))) (wrap64 (64 - x7))))) x53 (wrap64 (x54 + 1))) else (none)) else (none)) else (nat_number_shr.l1 k x0 x6 x7 x8 y190 x53 (wrap64 (x54 + 1)))) else (nat_number_shr.l1 k x0 x6 x7 x8 y190 x53 (wrap64 (x54 + 1))))) else (none)) else (none)) else (none)) else (none)) else (none)) else ((nat_norm.f k x11).bind fun t194 => (some (t194, x8)))
end
def nat_number_shr.f (k : Nat) (l0 : List Int) (a1 : Int) : Option (List Int × Bool) := if (wrap64 (Int.tdiv a1 64)) ≥ (l0.length : Int) then (some (([] : List Int), decide ((l0.length : Int) > 0))) else (if 0 ≤ (wrap64 (Int.tdiv a1 64)) then (if (wrap64 (Int.tdiv a1 64)) < (l0.length : Int) then (if 0 ≤ (Int.tmod a1 64) then (if (wrap64 (Int.tdiv a1 64)) ≤ (l0.length : Int) then (nat_number_shr.l0 k l0 (wrap64 (Int.tdiv a1 64)) (Int.tmod a1 64) ((Go.bits .and .u64 (rd l0 (wrap64 (Int.tdiv a1 64))) (IntKind.u64.wrap ((shl .u64 1 (Int.tmod a1 64)) - 1))) != 0) (l0.take ((wrap64 (Int.tdiv a1 64)) : Int).toNat) (max (wrap64 (Int.tdiv a1 64)) 0) 0) else (none)) else (none)) else (none)) else (none))
theorem nat_number_shr.mono_l : ∀ k, (∀ y0 y1 y2 y3 y4 y5 y6, LeO (nat_number_shr.l0 k y0 y1 y2 y3 y4 y5 y6) (nat_number_shr.l0 (k + 1) y0 y1 y2 y3 y4 y5 y6)) ∧ (∀ y0 y1 y2 y3 y4 y5 y6, LeO (nat_number_shr.l1 k y0 y1 y2 y3 y4 y5 y6) (nat_number_shr.l1 (k + 1) y0 y1 y2 y3 y4 y5 y6))
 | 0 => ⟨fun _ _ _ _ _ _ _ r h => by simp [nat_number_shr.l0] at h, fun _ _ _ _ _ _ _ r h => by simp [nat_number_shr.l1] at h⟩
 | k + 1 => by
  obtain ⟨ih0, ih1⟩ := nat_number_shr.mono_l k
  refine ⟨?_, ?_⟩
  ·intro y0 y1 y2 y3 y4 y5 y6
   unfold nat_number_shr.l0
   repeat' first
   | (with_reducible exact ih0 _ _ _ _ _ _ _)
   | (with_reducible exact ih1 _ _ _ _ _ _ _)
   | (with_reducible exact nat_norm.mono _ _)
   | (with_reducible exact LeO.refl _)
   | (with_reducible exact LeO.none _)
   | (with_reducible refine LeO.ite ?_ ?_)
   | (with_reducible refine LeO.bind ?_ (fun _ => ?_))
   | exact ih0 _ _ _ _ _ _ _
   | exact ih1 _ _ _ _ _ _ _
   | exact nat_norm.mono _ _
   | exact LeO.none _
   | refine LeO.ite ?_ ?_
   | refine LeO.bind ?_ (fun _ => ?_)
  intro y0 y1 y2 y3 y4 y5 y6
  unfold nat_number_shr.l1
  repeat' first
  | (with_reducible exact ih0 _ _ _ _ _ _ _)
  | (with_reducible exact ih1 _ _ _ _ _ _ _)
  | (with_reducible exact nat_norm.mono _ _)
  | (with_reducible exact LeO.refl _)
  | (with_reducible exact LeO.none _)
  | (with_reducible refine LeO.ite ?_ ?_)
  | (with_reducible refine LeO.bind ?_ (fun _ => ?_))
  | exact ih0 _ _ _ _ _ _ _
  | exact ih1 _ _ _ _ _ _ _
  | exact nat_norm.mono _ _
  | exact LeO.none _
  | refine LeO.ite ?_ ?_
  | refine LeO.bind ?_ (fun _ => ?_)
theorem nat_number_shr.mono : ∀ a0 a1 k, LeO (nat_number_shr.f k a0 a1) (nat_number_shr.f (k + 1) a0 a1) := by
 intro a0 a1 k
 obtain ⟨ih0, ih1⟩ := nat_number_shr.mono_l k
 unfold nat_number_shr.f
 repeat' first
   | (with_reducible exact ih0 _ _ _ _ _ _ _)
   | (with_reducible exact ih1 _ _ _ _ _ _ _)
   | (with_reducible exact nat_norm.mono _ _)
   | (with_reducible exact LeO.refl _)
   | (with_reducible exact LeO.none _)
   | (with_reducible refine LeO.ite ?_ ?_)
   | (with_reducible refine LeO.bind ?_ (fun _ => ?_))
   | exact ih0 _ _ _ _ _ _ _
   | exact ih1 _ _ _ _ _ _ _
   | exact nat_norm.mono _ _
   | exact LeO.none _
   | refine LeO.ite ?_ ?_
   | refine LeO.bind ?_ (fun _ => ?_)
def nat_number_shr.T4 : Bool × List (List Nat × List Nat) := (true, [([], []), ([], []), ([0, 1], [0, 1]), ([2], [2]), ([], []), ([4], [4]), ([5], [5]), ([3, 6], [3, 6]), ([7], [7]), ([8, 0, 1, 2, 3, 4, 5, 6, 7, 8], [8])])
def nat_number_shr.B4 : List Nat := [0, 0, 3, 7, 0, 16, 48, 127, 255, 511]
theorem nat_number_shr.tab4 : rtab .any (opsOf Tryd.f124 4) = nat_number_shr.T4 := by kernel_rfl
theorem nat_number_shr.bits4 : waitsOk nat_number_shr.T4.2 nat_number_shr.B4 = true := by kernel_rfl
def nat_number_shr.T16 : Bool × List (List Nat × List Nat) := (true, [([], []), ([], []), ([0, 1], [0, 1]), ([2], [2]), ([], []), ([], []), ([], []), ([5, 6], [5, 6]), ([7], [7]), ([4, 8], [4, 8]), ([9], [9]), ([], []), ([11], [11]), ([10, 12], [10, 12]), ([3, 13], [3, 13]), ([0, 1, 0, 1, 2, 3, 4, 5, 6, 7, 8, 9, 10, 11, 12, 13, 14], [0, 1]), ([15, 14, 0, 1, 2, 3, 4, 5, 6, 7, 8, 9, 10, 11, 12, 13, 14], [14, 15])])
def nat_number_shr.B16 : List Nat := [0, 0, 3, 7, 0, 0, 0, 96, 224, 496, 1008, 0, 2048, 8176, 16383, 32767, 65535]
theorem nat_number_shr.tab16 : rtab .any (opsOf Tryd.f124 16) = nat_number_shr.T16 := by kernel_rfl
theorem nat_number_shr.bits16 : waitsOk nat_number_shr.T16.2 nat_number_shr.B16 = true := by kernel_rfl
set_option maxHeartbeats 8000000 in
set_option maxRecDepth 100000 in
theorem nat_number_shr.calls (k : Nat) (A0 : Option Addr) (c0 : Nat) (l0 : List Int) (a1 : Int) (r1 : List Int) (r2 : Bool) (w : World) (hr0 : Kd.C (Kd.int .u64) w A0 l0.length l0) (hc0 : l0.length ≤ c0) (h : nat_number_shr.f k l0 a1 = some (r1, r2)) :
  Calls Tryd.prog 124 #[.slice A0 l0.length c0, .int .i64 a1] w fun e w' => ∃ v0_ : Value, e = .returned (.tuple #[v0_, .bool r2]) ∧ Kd.V (Kd.int .u64) 26 w' w.heap.size (fun k_ => (w.heap.size ≤ k_)) v0_ r1 ∧ Below w.heap.size w w' := by
 have HR0 := zA hr0
 have HC0 := zA hc0
 clear hr0 hc0
 have HB := zA (Below.refl w.heap.size w)
 have H : (if (wrap64 (Int.tdiv a1 64)) ≥ (l0.length : Int) then (some (([] : List Int), decide ((l0.length : Int) > 0))) else (if 0 ≤ (wrap64 (Int.tdiv a1 64)) then (if (wrap64 (Int.tdiv a1 64)) < (l0.length : Int) then (if 0 ≤ (Int.tmod a1 64) then (if (wrap64 (Int.tdiv a1 64)) ≤ (l0.length : Int) then (nat_number_shr.l0 k l0 (wrap64 (Int.tdiv a1 64)) (Int.tmod a1 64) ((Go.bits .and .u64 (rd l0 (wrap64 (Int.tdiv a1 64))) (IntKind.u64.wrap ((shl .u64 1 (Int.tmod a1 64)) - 1))) != 0) (l0.take ((wrap64 (Int.tdiv a1 64)) : Int).toNat) (max (wrap64 (Int.tdiv a1 64)) 0) 0) else (none)) else (none)) else (none)) else (none))) = some (r1, r2) := h
 clear h
 by_cases c3 : (wrap64 (Int.tdiv a1 64)) ≥ (l0.length : Int)
 ·rw [if_pos c3] at H
  have c3b0 := decide_eq_true c3
  clear c3
  simp only [Option.some.injEq, Prod.mk.injEq] at H
  obtain ⟨rfl, rfl⟩ := H
  go_enter Tryd.func124, Tryd.ntmps124
  go_wp2
  go_ret2
  exact ⟨_, er, V_nil _ _ _ _ _, bq⟩
 rw [if_neg c3] at H
 have c3b0 := decide_eq_false c3
 clear c3
 obtain ⟨ji4, hji4⟩ : ∃ j_ : Int, (wrap64 (Int.tdiv a1 64)) = j_ := ⟨_, rfl⟩
 replace H : (if 0 ≤ (ji4) then (if (ji4) < (l0.length : Int) then (if 0 ≤ (Int.tmod a1 64) then (if (ji4) ≤ (l0.length : Int) then (nat_number_shr.l0 k l0 ji4 (Int.tmod a1 64) ((Go.bits .and .u64 (rd l0 (ji4)) (IntKind.u64.wrap ((shl .u64 1 (Int.tmod a1 64)) - 1))) != 0) (l0.take ((ji4) : Int).toNat) (max (ji4) 0) 0) else (none)) else (none)) else (none)) else (none)) = some (r1, r2) := zQ hji4 H
 (try rw [hji4] at c3b0)
 have hji4w : (IntKind.i64.wrap (Int.tdiv a1 64)) = ji4 := (i64_w _).trans hji4
 replace H := dn H
 obtain ⟨c5, H⟩ := H
 have c5b0 := decide_eq_true c5
 clear c5
 replace H := dn H
 obtain ⟨c6, H⟩ := H
 have c6b0 := decide_eq_true c6
 clear c6
 obtain ⟨ji7, hji7⟩ : ∃ j_ : Int, (Int.tmod a1 64) = j_ := ⟨_, rfl⟩
 replace H : (if 0 ≤ (ji7) then (if (ji4) ≤ (l0.length : Int) then (nat_number_shr.l0 k l0 ji4 ji7 ((Go.bits .and .u64 (rd l0 (ji4)) (IntKind.u64.wrap ((shl .u64 1 (ji7)) - 1))) != 0) (l0.take ((ji4) : Int).toNat) (max (ji4) 0) 0) else (none)) else (none)) = some (r1, r2) := zQ hji7 H
 replace H := dn H
 obtain ⟨c8, H⟩ := H
 have c8b0 := eq_true c8
 have c8b1 := decide_eq_true c8
 clear c8
 obtain ⟨ji9, hji9⟩ : ∃ j_ : Int, (shl .u64 1 (ji7)) = j_ := ⟨_, rfl⟩
 replace H : (if (ji4) ≤ (l0.length : Int) then (nat_number_shr.l0 k l0 ji4 ji7 ((Go.bits .and .u64 (rd l0 (ji4)) (IntKind.u64.wrap ((ji9) - 1))) != 0) (l0.take ((ji4) : Int).toNat) (max (ji4) 0) 0) else (none)) = some (r1, r2) := zQ hji9 H
 have hji9_ : (IntKind.u64.wrap (1 * 2 ^ min (ji7).toNat 64)) = ji9 := hji9
 have hji9z : (ji7) ≤ 64 → (IntKind.u64.wrap (1 * 2 ^ (ji7).toNat)) = ji9 := shl_small hji9
 have hji9u : (IntKind.u64.wrap (2 ^ min (ji7).toNat 64)) = ji9 := by have h_ := hji9_; rw [Int.one_mul] at h_; exact h_
 have hji9v : (ji7) ≤ 64 → (IntKind.u64.wrap (2 ^ (ji7).toNat)) = ji9 := fun hle_ => by have h_ := hji9z hle_; rw [Int.one_mul] at h_; exact h_
 have c10b0 := eq_true (od : 0 ≤ (ji4))
 replace H := dn H
 obtain ⟨c11, H⟩ := H
 have c11b0 := eq_true c11
 have c11b1 := decide_eq_true c11
 clear c11
 have H' := zA H
 clear H
 go_enter Tryd.func124, Tryd.ntmps124
 try go_wp2
 replace HB := zA (below_drew1 HB.out)
 have p183 : 0 ≤ ((ji4) : Int) := od
 have q183 : (ji4) < (l0.length : Int) := od
 obtain ⟨ad183, e183, hx183_0⟩ := Kd.at_int HR0.out (ji4) p183 q183
 have hw183_0 := hx183_0
 cases e183
 replace hx183_0 := (HB.out.cell (World.block_lt_of_cell? w _ hx183_0)).trans hx183_0
 replace p183 := eq_true p183
 replace q183 := eq_true q183
 refine start_ (n := 10) (S := fun w' => w'.cell? (ad183.add ((ji4)).toNat) = some (.int .u64 (rd l0 (ji4)))) (ds := []) #[false, false, false, false, false, false, false, false, false, false] (by kernel_rfl) rfl rfl (((HB.out.cell (World.block_lt_of_cell? w _ hw183_0)).trans hw183_0)) (fun hHeld => ?_); refine with_tabW nat_number_shr.tab4 nat_number_shr.bits4 (fun HT_ HW_ => ?_)
 generalize w.drew = w12 at HB hx183_0 hHeld ⊢
 refine pure_ (i := 0) (N := some 24) (v := ?_) (a' := ?_) #[true, false, false, false, false, false, false, false, false, false] rfl rfl (any_of HT_.out (by kernel_rfl)) (fun _ _ _ h => h) (Or.inl ⟨by rfl, ?_⟩) ?_ ?_
 rotate_left
 ·intro w'
  go_simp
  with_reducible rfl
 rotate_left
 ·exact zq
 refine pure_ (i := 1) (N := some 25) (v := ?_) (a' := ?_) #[true, true, false, false, false, false, false, false, false, false] rfl rfl (any_of HT_.out (by kernel_rfl)) (fun _ _ _ h => h) (Or.inl ⟨by rfl, ?_⟩) ?_ ?_
 rotate_left
 ·intro w'
  go_simp
  with_reducible rfl
 rotate_left
 ·exact zq
 refine pure_ (i := 2) (N := some 26) (v := ?_) (a' := ?_) #[true, true, true, false, false, false, false, false, false, false] rfl rfl (any_of HT_.out (by kernel_rfl)) (fun _ _ _ h => h) (Or.inl ⟨by rfl, ?_⟩) ?_ ?_
 rotate_left
 ·intro w'
  go_simp
  with_reducible rfl
 rotate_left
 ·exact zq
 refine pure_ (i := 4) (N := some 28) (v := ?_) (a' := ?_) #[true, true, true, false, true, false, false, false, false, false] rfl rfl (any_of HT_.out (by kernel_rfl)) (fun _ _ _ h => h) (Or.inl ⟨by rfl, ?_⟩) ?_ ?_
 rotate_left
 ·intro w'
  go_simp
  with_reducible rfl
 rotate_left
 ·exact zq
 refine pure_ (i := 5) (N := some 29) (v := ?_) (a' := ?_) #[true, true, true, false, true, true, false, false, false, false] rfl rfl (any_of HT_.out (by kernel_rfl)) (fun _ _ _ h => h) (Or.inl ⟨by rfl, ?_⟩) ?_ ?_
 rotate_left
 ·intro w'
  go_simp
  with_reducible rfl
 rotate_left
 ·exact zq
 refine pure_ (i := 6) (N := some 30) (v := ?_) (a' := ?_) #[true, true, true, false, true, true, true, false, false, false] rfl rfl (any_of HT_.out (by kernel_rfl)) (fun _ _ _ h => h) (Or.inl ⟨by rfl, ?_⟩) ?_ ?_
 rotate_left
 ·intro w'
  go_simp
  with_reducible rfl
 rotate_left
 ·exact zq
 refine take_ (i := 3) (N := some 27) (v := ?_) (a' := ?_) #[true, true, true, true, true, true, true, false, false, false] rfl rfl (take_ofW HT_.out HW_.out (by kernel_rfl)) (fun _ _ _ h => h) (Or.inl ⟨by rfl, ?_⟩) hHeld ?_ ?_
 rotate_left
 ·intro w' s0
  go_simp
  with_reducible rfl
 rotate_left
 ·exact zq
 refine pure_ (i := 7) (N := some 31) (v := ?_) (a' := ?_) #[true, true, true, true, true, true, true, true, false, false] rfl rfl (any_of HT_.out (by kernel_rfl)) (fun _ _ _ h => h) (Or.inl ⟨by rfl, ?_⟩) ?_ ?_
 rotate_left
 ·intro w'
  go_simp
  with_reducible rfl
 rotate_left
 ·exact zq
 refine pure_ (i := 8) (N := some 32) (v := ?_) (a' := ?_) #[true, true, true, true, true, true, true, true, true, false] rfl rfl (any_of HT_.out (by kernel_rfl)) (fun _ _ _ h => h) (Or.inl ⟨by rfl, ?_⟩) ?_ ?_
 rotate_left
 ·intro w'
  go_simp
  with_reducible rfl
 rotate_left
 ·exact zq
 refine pure_ (i := 9) (N := some 8) (v := ?_) (a' := ?_) #[true, true, true, true, true, true, true, true, true, true] rfl rfl (any_of HT_.out (by kernel_rfl)) (fun _ _ _ h => h) (Or.inl ⟨by rfl, ?_⟩) ?_ ?_
 rotate_left
 ·intro w'
  go_simp
  with_reducible rfl
 rotate_left
 ·exact zq
 refine done_ (done_of HT_.out (by kernel_rfl)) ?_
 obtain ⟨i013, hi013, _, hsz13, _⟩ := info_parts info26
 obtain ⟨hcut13, hA13, hC13⟩ := print_take_of (P := Tryd.prog) (Value.int .u64) 0 106 26 .i64 Tryd.underlying106 hi013 hsz13 (some ad183) c0 l0 (ji4) (od) (od) HC0.out
 have HR184 := zA (C_of_reads (h1 := fun _ => rfl) (hA13 _ (Kd.reads_of_C HR0.out)))
 have HC184 := zA hC13
 clear hA13 hC13 hi013 hsz13
 try go_wp2
 go_loopg [8, 37] k (fun kq v8 v37 w' => ∃ (x8_1 : Bool) (x37_1 : Int), v8 = .bool x8_1 ∧ v37 = .int .i64 x37_1 ∧ Aside0 (nat_number_shr.l0 kq l0 ji4 ji7 x8_1 (l0.take ((ji4) : Int).toNat) (max (ji4) 0) x37_1 = some (r1, r2)) ∧ Aside0 (kq ≤ k) ∧ Aside0 (Below w.heap.size w w'))
 case atStart => exact ⟨(((Go.bits .and .u64 (rd l0 (ji4)) (IntKind.u64.wrap ((ji9) - 1))) != 0)), (0), (by first | rfl | (simp; done) | (simp only [← hji4, ← hji9] <;> (first | rfl | simp)) | (simp [*]; done)), zi, H', ⟨Nat.le_refl _⟩, ⟨bq⟩⟩
 case round =>
  clear H'
  try clear c3
  try clear c3b0
  try clear c5
  try clear c5b0
  try clear c6
  try clear c6b0
  try clear c8
  try clear c8b0
  try clear c8b1
  try clear c10b0
  try clear c11
  try clear c11b0
  try clear c11b1
  try clear hx183_0
  try clear p183
  try clear q183
  obtain ⟨x8_1, x37_1, rfl, rfl, HA, HK1, HB⟩ := hrel
  cases gk with
  | zero => exact absurd HA.out (by simp [nat_number_shr.l0])
  | succ k1 =>
   have H := HA.out
   clear HA
   simp only [nat_number_shr.l0] at H
   by_cases c14 : x37_1 < (max (ji4) 0)
   ·rw [if_pos c14] at H
    have c14b0 := decide_eq_true c14
    have c14bx : (x37_1 < (max (ji4) 0)) = True := eq_true c14
    clear c14
    replace H := dn H
    obtain ⟨c15, H⟩ := H
    have c15b0 := decide_eq_true c15
    clear c15
    replace H := dn H
    obtain ⟨c16, H⟩ := H
    have c16b0 : decide (x37_1 < ((l0.take ((ji4) : Int).toNat).length : Int)) = true := decide_eq_true c16
    clear c16
    by_cases c17 : x8_1 = true
    ·subst c17
     rw [if_pos rfl] at H
     have H' := zA H
     clear H
     have p185 : 0 ≤ (x37_1 : Int) := od
     have q185 : x37_1 < ((l0.take ((ji4) : Int).toNat).length : Int) := od
     obtain ⟨ad185, e185, hx185_0⟩ := Kd.at_int HR184.out x37_1 p185 q185
     obtain rfl : ad183 = ad185 := (by injection e185)
     replace hx185_0 := (HB.out.cell (World.block_lt_of_cell? w _ hx185_0)).trans hx185_0
     replace p185 := eq_true p185
     replace q185 := eq_true q185
     go_wp2
     go_roundg k1
     case measure => have := HK1.out; omega
     case rel => exact ⟨(true), (wrap64 (x37_1 + 1)), zi, zi, (by first | exact H' | (simp only [hji4, hji7, hji9]; exact H') | (simp only [hji4, hji7, hji9] at H' ⊢; exact H')), ⟨by have := HK1.out; omega⟩, ⟨bq⟩⟩
    replace c17 := Bool.eq_false_iff.mpr c17
    subst c17
    rw [if_neg (show ¬ (false = true) by decide)] at H
    have H' := zA H
    clear H
    have p185 : 0 ≤ (x37_1 : Int) := od
    have q185 : x37_1 < ((l0.take ((ji4) : Int).toNat).length : Int) := od
    obtain ⟨ad185, e185, hx185_0⟩ := Kd.at_int HR184.out x37_1 p185 q185
    obtain rfl : ad183 = ad185 := (by injection e185)
    replace hx185_0 := (HB.out.cell (World.block_lt_of_cell? w _ hx185_0)).trans hx185_0
    replace p185 := eq_true p185
    replace q185 := eq_true q185
    go_wp2
    go_roundg k1
    case measure => have := HK1.out; omega
    case rel => exact ⟨(((rd (l0.take ((ji4) : Int).toNat) x37_1) != 0)), (wrap64 (x37_1 + 1)), (by first | rfl | (simp; done) | (simp only [← hji4] <;> (first | rfl | simp)) | (simp [*]; done)), zi, (by first | exact H' | (simp only [hji4, hji7, hji9]; exact H') | (simp only [hji4, hji7, hji9] at H' ⊢; exact H')), ⟨by have := HK1.out; omega⟩, ⟨bq⟩⟩
   rw [if_neg c14] at H
   have c14b0 := decide_eq_false c14
   clear c14
   obtain ⟨ji18, hji18⟩ : ∃ j_ : Int, (wrap64 ((l0.length : Int) - ji4)) = j_ := ⟨_, rfl⟩
   replace H : (if 0 ≤ (ji18) then (if (ji18 : Int).toNat ≤ 35184372088832 then ((some (List.replicate (ji18 : Int).toNat 0 : List Int)).bind fun y186 => (nat_number_shr.l1 k1 l0 ji4 ji7 x8_1 y186 (y186.length : Int) 0)) else (none)) else (none)) = some (r1, r2) := zQ hji18 H
   have hji18w : (IntKind.i64.wrap ((l0.length : Int) - ji4)) = ji18 := (i64_w _).trans hji18
   replace H := dn H
   obtain ⟨c19, H⟩ := H
   have c19b0 := eq_true c19
   have c19b1 := decide_eq_true c19
   clear c19
   replace H := dn H
   obtain ⟨c20, H⟩ := H
   have c20b0 := eq_true c20
   have c20b1 := decide_eq_true c20
   clear c20
   obtain ⟨y186, hy186⟩ : ∃ y_ : List Int, y_ = (List.replicate (ji18 : Int).toNat 0) := ⟨_, rfl⟩
   replace H : (nat_number_shr.l1 k1 l0 ji4 ji7 x8_1 y186 (y186.length : Int) 0) = some (r1, r2) := zR hy186 H
   have Ny186 := zA hy186
   clear hy186
   have H' := zA H
   clear H
   go_wp2_with (first | ((with_reducible refine zD 51 rfl ?_); (try (refine gate_guard (by rfl) ?_; dsimp only)); refine R_make (Kd.int .u64) _ 26 rfl (N := 51) rfl 106 _ _ rfl ji18 rfl rfl Tryd.underlying106 (.int .u64 0) 8 info26 rfl (by decide) (by omega) 0 (ok := fun _ => True) (okp := fun _ => True) rfl (fun _ hk => hk) trivial (od) (Nat.le_trans (Nat.mul_le_mul_right _ (od : ji18.toNat ≤ 35184372088832)) (by omega)) (Below.refl _ _) (Nat.le_refl _) ?_; intro v187 w21 ho22 hb hg_ hnew_; clear hg_ hnew_; (first | rw [← Ny186.out] at ho22 | (simp only [Int.reduceToNat] at ho22; rw [← Ny186.out] at ho22)); have HO188 := zA (R_lower (R_newM (M := fun k_ => (w.heap.size ≤ k_)) ho22 (below_size bq) (fun k_ h_ => h_)) (below_size bq)); replace HB := ze hb; clear hb ho22; obtain ⟨Ao23, co23, eo23⟩ := R_slice HO188.out; subst eo23))
   go_loopg [54] k1 (fun kq v54 w' => ∃ (x11_2 : List Int) (x54_2 : Int), v54 = .int .i64 x54_2 ∧ Aside0 (nat_number_shr.l1 kq l0 ji4 ji7 x8_1 x11_2 (y186.length : Int) x54_2 = some (r1, r2)) ∧ Aside0 (kq ≤ k1) ∧ Aside0 (Kd.R (Kd.int .u64) 26 w' w.heap.size (fun k_ => (w.heap.size ≤ k_)) (.slice Ao23 y186.length co23) x11_2) ∧ Aside0 (Below w.heap.size w w'))
   case atStart => exact ⟨(y186), (0), zi, H', ⟨Nat.le_refl _⟩, ⟨ru (R_mono HO188.out (fun _ hk => hk.1))⟩, ⟨bq⟩⟩
   case round =>
    clear H'
    try clear c3
    try clear c3b0
    try clear c5
    try clear c5b0
    try clear c6
    try clear c6b0
    try clear c8
    try clear c8b0
    try clear c8b1
    try clear c10b0
    try clear c11
    try clear c11b0
    try clear c11b1
    try clear c14
    try clear c14b0
    try clear c15
    try clear c15b0
    try clear c16
    try clear c16b0
    try clear c17
    try clear c19
    try clear c19b0
    try clear c19b1
    try clear c20
    try clear c20b0
    try clear c20b1
    try clear hx183_0
    try clear hx185_0
    try clear p183
    try clear p185
    try clear q183
    try clear q185
    obtain ⟨x11_2, x54_2, rfl, HA, HK2, HO_11, HB⟩ := hrel
    have hl11_2 := (R_reads' HO_11.out).1
    rw [hl11_2] at HO_11
    (try simp only [hl11_2])
    cases gk with
    | zero => exact absurd HA.out (by simp [nat_number_shr.l1])
    | succ k2 =>
     have H := HA.out
     clear HA
     simp only [nat_number_shr.l1] at H
     by_cases c24 : x54_2 < (y186.length : Int)
     ·rw [if_pos c24] at H
      have c24b0 := decide_eq_true c24
      (try rw [hl11_2] at c24b0)
      clear c24
      obtain ⟨ji25, hji25⟩ : ∃ j_ : Int, (wrap64 (x54_2 + ji4)) = j_ := ⟨_, rfl⟩
      replace H : (if 0 ≤ (ji25) then (if (ji25) < (l0.length : Int) then (if 0 ≤ ji7 then (if 0 ≤ x54_2 then (if x54_2 < (x11_2.length : Int) then ((some (x11_2.set (x54_2 : Int).toNat (shr .u64 (rd l0 (ji25)) ji7) : List Int)).bind fun y190 => (if ji7 > 0 then (if (wrap64 ((ji25) + 1)) < (l0.length : Int) then (if 0 ≤ (wrap64 ((ji25) + 1)) then (if 0 ≤ (wrap64 (64 - ji7)) then (nat_number_shr.l1 k2 l0 ji4 ji7 x8_1 (y190.set (x54_2 : Int).toNat (Go.bits .or .u64 (rd y190 x54_2) (shl .u64 (rd l0 (wrap64 ((ji25) + 1))) (wrap64 (64 - ji7))))) (y186.length : Int) (wrap64 (x54_2 + 1))) else (none)) else (none)) else (nat_number_shr.l1 k2 l0 ji4 ji7 x8_1 y190 (y186.length : Int) (wrap64 (x54_2 + 1)))) else (nat_number_shr.l1 k2 l0 ji4 ji7 x8_1 y190 (y186.length : Int) (wrap64 (x54_2 + 1))))) else (none)) else (none)) else (none)) else (none)) else (none)) = some (r1, r2) := zQ hji25 H
      have hji25w : (IntKind.i64.wrap (x54_2 + ji4)) = ji25 := (i64_w _).trans hji25
      replace H := dn H
      obtain ⟨c26, H⟩ := H
      have c26b0 := decide_eq_true c26
      clear c26
      replace H := dn H
      obtain ⟨c27, H⟩ := H
      have c27b0 := decide_eq_true c27
      (try rw [hl11_2] at c27b0)
      clear c27
      replace H := dn H
      obtain ⟨c28, H⟩ := H
      have c28b0 := eq_true c28
      have c28b1 := decide_eq_true c28
      clear c28
      obtain ⟨ji29, hji29⟩ : ∃ j_ : Int, (shr .u64 (rd l0 (ji25)) ji7) = j_ := ⟨_, rfl⟩
      replace H : (if 0 ≤ x54_2 then (if x54_2 < (x11_2.length : Int) then ((some (x11_2.set (x54_2 : Int).toNat (ji29) : List Int)).bind fun y190 => (if ji7 > 0 then (if (wrap64 ((ji25) + 1)) < (l0.length : Int) then (if 0 ≤ (wrap64 ((ji25) + 1)) then (if 0 ≤ (wrap64 (64 - ji7)) then (nat_number_shr.l1 k2 l0 ji4 ji7 x8_1 (y190.set (x54_2 : Int).toNat (Go.bits .or .u64 (rd y190 x54_2) (shl .u64 (rd l0 (wrap64 ((ji25) + 1))) (wrap64 (64 - ji7))))) (y186.length : Int) (wrap64 (x54_2 + 1))) else (none)) else (none)) else (nat_number_shr.l1 k2 l0 ji4 ji7 x8_1 y190 (y186.length : Int) (wrap64 (x54_2 + 1)))) else (nat_number_shr.l1 k2 l0 ji4 ji7 x8_1 y190 (y186.length : Int) (wrap64 (x54_2 + 1))))) else (none)) else (none)) = some (r1, r2) := zQ hji29 H
      have hji29_ : ((rd l0 (ji25)) / 2 ^ min ji7.toNat 64) = ji29 := hji29
      have hji29z : ji7 ≤ 64 → ((rd l0 (ji25)) / 2 ^ ji7.toNat) = ji29 := shr_small hji29
      replace H := dn H
      obtain ⟨c30, H⟩ := H
      have c30b0 := decide_eq_true c30
      clear c30
      replace H := dn H
      obtain ⟨c31, H⟩ := H
      have c31b0 := decide_eq_true c31
      (try rw [hl11_2] at c31b0)
      clear c31
      obtain ⟨y190, hy190⟩ : ∃ y_ : List Int, y_ = (x11_2.set (x54_2 : Int).toNat (ji29)) := ⟨_, rfl⟩
      replace H : (if ji7 > 0 then (if (wrap64 ((ji25) + 1)) < (l0.length : Int) then (if 0 ≤ (wrap64 ((ji25) + 1)) then (if 0 ≤ (wrap64 (64 - ji7)) then (nat_number_shr.l1 k2 l0 ji4 ji7 x8_1 (y190.set (x54_2 : Int).toNat (Go.bits .or .u64 (rd y190 x54_2) (shl .u64 (rd l0 (wrap64 ((ji25) + 1))) (wrap64 (64 - ji7))))) (y186.length : Int) (wrap64 (x54_2 + 1))) else (none)) else (none)) else (nat_number_shr.l1 k2 l0 ji4 ji7 x8_1 y190 (y186.length : Int) (wrap64 (x54_2 + 1)))) else (nat_number_shr.l1 k2 l0 ji4 ji7 x8_1 y190 (y186.length : Int) (wrap64 (x54_2 + 1)))) = some (r1, r2) := zR hy190 H
      have Ny190 := zA hy190
      clear hy190
      by_cases c33 : ji7 > 0
      ·rw [if_pos c33] at H
       have c33b0 := decide_eq_true c33
       clear c33
       by_cases c34 : (wrap64 ((ji25) + 1)) < (l0.length : Int)
       ·rw [if_pos c34] at H
        have c34b0 := decide_eq_true c34
        (try rw [hl11_2] at c34b0)
        clear c34
        obtain ⟨ji35, hji35⟩ : ∃ j_ : Int, (wrap64 ((ji25) + 1)) = j_ := ⟨_, rfl⟩
        replace H : (if 0 ≤ (ji35) then (if 0 ≤ (wrap64 (64 - ji7)) then (nat_number_shr.l1 k2 l0 ji4 ji7 x8_1 (y190.set (x54_2 : Int).toNat (Go.bits .or .u64 (rd y190 x54_2) (shl .u64 (rd l0 (ji35)) (wrap64 (64 - ji7))))) (y186.length : Int) (wrap64 (x54_2 + 1))) else (none)) else (none)) = some (r1, r2) := zQ hji35 H
        (try rw [hji35] at c34b0)
        have hji35w : (IntKind.i64.wrap ((ji25) + 1)) = ji35 := (i64_w _).trans hji35
        replace H := dn H
        obtain ⟨c36, H⟩ := H
        have c36b0 := decide_eq_true c36
        clear c36
        obtain ⟨ji37, hji37⟩ : ∃ j_ : Int, (wrap64 (64 - ji7)) = j_ := ⟨_, rfl⟩
        replace H : (if 0 ≤ (ji37) then (nat_number_shr.l1 k2 l0 ji4 ji7 x8_1 (y190.set (x54_2 : Int).toNat (Go.bits .or .u64 (rd y190 x54_2) (shl .u64 (rd l0 (ji35)) (ji37)))) (y186.length : Int) (wrap64 (x54_2 + 1))) else (none)) = some (r1, r2) := zQ hji37 H
        have hji37w : (IntKind.i64.wrap (64 - ji7)) = ji37 := (i64_w _).trans hji37
        replace H := dn H
        obtain ⟨c38, H⟩ := H
        have c38b0 := eq_true c38
        have c38b1 := decide_eq_true c38
        clear c38
        obtain ⟨ji39, hji39⟩ : ∃ j_ : Int, (shl .u64 (rd l0 (ji35)) (ji37)) = j_ := ⟨_, rfl⟩
        replace H : (nat_number_shr.l1 k2 l0 ji4 ji7 x8_1 (y190.set (x54_2 : Int).toNat (Go.bits .or .u64 (rd y190 x54_2) (ji39))) (y186.length : Int) (wrap64 (x54_2 + 1))) = some (r1, r2) := zQ hji39 H
        have hji39_ : (IntKind.u64.wrap ((rd l0 (ji35)) * 2 ^ min (ji37).toNat 64)) = ji39 := hji39
        have hji39z : (ji37) ≤ 64 → (IntKind.u64.wrap ((rd l0 (ji35)) * 2 ^ (ji37).toNat)) = ji39 := shl_small hji39
        obtain ⟨y193, hy193⟩ : ∃ y_ : List Int, y_ = (y190.set (x54_2 : Int).toNat (Go.bits .or .u64 (rd y190 x54_2) (ji39))) := ⟨_, rfl⟩
        replace H : (nat_number_shr.l1 k2 l0 ji4 ji7 x8_1 y193 (y186.length : Int) (wrap64 (x54_2 + 1))) = some (r1, r2) := zR hy193 H
        have Ny193 := zA hy193
        clear hy193
        have H' := zA H
        clear H
        have p189 : 0 ≤ ((ji25) : Int) := od
        have q189 : (ji25) < (l0.length : Int) := od
        obtain ⟨ad189, e189, hx189_0⟩ := Kd.at_int HR0.out (ji25) p189 q189
        obtain rfl : ad183 = ad189 := (by injection e189)
        replace hx189_0 := (HB.out.cell (World.block_lt_of_cell? w _ hx189_0)).trans hx189_0
        replace p189 := eq_true p189
        replace q189 := eq_true q189
        have p32 : 0 ≤ (x54_2 : Int) := od
        have q32 : (x54_2 : Int) < ((x11_2.length : Int) : Int) := od
        obtain ⟨go32, co32, eo32, gb32, gl32, cl32, HG32⟩ := R_form HO_11.out (by omega)
        (first | cases eo32 | (injection eo32 with ea_ en_ ec_; (first | subst ea_ | (injection ea_ with ea_; subst ea_)); subst ec_; clear en_))
        have GB32 := zA gb32
        have GG32 := zA HG32
        clear gb32 gl32 HG32
        obtain ⟨hx32_0, hf32_0⟩ := R_celln 0 HO_11.out (x54_2 : Int) p32 q32
        replace p32 := eq_true p32
        replace q32 := eq_true q32
        have HP41 := R_putg HO_11.out (x54_2 : Int) ji29
        try go_wp2_with (first | ((with_reducible refine gate_store (t := 26) (p := 67) rfl ?_); refine store_event (t := 26) (p := 67) (v := ?vo_w42) (w1 := (wr.setCell ⟨go32, (x54_2 : Int).toNat, none⟩ (.int .u64 ji29))) ?hg ?ho ?hn ?hr ?_; (case ho => rfl); (case hg => rfl); (case hn => rfl); (case hr => first | (go_simp; done) | (go_simp; rfl)); intro w42 hw; have hg : wr.grownBy w42 (some go32) := (by rw [hw]; exact HP41.2); have hp_ : Kd.R (Kd.int .u64) 26 w42 w.heap.size (fun k_ => (w.heap.size ≤ k_)) (.slice (some ⟨go32, 0, none⟩) x11_2.length co23) y190 := (by rw [hw, Ny190.out]; exact HP41.1); clear HP41; replace HO_11 := zA (hp_); replace HB := zA ((by rw [hw]; exact below_set (HB.out) GB32.out : Below w.heap.size w w42)); clear hg hw hp_))
        replace HO_11 := zA (R_drew HO_11.out)
        replace HB := zA (below_drew1 HB.out)
        have p191 : 0 ≤ (x54_2 : Int) := od
        have q191 : x54_2 < (y190.length : Int) := (by have h_ : (x54_2 : Int) < ((x11_2.length : Int) : Int) := od; first | (have e_ := (R_reads' HO_11.out).1; omega) | simpa only [Ny190.out, List.length_set] using h_)
        have ql191 : ((x54_2 : Int) < ((x11_2.length : Int) : Int)) = True := eq_true (od)
        obtain ⟨ad191, e191, hx191_0⟩ := Kd.at_int (R_reads' HO_11.out).2.2 x54_2 p191 q191
        obtain rfl : (⟨go32, 0, none⟩ : Addr) = ad191 := (by injection e191)
        (first | simp only [add_plain] at hx191_0 | simp only [add_at] at hx191_0 | simp only [Addr.add, Nat.zero_add] at hx191_0 | skip)
        replace p191 := eq_true p191
        replace q191 := eq_true q191
        have p192 : 0 ≤ ((ji35) : Int) := od
        have q192 : (ji35) < (l0.length : Int) := od
        obtain ⟨ad192, e192, hx192_0⟩ := Kd.at_int HR0.out (ji35) p192 q192
        have hw192_0 := hx192_0
        obtain rfl : ad183 = ad192 := (by injection e192)
        replace hx192_0 := (HB.out.cell (World.block_lt_of_cell? w _ hx192_0)).trans hx192_0
        replace p192 := eq_true p192
        replace q192 := eq_true q192
        have p40 : 0 ≤ (x54_2 : Int) := od
        have q40 : (x54_2 : Int) < ((x11_2.length : Int) : Int) := od
        obtain ⟨hx40_0, hf40_0⟩ := R_celln 0 HO_11.out (x54_2 : Int) p40 q40
        replace p40 := eq_true p40
        replace q40 := eq_true q40
        have HP44 := R_putn HO_11.out (x54_2 : Int) (Go.bits .or .u64 (rd y190 x54_2) (ji39))
        rw [← Ny193.out] at HP44
        have HQ44 := zA HP44
        clear HP44
        refine start_ (n := 17) (S := fun w' => w'.cell? ⟨go32, (x54_2).toNat, none⟩ = some (.int .u64 (rd y190 x54_2)) ∧ w'.cell? (ad183.add ((ji35)).toNat) = some (.int .u64 (rd l0 (ji35)))) (ds := [16]) #[false, false, false, false, false, false, false, false, false, false, false, false, false, false, false, false, false] (by kernel_rfl) rfl rfl ⟨hx191_0, ((HB.out.cell (World.block_lt_of_cell? w _ hw192_0)).trans hw192_0)⟩ (fun hHeld => ?_); refine with_tabW nat_number_shr.tab16 nat_number_shr.bits16 (fun HT_ HW_ => ?_)
        generalize w42.drew = w43 at HO_11 HB HQ44 hf40_0 hx191_0 hx192_0 hx40_0 hHeld ⊢
        refine pure_ (i := 0) (N := some 79) (v := ?_) (a' := ?_) #[true, false, false, false, false, false, false, false, false, false, false, false, false, false, false, false, false] rfl rfl (any_of HT_.out (by kernel_rfl)) (fun _ _ _ h => h) (Or.inl ⟨by rfl, ?_⟩) ?_ ?_
        rotate_left
        ·intro w'
         go_simp
         with_reducible rfl
        rotate_left
        ·exact zq
        refine pure_ (i := 1) (N := some 80) (v := ?_) (a' := ?_) #[true, true, false, false, false, false, false, false, false, false, false, false, false, false, false, false, false] rfl rfl (any_of HT_.out (by kernel_rfl)) (fun _ _ _ h => h) (Or.inl ⟨by rfl, ?_⟩) ?_ ?_
        rotate_left
        ·intro w'
         go_simp
         with_reducible rfl
        rotate_left
        ·exact zq
        refine pure_ (i := 2) (N := some 81) (v := ?_) (a' := ?_) #[true, true, true, false, false, false, false, false, false, false, false, false, false, false, false, false, false] rfl rfl (any_of HT_.out (by kernel_rfl)) (fun _ _ _ h => h) (Or.inl ⟨by rfl, ?_⟩) ?_ ?_
        rotate_left
        ·intro w'
         go_simp
         with_reducible rfl
        rotate_left
        ·exact zq
        refine pure_ (i := 4) (N := some 83) (v := ?_) (a' := ?_) #[true, true, true, false, true, false, false, false, false, false, false, false, false, false, false, false, false] rfl rfl (any_of HT_.out (by kernel_rfl)) (fun _ _ _ h => h) (Or.inl ⟨by rfl, ?_⟩) ?_ ?_
        rotate_left
        ·intro w'
         go_simp
         with_reducible rfl
        rotate_left
        ·exact zq
        refine pure_ (i := 5) (N := some 84) (v := ?_) (a' := ?_) #[true, true, true, false, true, true, false, false, false, false, false, false, false, false, false, false, false] rfl rfl (any_of HT_.out (by kernel_rfl)) (fun _ _ _ h => h) (Or.inl ⟨by rfl, ?_⟩) ?_ ?_
        rotate_left
        ·intro w'
         go_simp
         with_reducible rfl
        rotate_left
        ·exact zq
        refine pure_ (i := 6) (N := some 85) (v := ?_) (a' := ?_) #[true, true, true, false, true, true, true, false, false, false, false, false, false, false, false, false, false] rfl rfl (any_of HT_.out (by kernel_rfl)) (fun _ _ _ h => h) (Or.inl ⟨by rfl, ?_⟩) ?_ ?_
        rotate_left
        ·intro w'
         go_simp
         with_reducible rfl
        rotate_left
        ·exact zq
        refine pure_ (i := 7) (N := some 86) (v := ?_) (a' := ?_) #[true, true, true, false, true, true, true, true, false, false, false, false, false, false, false, false, false] rfl rfl (any_of HT_.out (by kernel_rfl)) (fun _ _ _ h => h) (Or.inl ⟨by rfl, ?_⟩) ?_ ?_
        rotate_left
        ·intro w'
         go_simp
         with_reducible rfl
        rotate_left
        ·exact zq
        refine pure_ (i := 8) (N := some 87) (v := ?_) (a' := ?_) #[true, true, true, false, true, true, true, true, true, false, false, false, false, false, false, false, false] rfl rfl (any_of HT_.out (by kernel_rfl)) (fun _ _ _ h => h) (Or.inl ⟨by rfl, ?_⟩) ?_ ?_
        rotate_left
        ·intro w'
         go_simp
         with_reducible rfl
        rotate_left
        ·exact zq
        refine pure_ (i := 9) (N := some 88) (v := ?_) (a' := ?_) #[true, true, true, false, true, true, true, true, true, true, false, false, false, false, false, false, false] rfl rfl (any_of HT_.out (by kernel_rfl)) (fun _ _ _ h => h) (Or.inl ⟨by rfl, ?_⟩) ?_ ?_
        rotate_left
        ·intro w'
         go_simp
         with_reducible rfl
        rotate_left
        ·exact zq
        refine pure_ (i := 11) (N := some 90) (v := ?_) (a' := ?_) #[true, true, true, false, true, true, true, true, true, true, false, true, false, false, false, false, false] rfl rfl (any_of HT_.out (by kernel_rfl)) (fun _ _ _ h => h) (Or.inl ⟨by rfl, ?_⟩) ?_ ?_
        rotate_left
        ·intro w'
         go_simp
         with_reducible rfl
        rotate_left
        ·exact zq
        refine pure_ (i := 12) (N := some 91) (v := ?_) (a' := ?_) #[true, true, true, false, true, true, true, true, true, true, false, true, true, false, false, false, false] rfl rfl (any_of HT_.out (by kernel_rfl)) (fun _ _ _ h => h) (Or.inl ⟨by rfl, ?_⟩) ?_ ?_
        rotate_left
        ·intro w'
         go_simp
         with_reducible rfl
        rotate_left
        ·exact zq
        refine take_ (i := 3) (N := some 82) (v := ?_) (a' := ?_) #[true, true, true, true, true, true, true, true, true, true, false, true, true, false, false, false, false] rfl rfl (take_ofW HT_.out HW_.out (by kernel_rfl)) (fun _ _ _ h => h) (Or.inl ⟨by rfl, ?_⟩) hHeld ?_ ?_
        rotate_left
        ·rintro w' ⟨s0, s1⟩
         go_simp
         with_reducible rfl
        rotate_left
        ·exact zq
        refine take_ (i := 10) (N := some 89) (v := ?_) (a' := ?_) #[true, true, true, true, true, true, true, true, true, true, true, true, true, false, false, false, false] rfl rfl (take_ofW HT_.out HW_.out (by kernel_rfl)) (fun _ _ _ h => h) (Or.inl ⟨by rfl, ?_⟩) hHeld ?_ ?_
        rotate_left
        ·rintro w' ⟨s0, s1⟩
         go_simp
         with_reducible rfl
        rotate_left
        ·exact zq
        refine pure_ (i := 13) (N := some 92) (v := ?_) (a' := ?_) #[true, true, true, true, true, true, true, true, true, true, true, true, true, true, false, false, false] rfl rfl (any_of HT_.out (by kernel_rfl)) (fun _ _ _ h => h) (Or.inl ⟨by rfl, ?_⟩) ?_ ?_
        rotate_left
        ·intro w'
         go_simp
         with_reducible rfl
        rotate_left
        ·exact zq
        refine pure_ (i := 14) (N := some 93) (v := ?_) (a' := ?_) #[true, true, true, true, true, true, true, true, true, true, true, true, true, true, true, false, false] rfl rfl (any_of HT_.out (by kernel_rfl)) (fun _ _ _ h => h) (Or.inl ⟨by rfl, ?_⟩) ?_ ?_
        rotate_left
        ·intro w'
         go_simp
         with_reducible rfl
        rotate_left
        ·exact zq
        refine pure_ (i := 15) (N := some 94) (v := ?_) (a' := ?_) #[true, true, true, true, true, true, true, true, true, true, true, true, true, true, true, true, false] rfl rfl (any_of HT_.out (by kernel_rfl)) (fun _ _ _ h => h) (Or.inl ⟨by rfl, ?_⟩) ?_ ?_
        rotate_left
        ·intro w'
         go_simp
         with_reducible rfl
        rotate_left
        ·exact zq
        refine last_ (i := 16) (N := none) #[true, true, true, true, true, true, true, true, true, true, true, true, true, true, true, true, true] rfl rfl (one_of HT_.out (by kernel_rfl)) (by decide) (fun K hK => ?_)
        refine skip_ (w1 := ?_) (by rfl) rfl ?_ ?_
        rotate_left
        ·go_simp
         rfl
        refine hK.out _ _ ?_
        clear hK K
        refine done_ (done_of HT_.out (by kernel_rfl)) ?_
        try go_wp2
        (try simp only [← hl11_2])
        go_roundg k2
        case measure => have := HK1.out; have := HK2.out; omega
        case rel => exact ⟨(y193), (wrap64 (x54_2 + 1)), zi, (by first | exact H' | (simp only [hji4, hji7, hji9, hji18, hji25, hji29, hji35, hji37, hji39]; exact H') | (simp only [hji4, hji7, hji9, hji18, hji25, hji29, hji35, hji37, hji39] at H' ⊢; exact H')), ⟨by have := HK1.out; have := HK2.out; omega⟩, ⟨by (try simp only [hl11_2]); (with_reducible repeat (first | apply R_alloc | apply R_drewN | apply R_drew)); exact HQ44.out⟩, ⟨by repeat (first | (with_reducible first | exact HB.out | apply below_alloc | apply pw_below_drewN | apply below_drew1 | refine below_set ?_ GB32.out) | exact HB.out)⟩⟩
       rw [if_neg c34] at H
       have c34b0 := decide_eq_false c34
       (try rw [hl11_2] at c34b0)
       clear c34
       have H' := zA H
       clear H
       have p189 : 0 ≤ ((ji25) : Int) := od
       have q189 : (ji25) < (l0.length : Int) := od
       obtain ⟨ad189, e189, hx189_0⟩ := Kd.at_int HR0.out (ji25) p189 q189
       obtain rfl : ad183 = ad189 := (by injection e189)
       replace hx189_0 := (HB.out.cell (World.block_lt_of_cell? w _ hx189_0)).trans hx189_0
       replace p189 := eq_true p189
       replace q189 := eq_true q189
       have p32 : 0 ≤ (x54_2 : Int) := od
       have q32 : (x54_2 : Int) < ((x11_2.length : Int) : Int) := od
       obtain ⟨go32, co32, eo32, gb32, gl32, cl32, HG32⟩ := R_form HO_11.out (by omega)
       (first | cases eo32 | (injection eo32 with ea_ en_ ec_; (first | subst ea_ | (injection ea_ with ea_; subst ea_)); subst ec_; clear en_))
       have GB32 := zA gb32
       have GG32 := zA HG32
       clear gb32 gl32 HG32
       obtain ⟨hx32_0, hf32_0⟩ := R_celln 0 HO_11.out (x54_2 : Int) p32 q32
       replace p32 := eq_true p32
       replace q32 := eq_true q32
       have HP45 := R_putg HO_11.out (x54_2 : Int) ji29
       go_wp2_with (first | ((with_reducible refine gate_store (t := 26) (p := 67) rfl ?_); refine store_event (t := 26) (p := 67) (v := ?vo_w46) (w1 := (wr.setCell ⟨go32, (x54_2 : Int).toNat, none⟩ (.int .u64 ji29))) ?hg ?ho ?hn ?hr ?_; (case ho => rfl); (case hg => rfl); (case hn => rfl); (case hr => first | (go_simp; done) | (go_simp; rfl)); intro w46 hw; have hg : wr.grownBy w46 (some go32) := (by rw [hw]; exact HP45.2); have hp_ : Kd.R (Kd.int .u64) 26 w46 w.heap.size (fun k_ => (w.heap.size ≤ k_)) (.slice (some ⟨go32, 0, none⟩) x11_2.length co23) y190 := (by rw [hw, Ny190.out]; exact HP45.1); clear HP45; replace HO_11 := zA (hp_); replace HB := zA ((by rw [hw]; exact below_set (HB.out) GB32.out : Below w.heap.size w w46)); clear hg hw hp_))
       (try simp only [← hl11_2])
       go_roundg k2
       case measure => have := HK1.out; have := HK2.out; omega
       case rel => exact ⟨(y190), (wrap64 (x54_2 + 1)), zi, (by first | exact H' | (simp only [hji4, hji7, hji9, hji18, hji25, hji29]; exact H') | (simp only [hji4, hji7, hji9, hji18, hji25, hji29] at H' ⊢; exact H')), ⟨by have := HK1.out; have := HK2.out; omega⟩, ⟨by (try simp only [hl11_2]); (with_reducible repeat (first | apply R_alloc | apply R_drewN | apply R_drew)); exact HO_11.out⟩, ⟨bq⟩⟩
      rw [if_neg c33] at H
      have c33b0 := decide_eq_false c33
      clear c33
      have H' := zA H
      clear H
      have p189 : 0 ≤ ((ji25) : Int) := od
      have q189 : (ji25) < (l0.length : Int) := od
      obtain ⟨ad189, e189, hx189_0⟩ := Kd.at_int HR0.out (ji25) p189 q189
      obtain rfl : ad183 = ad189 := (by injection e189)
      replace hx189_0 := (HB.out.cell (World.block_lt_of_cell? w _ hx189_0)).trans hx189_0
      replace p189 := eq_true p189
      replace q189 := eq_true q189
      have p32 : 0 ≤ (x54_2 : Int) := od
      have q32 : (x54_2 : Int) < ((x11_2.length : Int) : Int) := od
      obtain ⟨go32, co32, eo32, gb32, gl32, cl32, HG32⟩ := R_form HO_11.out (by omega)
      (first | cases eo32 | (injection eo32 with ea_ en_ ec_; (first | subst ea_ | (injection ea_ with ea_; subst ea_)); subst ec_; clear en_))
      have GB32 := zA gb32
      have GG32 := zA HG32
      clear gb32 gl32 HG32
      obtain ⟨hx32_0, hf32_0⟩ := R_celln 0 HO_11.out (x54_2 : Int) p32 q32
      replace p32 := eq_true p32
      replace q32 := eq_true q32
      have HP47 := R_putg HO_11.out (x54_2 : Int) ji29
      go_wp2_with (first | ((with_reducible refine gate_store (t := 26) (p := 67) rfl ?_); refine store_event (t := 26) (p := 67) (v := ?vo_w48) (w1 := (wr.setCell ⟨go32, (x54_2 : Int).toNat, none⟩ (.int .u64 ji29))) ?hg ?ho ?hn ?hr ?_; (case ho => rfl); (case hg => rfl); (case hn => rfl); (case hr => first | (go_simp; done) | (go_simp; rfl)); intro w48 hw; have hg : wr.grownBy w48 (some go32) := (by rw [hw]; exact HP47.2); have hp_ : Kd.R (Kd.int .u64) 26 w48 w.heap.size (fun k_ => (w.heap.size ≤ k_)) (.slice (some ⟨go32, 0, none⟩) x11_2.length co23) y190 := (by rw [hw, Ny190.out]; exact HP47.1); clear HP47; replace HO_11 := zA (hp_); replace HB := zA ((by rw [hw]; exact below_set (HB.out) GB32.out : Below w.heap.size w w48)); clear hg hw hp_))
      (try simp only [← hl11_2])
      go_roundg k2
      case measure => have := HK1.out; have := HK2.out; omega
      case rel => exact ⟨(y190), (wrap64 (x54_2 + 1)), zi, (by first | exact H' | (simp only [hji4, hji7, hji9, hji18, hji25, hji29]; exact H') | (simp only [hji4, hji7, hji9, hji18, hji25, hji29] at H' ⊢; exact H')), ⟨by have := HK1.out; have := HK2.out; omega⟩, ⟨by (try simp only [hl11_2]); (with_reducible repeat (first | apply R_alloc | apply R_drewN | apply R_drew)); exact HO_11.out⟩, ⟨bq⟩⟩
     rw [if_neg c24] at H
     have c24b0 := decide_eq_false c24
     (try rw [hl11_2] at c24b0)
     clear c24
     obtain ⟨t194, A49, H⟩ := zh H
     simp only [Option.some.injEq, Prod.mk.injEq] at H
     obtain ⟨rfl, rfl⟩ := H
     go_wp2_with (first | ((with_reducible refine zG 95 rfl ?_); refine zL (some 97) rfl rfl Tryd.func95 #[.slice Ao23 x11_2.length co23] rfl ?_; (with_reducible refine (nat_norm.calls k2 (fun k_ => some k_ = (.slice Ao23 x11_2.length co23 : Value).ownBlock) _ _ x11_2 t194 _ ?side1 A49.out).mono ?_); (case side1 => exact R_V (R_tight rfl (HO_11.out))); rintro e w50 ⟨v195, rfl, ho0, hb⟩; refine ⟨_, rfl, ?_⟩; have HO196 := zA (V_lower (V_mono (ok' := fun k_ => (w.heap.size ≤ k_)) ho0 (fun k_ hk_ => Or.elim hk_ (fun hs_ => ((HO_11.out).1 k_ hs_.symm)) (fun hn_ => (Nat.le_trans (below_size bq) hn_)))) (below_size bq)); replace HO_11 := zA (R_below (ru HO_11.out) hb); replace HB := ze hb; (try clear ho0)))
     go_ret2
     exact ⟨_, by first | rfl | (simp [errW_none, errW_some] <;> rfl) | (simp only [← hji4, ← hji7, ← hji9, ← hji18]; first | rfl | (simp [errW_none, errW_some] <;> rfl)) | (simp [*, errW_none, errW_some] <;> rfl), vu HO196.out, bq⟩
def nat_Shr.f (k : Nat) (l0 : List Int) (a1 : Int) : Option (List Int × Bool × Int) := (nat_one.f k l0).bind fun bt197 => (if bt197.2 = 0 then (if a1 < 0 then (some (([] : List Int), false, 2)) else ((nat_number_shr.f k bt197.1 a1).bind fun bt201 => ((nat_number_own.f bt201.1).bind fun t205 => (some (t205, bt201.2, 0))))) else (some (([] : List Int), false, bt197.2)))
theorem nat_Shr.mono : ∀ a0 a1 k, LeO (nat_Shr.f k a0 a1) (nat_Shr.f (k + 1) a0 a1) := by
 intro a0 a1 k
 unfold nat_Shr.f
 repeat' first
   | (with_reducible exact nat_number_shr.mono _ _ _)
   | (with_reducible exact nat_one.mono _ _)
   | (with_reducible exact LeO.refl _)
   | (with_reducible exact LeO.none _)
   | (with_reducible refine LeO.ite ?_ ?_)
   | (with_reducible refine LeO.bind ?_ (fun _ => ?_))
   | exact nat_number_shr.mono _ _ _
   | exact nat_one.mono _ _
   | exact LeO.none _
   | refine LeO.ite ?_ ?_
   | refine LeO.bind ?_ (fun _ => ?_)
set_option maxHeartbeats 8000000 in
set_option maxRecDepth 100000 in
theorem nat_Shr.calls (k : Nat) (A0 : Option Addr) (c0 : Nat) (l0 : List Int) (a1 : Int) (r1 : List Int) (r2 : Bool) (r3 : Int) (w : World) (hr0 : Kd.C (Kd.int .u64) w A0 l0.length l0) (hc0 : l0.length ≤ c0) (h : nat_Shr.f k l0 a1 = some (r1, r2, r3)) :
  Calls Tryd.prog 107 #[.slice A0 l0.length c0, .int .i64 a1] w fun e w' => ∃ v0_ : Value, e = .returned (.tuple #[v0_, .bool r2, .int .i64 r3]) ∧ Kd.R (Kd.int .u64) 26 w' w.heap.size (fun _ => True) v0_ r1 ∧ Below w.heap.size w w' := by
 have HR0 := zA hr0
 have HC0 := zA hc0
 clear hr0 hc0
 have HB := zA (Below.refl w.heap.size w)
 have H : ((nat_one.f k l0).bind fun bt197 => (if bt197.2 = 0 then (if a1 < 0 then (some (([] : List Int), false, 2)) else ((nat_number_shr.f k bt197.1 a1).bind fun bt201 => ((nat_number_own.f bt201.1).bind fun t205 => (some (t205, bt201.2, 0))))) else (some (([] : List Int), false, bt197.2)))) = some (r1, r2, r3) := h
 clear h
 obtain ⟨⟨t197, t200⟩, A3, H⟩ := zh H
 (try dsimp only at H)
 by_cases c4 : t200 = 0
 ·rw [if_pos c4] at H
  have c4b0 := beq_iff_eq.mpr c4
  have c4b1 := bne_eq_false_iff_eq.mpr c4
  clear c4
  by_cases c5 : a1 < 0
  ·rw [if_pos c5] at H
   have c5b0 := decide_eq_true c5
   clear c5
   simp only [Option.some.injEq, Prod.mk.injEq] at H
   obtain ⟨rfl, rfl, rfl⟩ := H
   go_enter Tryd.func107, Tryd.ntmps107
   go_wp2_with (first | ((with_reducible refine zG 103 rfl ?_); refine zL (some 13) rfl rfl Tryd.func103 #[.slice A0 l0.length c0] rfl ?_; (with_reducible refine (nat_one.calls k (fun k_ => k_ < w.heap.size) _ _ l0 t197 t200 _ ?side1 A3.out).mono ?_); (case side1 => exact V_mk HC0.out (Kd.F_below (C_F (Kd.heap_int .u64) HR0.out) bq)); rintro e w6 ⟨v198, rfl, ho0, hb⟩; refine ⟨_, rfl, ?_⟩; have HO199 := zA (V_lower (V_mono (ok' := fun k_ => True) ho0 (fun k_ hk_ => trivial)) (below_size bq)); replace HB := ze hb; (try clear ho0)))
   go_ret3
   exact ⟨_, er, by first | exact R_nil _ _ _ _ _ | exact Kd.N_nil _ _ _ _ _ | exact V_nil _ _ _ _ _ | exact Kd.Q_nil _ _ _ _ _ | exact Kd.S_nil _ _ _ _ _, bq⟩
  rw [if_neg c5] at H
  have c5b0 := decide_eq_false c5
  clear c5
  obtain ⟨⟨t201, t204⟩, A7, H⟩ := zh H
  (try dsimp only at H)
  obtain ⟨t205, A8, H⟩ := zh H
  simp only [Option.some.injEq, Prod.mk.injEq] at H
  obtain ⟨rfl, rfl, rfl⟩ := H
  go_enter Tryd.func107, Tryd.ntmps107
  go_wp2_with (first | ((with_reducible refine zG 103 rfl ?_); refine zL (some 13) rfl rfl Tryd.func103 #[.slice A0 l0.length c0] rfl ?_; (with_reducible refine (nat_one.calls k (fun k_ => k_ < w.heap.size) _ _ l0 t197 t200 _ ?side1 A3.out).mono ?_); (case side1 => exact V_mk HC0.out (Kd.F_below (C_F (Kd.heap_int .u64) HR0.out) bq)); rintro e w9 ⟨v198, rfl, ho0, hb⟩; refine ⟨_, rfl, ?_⟩; have HO199 := zA (V_lower (V_mono (ok' := fun k_ => True) ho0 (fun k_ hk_ => trivial)) (below_size bq)); replace HB := ze hb; (try clear ho0); obtain ⟨Ao10, co10, eo10⟩ := V_slice HO199.out; subst eo10) | ((with_reducible refine zG 124 rfl ?_); refine zL (some 26) rfl rfl Tryd.func124 #[.slice Ao10 t197.length co10, .int .i64 a1] rfl ?_; (with_reducible refine (nat_number_shr.calls k _ _ t197 a1 t201 t204 _ ?side1 ?side2 A7.out).mono ?_); (case side1 => exact zk (V_reads' HO199.out).2.2); (case side2 => exact (V_reads' HO199.out).2.1); rintro e w11 ⟨v202, rfl, ho0, hb⟩; refine ⟨_, rfl, ?_⟩; replace HO199 := zA (V_below (vu HO199.out) hb); have HO203 := zA (V_lower (V_mono (ok' := fun k_ => True) ho0 (fun k_ hk_ => trivial)) (below_size bq)); replace HB := ze hb; (try clear ho0); obtain ⟨Ao12, co12, eo12⟩ := V_slice HO203.out; subst eo12) | ((with_reducible refine zG 96 rfl ?_); refine zL (some 30) rfl rfl Tryd.func96 #[.slice Ao12 t201.length co12] rfl ?_; (with_reducible refine (nat_number_own.calls _ _ t201 t205 _ ?side1 ?side2 A8.out).mono ?_); (case side1 => exact zk (V_reads' HO203.out).2.2); (case side2 => exact (V_reads' HO203.out).2.1); rintro e w13 ⟨v206, rfl, ho0, hb⟩; refine ⟨_, rfl, ?_⟩; replace HO199 := zA (V_elder' (vu HO199.out) (R_base ho0) hb); replace HO203 := zA (V_elder' (vu HO203.out) (R_base ho0) hb); have HO207 := zA (R_lower ho0 (below_size bq)); replace HB := ze hb; (try clear ho0)))
  go_ret3
  exact ⟨_, er, ru HO207.out, bq⟩
 rw [if_neg c4] at H
 have c4b0 := beq_eq_false_iff_ne.mpr c4
 have c4b1 := bne_iff_ne.mpr c4
 simp only [Option.some.injEq, Prod.mk.injEq] at H
 obtain ⟨rfl, rfl, rfl⟩ := H
 go_enter Tryd.func107, Tryd.ntmps107
 go_wp2_with (first | ((with_reducible refine zG 103 rfl ?_); refine zL (some 13) rfl rfl Tryd.func103 #[.slice A0 l0.length c0] rfl ?_; (with_reducible refine (nat_one.calls k (fun k_ => k_ < w.heap.size) _ _ l0 t197 t200 _ ?side1 A3.out).mono ?_); (case side1 => exact V_mk HC0.out (Kd.F_below (C_F (Kd.heap_int .u64) HR0.out) bq)); rintro e w14 ⟨v198, rfl, ho0, hb⟩; refine ⟨_, rfl, ?_⟩; have HO199 := zA (V_lower (V_mono (ok' := fun k_ => True) ho0 (fun k_ hk_ => trivial)) (below_size bq)); replace HB := ze hb; (try clear ho0)))
 go_ret3
 exact ⟨_, er, by first | exact R_nil _ _ _ _ _ | exact Kd.N_nil _ _ _ _ _ | exact V_nil _ _ _ _ _ | exact Kd.Q_nil _ _ _ _ _ | exact Kd.S_nil _ _ _ _ _, bq⟩
end Go.Proofs.YtnjfckadjklmfaaDoor.PAll
