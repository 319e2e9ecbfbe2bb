/- Printed functions, merged by a program of this session. -/
import Derived.Test.YtnjfckadjklmfaaDoorXRoundPointsP0
import Derived.Test.YtnjfckadjklmfaaDoorXRoundPointsSh
namespace Go.Proofs.YtnjfckadjklmfaaDoor.PAll
open Go.RowKit Go.Proofs.YtnjfckadjklmfaaDoorW.PrintWords Go.Proofs.YtnjfckadjklmfaaDoorW.PrintLast Go.Proofs.YtnjfckadjklmfaaDoorW.PrintMore Go.Proofs.YtnjfckadjklmfaaDoorW.PrintWords.Kd
attribute [local go_sem] max2_int min2_int max_two min_two max_three min_three max_four min_four   -- for this text's walks alone
set_option linter.unusedVariables false
set_option linter.unusedSimpArgs false
attribute [local go_sem] fld75_0 fld75_1 fld75_2 ext118 ext119
mutual
def nat_number_shr.l0 : Nat → List Int → Int → Int → Bool → List Int → Int → Int → Option (List Int × Bool)
 | 0, _, _, _, _, _, _, _ => none
 | k + 1, x0, x6, x7, x8, x35, x36, x37 => if x37 < x36 then (if 0 ≤ x37 then (if x37 < (x35.length : Int) then (if x8 = true then (nat_number_shr.l0 k x0 x6 x7 true x35 x36 (wrap64 (x37 + 1))) else (nat_number_shr.l0 k x0 x6 x7 ((rd x35 x37) != 0) x35 x36 (wrap64 (x37 + 1)))) else (none)) else (none)) else (if 0 ≤ (wrap64 ((x0.length : Int) - x6)) then (if (wrap64 ((x0.length : Int) - x6) : Int).toNat ≤ 35184372088832 then ((some (List.replicate (wrap64 ((x0.length : Int) - x6) : Int).toNat 0 : List Int)).bind fun a1 => (nat_number_shr.l1 k x0 x6 x7 x8 a1 (a1.length : Int) 0)) else (none)) else (none))
def nat_number_shr.l1 : Nat → List Int → Int → Int → Bool → List Int → Int → Int → Option (List Int × Bool)
 | 0, _, _, _, _, _, _, _ => none
 | k + 1, x0, x6, x7, x8, x11, x53, x54 => if x54 < x53 then (if 0 ≤ (wrap64 (x54 + x6)) then (if (wrap64 (x54 + x6)) < (x0.length : Int) then (if 0 ≤ x7 then (if 0 ≤ x54 then (if x54 < (x11.length : Int) then ((some (x11.set (x54 : Int).toNat (shr .u64 (rd x0 (wrap64 (x54 + x6))) x7) : List Int)).bind fun a1 => (if x7 > 0 then (if (wrap64 ((wrap64 (x54 + x6)) + 1)) < (x0.length : Int) then (if 0 ≤ (wrap64 ((wrap64 (x54 + x6)) + 1)) then (if 0 ≤ (wrap64 (64 - x7)) then (nat_number_shr.l1 k x0 x6 x7 x8 (a1.set (x54 : Int).toNat (Go.bits .or .u64 (rd a1 x54) (shl .u64 (rd x0 (wrap64 ((wrap64 (x54 + x6)) + 1))) (wrap64 (64 - x7))))) x53 (wrap64 (x54 + 1))) else (none)) else (none)) else (nat_number_shr.l1 k x0 x6 x7 x8 a1 x53 (wrap64 (x54 + 1)))) else (nat_number_shr.l1 k x0 x6 x7 x8 a1 x53 (wrap64 (x54 + 1))))) else (none)) else (none)) else (none)) else (none)) else (none)) else ((nat_norm.f k x11).bind fun a2 => (some (a2, x8)))
end
def nat_number_shr.f (k : Nat) (l0 : List Int) (a1 : Int) : Option (List Int × Bool) := if (wrap64 (Int.tdiv a1 64)) ≥ (l0.length : Int) then (some (([] : List Int), decide ((l0.length : Int) > 0))) else (if 0 ≤ (wrap64 (Int.tdiv a1 64)) then (if (wrap64 (Int.tdiv a1 64)) < (l0.length : Int) then (if 0 ≤ (Int.tmod a1 64) then (if (wrap64 (Int.tdiv a1 64)) ≤ (l0.length : Int) then (nat_number_shr.l0 k l0 (wrap64 (Int.tdiv a1 64)) (Int.tmod a1 64) ((Go.bits .and .u64 (rd l0 (wrap64 (Int.tdiv a1 64))) (IntKind.u64.wrap ((shl .u64 1 (Int.tmod a1 64)) - 1))) != 0) (l0.take ((wrap64 (Int.tdiv a1 64)) : Int).toNat) (max (wrap64 (Int.tdiv a1 64)) 0) 0) else (none)) else (none)) else (none)) else (none))
theorem nat_number_shr.mono_l : ∀ k, (∀ y0 y1 y2 y3 y4 y5 y6, LeO (nat_number_shr.l0 k y0 y1 y2 y3 y4 y5 y6) (nat_number_shr.l0 (k + 1) y0 y1 y2 y3 y4 y5 y6)) ∧ (∀ y0 y1 y2 y3 y4 y5 y6, LeO (nat_number_shr.l1 k y0 y1 y2 y3 y4 y5 y6) (nat_number_shr.l1 (k + 1) y0 y1 y2 y3 y4 y5 y6))
 | 0 => ⟨fun _ _ _ _ _ _ _ r h => by simp [nat_number_shr.l0] at h, fun _ _ _ _ _ _ _ r h => by simp [nat_number_shr.l1] at h⟩
 | k + 1 => by
  obtain ⟨ih0, ih1⟩ := nat_number_shr.mono_l k;refine ⟨?_, ?_⟩
  ·intro y0 y1 y2 y3 y4 y5 y6
   unfold nat_number_shr.l0
   repeat' first
   | (with_reducible exact ih0 _ _ _ _ _ _ _)
   | (with_reducible exact ih1 _ _ _ _ _ _ _)
   | (with_reducible exact nat_norm.mono _ _)
   | (with_reducible exact LeO.refl _)
   | (with_reducible exact LeO.none _)
   | (with_reducible refine LeO.ite ?_ ?_)
   | (with_reducible refine LeO.bind ?_ (fun _ => ?_))
   | exact ih0 _ _ _ _ _ _ _
   | exact ih1 _ _ _ _ _ _ _
   | exact nat_norm.mono _ _
   | exact LeO.none _
   | refine LeO.ite ?_ ?_
   | refine LeO.bind ?_ (fun _ => ?_)
  intro y0 y1 y2 y3 y4 y5 y6
  unfold nat_number_shr.l1
  repeat' first
  | (with_reducible exact ih0 _ _ _ _ _ _ _)
  | (with_reducible exact ih1 _ _ _ _ _ _ _)
  | (with_reducible exact nat_norm.mono _ _)
  | (with_reducible exact LeO.refl _)
  | (with_reducible exact LeO.none _)
  | (with_reducible refine LeO.ite ?_ ?_)
  | (with_reducible refine LeO.bind ?_ (fun _ => ?_))
  | exact ih0 _ _ _ _ _ _ _
  | exact ih1 _ _ _ _ _ _ _
  | exact nat_norm.mono _ _
  | exact LeO.none _
  | refine LeO.ite ?_ ?_
  | refine LeO.bind ?_ (fun _ => ?_)
theorem nat_number_shr.mono : ∀ a0 a1 k, LeO (nat_number_shr.f k a0 a1) (nat_number_shr.f (k + 1) a0 a1) := by
 intro a0 a1 k;obtain ⟨ih0, ih1⟩ := nat_number_shr.mono_l k
 unfold nat_number_shr.f
 repeat' first
   | (with_reducible exact ih0 _ _ _ _ _ _ _)
   | (with_reducible exact ih1 _ _ _ _ _ _ _)
   | (with_reducible exact nat_norm.mono _ _)
   | (with_reducible exact LeO.refl _)
   | (with_reducible exact LeO.none _)
   | (with_reducible refine LeO.ite ?_ ?_)
   | (with_reducible refine LeO.bind ?_ (fun _ => ?_))
   | exact ih0 _ _ _ _ _ _ _
   | exact ih1 _ _ _ _ _ _ _
   | exact nat_norm.mono _ _
   | exact LeO.none _
   | refine LeO.ite ?_ ?_
   | refine LeO.bind ?_ (fun _ => ?_)
def nat_number_shr.T4 : Bool × List (List Nat × List Nat) := (true, [([], []), ([], []), ([0, 1], [0, 1]), ([2], [2]), ([], []), ([4], [4]), ([5], [5]), ([3, 6], [3, 6]), ([7], [7]), ([8, 0, 1, 2, 3, 4, 5, 6, 7, 8], [8])])
def nat_number_shr.B4 : List Nat := [0, 0, 3, 7, 0, 16, 48, 127, 255, 511]
theorem nat_number_shr.tab4 : rtab .any (opsOf Tryd.f124 4) = nat_number_shr.T4 := by kernel_rfl
theorem nat_number_shr.bits4 : waitsOk nat_number_shr.T4.2 nat_number_shr.B4 = true := by kernel_rfl
def nat_number_shr.T16 : Bool × List (List Nat × List Nat) := (true, [([], []), ([], []), ([0, 1], [0, 1]), ([2], [2]), ([], []), ([], []), ([], []), ([5, 6], [5, 6]), ([7], [7]), ([4, 8], [4, 8]), ([9], [9]), ([], []), ([11], [11]), ([10, 12], [10, 12]), ([3, 13], [3, 13]), ([0, 1, 0, 1, 2, 3, 4, 5, 6, 7, 8, 9, 10, 11, 12, 13, 14], [0, 1]), ([15, 14, 0, 1, 2, 3, 4, 5, 6, 7, 8, 9, 10, 11, 12, 13, 14], [14, 15])])
def nat_number_shr.B16 : List Nat := [0, 0, 3, 7, 0, 0, 0, 96, 224, 496, 1008, 0, 2048, 8176, 16383, 32767, 65535]
theorem nat_number_shr.tab16 : rtab .any (opsOf Tryd.f124 16) = nat_number_shr.T16 := by kernel_rfl
theorem nat_number_shr.bits16 : waitsOk nat_number_shr.T16.2 nat_number_shr.B16 = true := by kernel_rfl
set_option maxHeartbeats 8000000 in
set_option maxRecDepth 100000 in
theorem nat_number_shr.calls (k : Nat) (A0 : Option Addr) (c0 : Nat) (l0 : List Int) (a1 : Int) (r1 : List Int) (r2 : Bool) (w : World) (hr0 : Kd.C (Kd.int .u64) w A0 l0.length l0) (hc0 : l0.length ≤ c0) (h : nat_number_shr.f k l0 a1 = some (r1, r2)) :
  Calls Tryd.prog 124 #[.slice A0 l0.length c0, .int .i64 a1] w fun e w' => ∃ v0_ : Value, e = .returned (.tuple #[v0_, .bool r2]) ∧ Kd.V (Kd.int .u64) 26 w' w.heap.size (fun k_ => (w.heap.size ≤ k_)) v0_ r1 ∧ Below w.heap.size w w' := by
 have aE := zA hr0;have bg := zA hc0;clear hr0 hc0;have HB := zA (Below.refl w.heap.size w);have H : (if (wrap64 (Int.tdiv a1 64)) ≥ (l0.length : Int) then (some (([] : List Int), decide ((l0.length : Int) > 0))) else (if 0 ≤ (wrap64 (Int.tdiv a1 64)) then (if (wrap64 (Int.tdiv a1 64)) < (l0.length : Int) then (if 0 ≤ (Int.tmod a1 64) then (if (wrap64 (Int.tdiv a1 64)) ≤ (l0.length : Int) then (nat_number_shr.l0 k l0 (wrap64 (Int.tdiv a1 64)) (Int.tmod a1 64) ((Go.bits .and .u64 (rd l0 (wrap64 (Int.tdiv a1 64))) (IntKind.u64.wrap ((shl .u64 1 (Int.tmod a1 64)) - 1))) != 0) (l0.take ((wrap64 (Int.tdiv a1 64)) : Int).toNat) (max (wrap64 (Int.tdiv a1 64)) 0) 0) else (none)) else (none)) else (none)) else (none))) = some (r1, r2) := h;clear h
 by_cases c3 : (wrap64 (Int.tdiv a1 64)) ≥ (l0.length : Int)
 ·rw [if_pos c3] at H;have aG := decide_eq_true c3;clear c3;simp only [Option.some.injEq, Prod.mk.injEq] at H;obtain ⟨rfl, rfl⟩ := H;go_enter Tryd.func124, Tryd.ntmps124
  go_wp2
  go_ret2
  exact ⟨_, er, V_nil _ _ _ _ _, bq⟩
 rw [if_neg c3] at H;have aG := decide_eq_false c3;clear c3;obtain ⟨a3, ad⟩ : ∃ j_ : Int, (wrap64 (Int.tdiv a1 64)) = j_ := ⟨_, rfl⟩;replace H : (if 0 ≤ (a3) then (if (a3) < (l0.length : Int) then (if 0 ≤ (Int.tmod a1 64) then (if (a3) ≤ (l0.length : Int) then (nat_number_shr.l0 k l0 a3 (Int.tmod a1 64) ((Go.bits .and .u64 (rd l0 (a3)) (IntKind.u64.wrap ((shl .u64 1 (Int.tmod a1 64)) - 1))) != 0) (l0.take ((a3) : Int).toNat) (max (a3) 0) 0) else (none)) else (none)) else (none)) else (none)) = some (r1, r2) := zQ ad H;(try rw [ad] at aG);have hji4w : (IntKind.i64.wrap (Int.tdiv a1 64)) = a3 := (i64_w _).trans ad;replace H := dn H;obtain ⟨c5, H⟩ := H;have aU := decide_eq_true c5;clear c5;replace H := dn H;obtain ⟨c6, H⟩ := H;have aV := decide_eq_true c6;clear c6;obtain ⟨a4, ah⟩ : ∃ j_ : Int, (Int.tmod a1 64) = j_ := ⟨_, rfl⟩;replace H : (if 0 ≤ (a4) then (if (a3) ≤ (l0.length : Int) then (nat_number_shr.l0 k l0 a3 a4 ((Go.bits .and .u64 (rd l0 (a3)) (IntKind.u64.wrap ((shl .u64 1 (a4)) - 1))) != 0) (l0.take ((a3) : Int).toNat) (max (a3) 0) 0) else (none)) else (none)) = some (r1, r2) := zQ ah H;replace H := dn H;obtain ⟨c8, H⟩ := H;have aW := eq_true c8;have aX := decide_eq_true c8;clear c8;obtain ⟨aF, ae⟩ : ∃ j_ : Int, (shl .u64 1 (a4)) = j_ := ⟨_, rfl⟩;replace H : (if (a3) ≤ (l0.length : Int) then (nat_number_shr.l0 k l0 a3 a4 ((Go.bits .and .u64 (rd l0 (a3)) (IntKind.u64.wrap ((aF) - 1))) != 0) (l0.take ((a3) : Int).toNat) (max (a3) 0) 0) else (none)) = some (r1, r2) := zQ ae H;have hji9_ : (IntKind.u64.wrap (1 * 2 ^ min (a4).toNat 64)) = aF := ae;have hji9z : (a4) ≤ 64 → (IntKind.u64.wrap (1 * 2 ^ (a4).toNat)) = aF := shl_small ae
 have hji9u : (IntKind.u64.wrap (2 ^ min (a4).toNat 64)) = aF := by have h_ := hji9_; rw [Int.one_mul] at h_; exact h_
 have hji9v : (a4) ≤ 64 → (IntKind.u64.wrap (2 ^ (a4).toNat)) = aF := fun hle_ => by have h_ := hji9z hle_; rw [Int.one_mul] at h_; exact h_
 have aN := eq_true (od : 0 ≤ (a3));replace H := dn H;obtain ⟨c11, H⟩ := H;have aO := eq_true c11;have aP := decide_eq_true c11;clear c11;have H' := zA H;clear H;go_enter Tryd.func124, Tryd.ntmps124
 try go_wp2
 replace HB := zA (below_drew1 HB.out);have p183 : 0 ≤ ((a3) : Int) := od;have q183 : (a3) < (l0.length : Int) := od;obtain ⟨ad183, e183, ag⟩ := Kd.at_int aE.out (a3) p183 q183;have hw183_0 := ag;cases e183;replace ag := (HB.out.cell (World.block_lt_of_cell? w _ ag)).trans ag;replace p183 := eq_true p183;replace q183 := eq_true q183;refine start_ (n := 10) (S := fun w' => w'.cell? (ad183.add ((a3)).toNat) = some (.int .u64 (rd l0 (a3)))) (ds := []) #[false, false, false, false, false, false, false, false, false, false] (by kernel_rfl) rfl rfl (((HB.out.cell (World.block_lt_of_cell? w _ hw183_0)).trans hw183_0)) (fun hHeld => ?_); refine with_tabW nat_number_shr.tab4 nat_number_shr.bits4 (fun HT_ HW_ => ?_);generalize w.drew = w12 at HB ag hHeld ⊢;refine pure_ (i := 0) (N := some 24) (v := ?_) (a' := ?_) #[true, false, false, false, false, false, false, false, false, false] rfl rfl (any_of HT_.out (by kernel_rfl)) (fun _ _ _ h => h) (Or.inl ⟨by rfl, ?_⟩) ?_ ?_;rotate_left;·intro w';go_simp;with_reducible rfl
 rotate_left;·exact zq
 refine pure_ (i := 1) (N := some 25) (v := ?_) (a' := ?_) #[true, true, false, false, false, false, false, false, false, false] rfl rfl (any_of HT_.out (by kernel_rfl)) (fun _ _ _ h => h) (Or.inl ⟨by rfl, ?_⟩) ?_ ?_;rotate_left;·intro w';go_simp;with_reducible rfl
 rotate_left;·exact zq
 refine pure_ (i := 2) (N := some 26) (v := ?_) (a' := ?_) #[true, true, true, false, false, false, false, false, false, false] rfl rfl (any_of HT_.out (by kernel_rfl)) (fun _ _ _ h => h) (Or.inl ⟨by rfl, ?_⟩) ?_ ?_;rotate_left;·intro w';go_simp;with_reducible rfl
 rotate_left;·exact zq
 refine pure_ (i := 4) (N := some 28) (v := ?_) (a' := ?_) #[true, true, true, false, true, false, false, false, false, false] rfl rfl (any_of HT_.out (by kernel_rfl)) (fun _ _ _ h => h) (Or.inl ⟨by rfl, ?_⟩) ?_ ?_;rotate_left;·intro w';go_simp;with_reducible rfl
 rotate_left;·exact zq
 refine pure_ (i := 5) (N := some 29) (v := ?_) (a' := ?_) #[true, true, true, false, true, true, false, false, false, false] rfl rfl (any_of HT_.out (by kernel_rfl)) (fun _ _ _ h => h) (Or.inl ⟨by rfl, ?_⟩) ?_ ?_;rotate_left;·intro w';go_simp;with_reducible rfl
 rotate_left;·exact zq
 refine pure_ (i := 6) (N := some 30) (v := ?_) (a' := ?_) #[true, true, true, false, true, true, true, false, false, false] rfl rfl (any_of HT_.out (by kernel_rfl)) (fun _ _ _ h => h) (Or.inl ⟨by rfl, ?_⟩) ?_ ?_;rotate_left;·intro w';go_simp;with_reducible rfl
 rotate_left;·exact zq
 refine take_ (i := 3) (N := some 27) (v := ?_) (a' := ?_) #[true, true, true, true, true, true, true, false, false, false] rfl rfl (take_ofW HT_.out HW_.out (by kernel_rfl)) (fun _ _ _ h => h) (Or.inl ⟨by rfl, ?_⟩) hHeld ?_ ?_;rotate_left;·intro w' s0;go_simp;with_reducible rfl
 rotate_left;·exact zq
 refine pure_ (i := 7) (N := some 31) (v := ?_) (a' := ?_) #[true, true, true, true, true, true, true, true, false, false] rfl rfl (any_of HT_.out (by kernel_rfl)) (fun _ _ _ h => h) (Or.inl ⟨by rfl, ?_⟩) ?_ ?_;rotate_left;·intro w';go_simp;with_reducible rfl
 rotate_left;·exact zq
 refine pure_ (i := 8) (N := some 32) (v := ?_) (a' := ?_) #[true, true, true, true, true, true, true, true, true, false] rfl rfl (any_of HT_.out (by kernel_rfl)) (fun _ _ _ h => h) (Or.inl ⟨by rfl, ?_⟩) ?_ ?_;rotate_left;·intro w';go_simp;with_reducible rfl
 rotate_left;·exact zq
 refine pure_ (i := 9) (N := some 8) (v := ?_) (a' := ?_) #[true, true, true, true, true, true, true, true, true, true] rfl rfl (any_of HT_.out (by kernel_rfl)) (fun _ _ _ h => h) (Or.inl ⟨by rfl, ?_⟩) ?_ ?_;rotate_left;·intro w';go_simp;with_reducible rfl
 rotate_left;·exact zq
 refine done_ (done_of HT_.out (by kernel_rfl)) ?_;obtain ⟨i013, hi013, _, hsz13, _⟩ := info_parts info26;obtain ⟨hcut13, hA13, hC13⟩ := print_take_of (P := Tryd.prog) (Value.int .u64) 0 106 26 .i64 Tryd.underlying106 hi013 hsz13 (some ad183) c0 l0 (a3) (od) (od) bg.out;have aQ := zA (C_of_reads (h1 := fun _ => rfl) (hA13 _ (Kd.reads_of_C aE.out)));have bi := zA hC13;clear hA13 hC13 hi013 hsz13
 try go_wp2
 go_loopg [8, 37] k (fun kq v8 v37 w' => ∃ (aa : Bool) (ac : Int), v8 = .bool aa ∧ v37 = .int .i64 ac ∧ Aside0 (nat_number_shr.l0 kq l0 a3 a4 aa (l0.take ((a3) : Int).toNat) (max (a3) 0) ac = some (r1, r2)) ∧ Aside0 (kq ≤ k) ∧ Aside0 (Below w.heap.size w w'))
 case atStart => exact ⟨(((Go.bits .and .u64 (rd l0 (a3)) (IntKind.u64.wrap ((aF) - 1))) != 0)), (0), (by first | rfl | (simp; done) | (simp only [← ad, ← ae] <;> (first | rfl | simp)) | (simp [*]; done)), zi, H', ⟨Nat.le_refl _⟩, ⟨bq⟩⟩
 case round =>
  clear H'
  try clear c3
  try clear aG
  try clear c5
  try clear aU
  try clear c6
  try clear aV
  try clear c8
  try clear aW
  try clear aX
  try clear aN
  try clear c11
  try clear aO
  try clear aP
  try clear ag
  try clear p183
  try clear q183
  obtain ⟨aa, ac, rfl, rfl, HA, HK1, HB⟩ := hrel
  cases gk with
  | zero => exact absurd HA.out (by simp [nat_number_shr.l0])
  | succ k1 =>
   have H := HA.out;clear HA;simp only [nat_number_shr.l0] at H
   by_cases c14 : ac < (max (a3) 0)
   ·rw [if_pos c14] at H;have aR := decide_eq_true c14;have c14bx : (ac < (max (a3) 0)) = True := eq_true c14;clear c14;replace H := dn H;obtain ⟨c15, H⟩ := H;have b1 := decide_eq_true c15;clear c15;replace H := dn H;obtain ⟨c16, H⟩ := H;have b2 : decide (ac < ((l0.take ((a3) : Int).toNat).length : Int)) = true := decide_eq_true c16;clear c16
    by_cases c17 : aa = true
    ·subst c17;rw [if_pos rfl] at H;have H' := zA H;clear H;have p185 : 0 ≤ (ac : Int) := od;have q185 : ac < ((l0.take ((a3) : Int).toNat).length : Int) := od;obtain ⟨ad185, e185, af⟩ := Kd.at_int aQ.out ac p185 q185;obtain rfl : ad183 = ad185 := (by injection e185);replace af := (HB.out.cell (World.block_lt_of_cell? w _ af)).trans af;replace p185 := eq_true p185;replace q185 := eq_true q185
     go_wp2
     go_roundg k1
     case measure => have := HK1.out; omega
     case rel => exact ⟨(true), (wrap64 (ac + 1)), zi, zi, (by first | exact H' | (simp only [ad, ah, ae]; exact H') | (simp only [ad, ah, ae] at H' ⊢; exact H')), ⟨by have := HK1.out; omega⟩, ⟨bq⟩⟩
    replace c17 := Bool.eq_false_iff.mpr c17;subst c17;rw [if_neg (show ¬ (false = true) by decide)] at H;have H' := zA H;clear H;have p185 : 0 ≤ (ac : Int) := od;have q185 : ac < ((l0.take ((a3) : Int).toNat).length : Int) := od;obtain ⟨ad185, e185, af⟩ := Kd.at_int aQ.out ac p185 q185;obtain rfl : ad183 = ad185 := (by injection e185);replace af := (HB.out.cell (World.block_lt_of_cell? w _ af)).trans af;replace p185 := eq_true p185;replace q185 := eq_true q185
    go_wp2
    go_roundg k1
    case measure => have := HK1.out; omega
    case rel => exact ⟨(((rd (l0.take ((a3) : Int).toNat) ac) != 0)), (wrap64 (ac + 1)), (by first | rfl | (simp; done) | (simp only [← ad] <;> (first | rfl | simp)) | (simp [*]; done)), zi, (by first | exact H' | (simp only [ad, ah, ae]; exact H') | (simp only [ad, ah, ae] at H' ⊢; exact H')), ⟨by have := HK1.out; omega⟩, ⟨bq⟩⟩
   rw [if_neg c14] at H;have aR := decide_eq_false c14;clear c14;obtain ⟨ar, aj⟩ : ∃ j_ : Int, (wrap64 ((l0.length : Int) - a3)) = j_ := ⟨_, rfl⟩;replace H : (if 0 ≤ (ar) then (if (ar : Int).toNat ≤ 35184372088832 then ((some (List.replicate (ar : Int).toNat 0 : List Int)).bind fun a9 => (nat_number_shr.l1 k1 l0 a3 a4 aa a9 (a9.length : Int) 0)) else (none)) else (none)) = some (r1, r2) := zQ aj H;have hji18w : (IntKind.i64.wrap ((l0.length : Int) - a3)) = ar := (i64_w _).trans aj;replace H := dn H;obtain ⟨c19, H⟩ := H;have b3 := eq_true c19;have b4 := decide_eq_true c19;clear c19;replace H := dn H;obtain ⟨c20, H⟩ := H;have b5 := eq_true c20;have b6 := decide_eq_true c20;clear c20;obtain ⟨a9, aH⟩ : ∃ y_ : List Int, y_ = (List.replicate (ar : Int).toNat 0) := ⟨_, rfl⟩;replace H : (nat_number_shr.l1 k1 l0 a3 a4 aa a9 (a9.length : Int) 0) = some (r1, r2) := zR aH H;have aS := zA aH;clear aH;have H' := zA H;clear H
   go_wp2_with (first | ((with_reducible refine zD 51 rfl ?_); (try (refine gate_guard (by rfl) ?_; dsimp only)); refine R_make (Kd.int .u64) _ 26 rfl (N := 51) rfl 106 _ _ rfl ar rfl rfl Tryd.underlying106 (.int .u64 0) 8 info26 rfl (by decide) (by omega) 0 (ok := fun _ => True) (okp := fun _ => True) rfl (fun _ hk => hk) trivial (od) (Nat.le_trans (Nat.mul_le_mul_right _ (od : ar.toNat ≤ 35184372088832)) (by omega)) (Below.refl _ _) (Nat.le_refl _) ?_; intro v187 w21 aC hb hg_ hnew_; clear hg_ hnew_; (first | rw [← aS.out] at aC | (simp only [Int.reduceToNat] at aC; rw [← aS.out] at aC)); have aT := zA (R_lower (R_newM (M := fun k_ => (w.heap.size ≤ k_)) aC (below_size bq) (fun k_ h_ => h_)) (below_size bq)); replace HB := ze hb; clear hb aC; obtain ⟨aM, ax, be⟩ := R_slice aT.out; subst be))
   go_loopg [54] k1 (fun kq v54 w' => ∃ (a8 : List Int) (a2 : Int), v54 = .int .i64 a2 ∧ Aside0 (nat_number_shr.l1 kq l0 a3 a4 aa a8 (a9.length : Int) a2 = some (r1, r2)) ∧ Aside0 (kq ≤ k1) ∧ Aside0 (Kd.R (Kd.int .u64) 26 w' w.heap.size (fun k_ => (w.heap.size ≤ k_)) (.slice aM a9.length ax) a8) ∧ Aside0 (Below w.heap.size w w'))
   case atStart => exact ⟨(a9), (0), zi, H', ⟨Nat.le_refl _⟩, ⟨ru (R_mono aT.out (fun _ hk => hk.1))⟩, ⟨bq⟩⟩
   case round =>
    clear H'
    try clear c3
    try clear aG
    try clear c5
    try clear aU
    try clear c6
    try clear aV
    try clear c8
    try clear aW
    try clear aX
    try clear aN
    try clear c11
    try clear aO
    try clear aP
    try clear c14
    try clear aR
    try clear c15
    try clear b1
    try clear c16
    try clear b2
    try clear c17
    try clear c19
    try clear b3
    try clear b4
    try clear c20
    try clear b5
    try clear b6
    try clear ag
    try clear af
    try clear p183
    try clear p185
    try clear q183
    try clear q185
    obtain ⟨a8, a2, rfl, HA, HK2, a5, HB⟩ := hrel;have hl11_2 := (R_reads' a5.out).1;rw [hl11_2] at a5;(try simp only [hl11_2])
    cases gk with
    | zero => exact absurd HA.out (by simp [nat_number_shr.l1])
    | succ k2 =>
     have H := HA.out;clear HA;simp only [nat_number_shr.l1] at H
     by_cases c24 : a2 < (a9.length : Int)
     ·rw [if_pos c24] at H;have aI := decide_eq_true c24;(try rw [hl11_2] at aI);clear c24;obtain ⟨a7, al⟩ : ∃ j_ : Int, (wrap64 (a2 + a3)) = j_ := ⟨_, rfl⟩;replace H : (if 0 ≤ (a7) then (if (a7) < (l0.length : Int) then (if 0 ≤ a4 then (if 0 ≤ a2 then (if a2 < (a8.length : Int) then ((some (a8.set (a2 : Int).toNat (shr .u64 (rd l0 (a7)) a4) : List Int)).bind fun a6 => (if a4 > 0 then (if (wrap64 ((a7) + 1)) < (l0.length : Int) then (if 0 ≤ (wrap64 ((a7) + 1)) then (if 0 ≤ (wrap64 (64 - a4)) then (nat_number_shr.l1 k2 l0 a3 a4 aa (a6.set (a2 : Int).toNat (Go.bits .or .u64 (rd a6 a2) (shl .u64 (rd l0 (wrap64 ((a7) + 1))) (wrap64 (64 - a4))))) (a9.length : Int) (wrap64 (a2 + 1))) else (none)) else (none)) else (nat_number_shr.l1 k2 l0 a3 a4 aa a6 (a9.length : Int) (wrap64 (a2 + 1)))) else (nat_number_shr.l1 k2 l0 a3 a4 aa a6 (a9.length : Int) (wrap64 (a2 + 1))))) else (none)) else (none)) else (none)) else (none)) else (none)) = some (r1, r2) := zQ al H;have hji25w : (IntKind.i64.wrap (a2 + a3)) = a7 := (i64_w _).trans al;replace H := dn H;obtain ⟨c26, H⟩ := H;have bj := decide_eq_true c26;clear c26;replace H := dn H;obtain ⟨c27, H⟩ := H;have b7 := decide_eq_true c27;(try rw [hl11_2] at b7);clear c27;replace H := dn H;obtain ⟨c28, H⟩ := H;have bk := eq_true c28;have bl := decide_eq_true c28;clear c28;obtain ⟨am, ak⟩ : ∃ j_ : Int, (shr .u64 (rd l0 (a7)) a4) = j_ := ⟨_, rfl⟩;replace H : (if 0 ≤ a2 then (if a2 < (a8.length : Int) then ((some (a8.set (a2 : Int).toNat (am) : List Int)).bind fun a6 => (if a4 > 0 then (if (wrap64 ((a7) + 1)) < (l0.length : Int) then (if 0 ≤ (wrap64 ((a7) + 1)) then (if 0 ≤ (wrap64 (64 - a4)) then (nat_number_shr.l1 k2 l0 a3 a4 aa (a6.set (a2 : Int).toNat (Go.bits .or .u64 (rd a6 a2) (shl .u64 (rd l0 (wrap64 ((a7) + 1))) (wrap64 (64 - a4))))) (a9.length : Int) (wrap64 (a2 + 1))) else (none)) else (none)) else (nat_number_shr.l1 k2 l0 a3 a4 aa a6 (a9.length : Int) (wrap64 (a2 + 1)))) else (nat_number_shr.l1 k2 l0 a3 a4 aa a6 (a9.length : Int) (wrap64 (a2 + 1))))) else (none)) else (none)) = some (r1, r2) := zQ ak H;have hji29_ : ((rd l0 (a7)) / 2 ^ min a4.toNat 64) = am := ak;have hji29z : a4 ≤ 64 → ((rd l0 (a7)) / 2 ^ a4.toNat) = am := shr_small ak;replace H := dn H;obtain ⟨c30, H⟩ := H;have bm := decide_eq_true c30;clear c30;replace H := dn H;obtain ⟨c31, H⟩ := H;have b8 := decide_eq_true c31;(try rw [hl11_2] at b8);clear c31;obtain ⟨a6, aJ⟩ : ∃ y_ : List Int, y_ = (a8.set (a2 : Int).toNat (am)) := ⟨_, rfl⟩;replace H : (if a4 > 0 then (if (wrap64 ((a7) + 1)) < (l0.length : Int) then (if 0 ≤ (wrap64 ((a7) + 1)) then (if 0 ≤ (wrap64 (64 - a4)) then (nat_number_shr.l1 k2 l0 a3 a4 aa (a6.set (a2 : Int).toNat (Go.bits .or .u64 (rd a6 a2) (shl .u64 (rd l0 (wrap64 ((a7) + 1))) (wrap64 (64 - a4))))) (a9.length : Int) (wrap64 (a2 + 1))) else (none)) else (none)) else (nat_number_shr.l1 k2 l0 a3 a4 aa a6 (a9.length : Int) (wrap64 (a2 + 1)))) else (nat_number_shr.l1 k2 l0 a3 a4 aa a6 (a9.length : Int) (wrap64 (a2 + 1)))) = some (r1, r2) := zR aJ H;have ay := zA aJ;clear aJ
      by_cases c33 : a4 > 0
      ·rw [if_pos c33] at H;have b9 := decide_eq_true c33;clear c33
       by_cases c34 : (wrap64 ((a7) + 1)) < (l0.length : Int)
       ·rw [if_pos c34] at H;have aA := decide_eq_true c34;(try rw [hl11_2] at aA);clear c34;obtain ⟨ai, av⟩ : ∃ j_ : Int, (wrap64 ((a7) + 1)) = j_ := ⟨_, rfl⟩;replace H : (if 0 ≤ (ai) then (if 0 ≤ (wrap64 (64 - a4)) then (nat_number_shr.l1 k2 l0 a3 a4 aa (a6.set (a2 : Int).toNat (Go.bits .or .u64 (rd a6 a2) (shl .u64 (rd l0 (ai)) (wrap64 (64 - a4))))) (a9.length : Int) (wrap64 (a2 + 1))) else (none)) else (none)) = some (r1, r2) := zQ av H;(try rw [av] at aA);have hji35w : (IntKind.i64.wrap ((a7) + 1)) = ai := (i64_w _).trans av;replace H := dn H;obtain ⟨c36, H⟩ := H;have bn := decide_eq_true c36;clear c36;obtain ⟨au, aB⟩ : ∃ j_ : Int, (wrap64 (64 - a4)) = j_ := ⟨_, rfl⟩;replace H : (if 0 ≤ (au) then (nat_number_shr.l1 k2 l0 a3 a4 aa (a6.set (a2 : Int).toNat (Go.bits .or .u64 (rd a6 a2) (shl .u64 (rd l0 (ai)) (au)))) (a9.length : Int) (wrap64 (a2 + 1))) else (none)) = some (r1, r2) := zQ aB H;have hji37w : (IntKind.i64.wrap (64 - a4)) = au := (i64_w _).trans aB;replace H := dn H;obtain ⟨c38, H⟩ := H;have bo := eq_true c38;have bp := decide_eq_true c38;clear c38;obtain ⟨aD, aw⟩ : ∃ j_ : Int, (shl .u64 (rd l0 (ai)) (au)) = j_ := ⟨_, rfl⟩;replace H : (nat_number_shr.l1 k2 l0 a3 a4 aa (a6.set (a2 : Int).toNat (Go.bits .or .u64 (rd a6 a2) (aD))) (a9.length : Int) (wrap64 (a2 + 1))) = some (r1, r2) := zQ aw H;have hji39_ : (IntKind.u64.wrap ((rd l0 (ai)) * 2 ^ min (au).toNat 64)) = aD := aw;have hji39z : (au) ≤ 64 → (IntKind.u64.wrap ((rd l0 (ai)) * 2 ^ (au).toNat)) = aD := shl_small aw;obtain ⟨aY, aK⟩ : ∃ y_ : List Int, y_ = (a6.set (a2 : Int).toNat (Go.bits .or .u64 (rd a6 a2) (aD))) := ⟨_, rfl⟩;replace H : (nat_number_shr.l1 k2 l0 a3 a4 aa aY (a9.length : Int) (wrap64 (a2 + 1))) = some (r1, r2) := zR aK H;have ba := zA aK;clear aK;have H' := zA H;clear H;have p189 : 0 ≤ ((a7) : Int) := od;have q189 : (a7) < (l0.length : Int) := od;obtain ⟨ad189, e189, ab⟩ := Kd.at_int aE.out (a7) p189 q189;obtain rfl : ad183 = ad189 := (by injection e189);replace ab := (HB.out.cell (World.block_lt_of_cell? w _ ab)).trans ab;replace p189 := eq_true p189;replace q189 := eq_true q189;have p32 : 0 ≤ (a2 : Int) := od;have q32 : (a2 : Int) < ((a8.length : Int) : Int) := od;obtain ⟨go32, az, ap, aq, gl32, cl32, HG32⟩ := R_form a5.out (by omega)
        (first | cases ap | (injection ap with ea_ en_ ec_; (first | subst ea_ | (injection ea_ with ea_; subst ea_)); subst ec_; clear en_))
        have GB32 := zA aq;have GG32 := zA HG32;clear aq gl32 HG32;obtain ⟨aL, hf32_0⟩ := R_celln 0 a5.out (a2 : Int) p32 q32;replace p32 := eq_true p32;replace q32 := eq_true q32;have HP41 := R_putg a5.out (a2 : Int) am
        try go_wp2_with (first | ((with_reducible refine gate_store (t := 26) (p := 67) rfl ?_); refine store_event (t := 26) (p := 67) (v := ?vo_w42) (w1 := (wr.setCell ⟨go32, (a2 : Int).toNat, none⟩ (.int .u64 am))) ?hg ?ho ?hn ?hr ?_; (case ho => rfl); (case hg => rfl); (case hn => rfl); (case hr => first | (go_simp; done) | (go_simp; rfl)); intro w42 hw; have hg : wr.grownBy w42 (some go32) := (by rw [hw]; exact HP41.2); have hp_ : Kd.R (Kd.int .u64) 26 w42 w.heap.size (fun k_ => (w.heap.size ≤ k_)) (.slice (some ⟨go32, 0, none⟩) a8.length ax) a6 := (by rw [hw, ay.out]; exact HP41.1); clear HP41; replace a5 := zA (hp_); replace HB := zA ((by rw [hw]; exact below_set (HB.out) GB32.out : Below w.heap.size w w42)); clear hg hw hp_))
        replace a5 := zA (R_drew a5.out);replace HB := zA (below_drew1 HB.out);have p191 : 0 ≤ (a2 : Int) := od;have q191 : a2 < (a6.length : Int) := (by have h_ : (a2 : Int) < ((a8.length : Int) : Int) := od; first | (have e_ := (R_reads' a5.out).1; omega) | simpa only [ay.out, List.length_set] using h_);have ql191 : ((a2 : Int) < ((a8.length : Int) : Int)) = True := eq_true (od);obtain ⟨ad191, e191, an⟩ := Kd.at_int (R_reads' a5.out).2.2 a2 p191 q191;obtain rfl : (⟨go32, 0, none⟩ : Addr) = ad191 := (by injection e191)
        (first | simp only [add_plain] at an | simp only [add_at] at an | simp only [Addr.add, Nat.zero_add] at an | skip)
        replace p191 := eq_true p191;replace q191 := eq_true q191;have p192 : 0 ≤ ((ai) : Int) := od;have q192 : (ai) < (l0.length : Int) := od;obtain ⟨ad192, e192, ao⟩ := Kd.at_int aE.out (ai) p192 q192;have hw192_0 := ao;obtain rfl : ad183 = ad192 := (by injection e192);replace ao := (HB.out.cell (World.block_lt_of_cell? w _ ao)).trans ao;replace p192 := eq_true p192;replace q192 := eq_true q192;have p40 : 0 ≤ (a2 : Int) := od;have q40 : (a2 : Int) < ((a8.length : Int) : Int) := od;obtain ⟨aZ, hf40_0⟩ := R_celln 0 a5.out (a2 : Int) p40 q40;replace p40 := eq_true p40;replace q40 := eq_true q40;have HP44 := R_putn a5.out (a2 : Int) (Go.bits .or .u64 (rd a6 a2) (aD));rw [← ba.out] at HP44;have HQ44 := zA HP44;clear HP44;refine start_ (n := 17) (S := fun w' => w'.cell? ⟨go32, (a2).toNat, none⟩ = some (.int .u64 (rd a6 a2)) ∧ w'.cell? (ad183.add ((ai)).toNat) = some (.int .u64 (rd l0 (ai)))) (ds := [16]) #[false, false, false, false, false, false, false, false, false, false, false, false, false, false, false, false, false] (by kernel_rfl) rfl rfl ⟨an, ((HB.out.cell (World.block_lt_of_cell? w _ hw192_0)).trans hw192_0)⟩ (fun hHeld => ?_); refine with_tabW nat_number_shr.tab16 nat_number_shr.bits16 (fun HT_ HW_ => ?_);generalize w42.drew = w43 at a5 HB HQ44 hf40_0 an ao aZ hHeld ⊢;refine pure_ (i := 0) (N := some 79) (v := ?_) (a' := ?_) #[true, false, false, false, false, false, false, false, false, false, false, false, false, false, false, false, false] rfl rfl (any_of HT_.out (by kernel_rfl)) (fun _ _ _ h => h) (Or.inl ⟨by rfl, ?_⟩) ?_ ?_;rotate_left;·intro w';go_simp;with_reducible rfl
        rotate_left;·exact zq
        refine pure_ (i := 1) (N := some 80) (v := ?_) (a' := ?_) #[true, true, false, false, false, false, false, false, false, false, false, false, false, false, false, false, false] rfl rfl (any_of HT_.out (by kernel_rfl)) (fun _ _ _ h => h) (Or.inl ⟨by rfl, ?_⟩) ?_ ?_;rotate_left;·intro w';go_simp;with_reducible rfl
        rotate_left;·exact zq
        refine pure_ (i := 2) (N := some 81) (v := ?_) (a' := ?_) #[true, true, true, false, false, false, false, false, false, false, false, false, false, false, false, false, false] rfl rfl (any_of HT_.out (by kernel_rfl)) (fun _ _ _ h => h) (Or.inl ⟨by rfl, ?_⟩) ?_ ?_;rotate_left;·intro w';go_simp;with_reducible rfl
        rotate_left;·exact zq
        refine pure_ (i := 4) (N := some 83) (v := ?_) (a' := ?_) #[true, true, true, false, true, false, false, false, false, false, false, false, false, false, false, false, false] rfl rfl (any_of HT_.out (by kernel_rfl)) (fun _ _ _ h => h) (Or.inl ⟨by rfl, ?_⟩) ?_ ?_;rotate_left;·intro w';go_simp;with_reducible rfl
        rotate_left;·exact zq
        refine pure_ (i := 5) (N := some 84) (v := ?_) (a' := ?_) #[true, true, true, false, true, true, false, false, false, false, false, false, false, false, false, false, false] rfl rfl (any_of HT_.out (by kernel_rfl)) (fun _ _ _ h => h) (Or.inl ⟨by rfl, ?_⟩) ?_ ?_;rotate_left;·intro w';go_simp;with_reducible rfl
        rotate_left;·exact zq
        refine pure_ (i := 6) (N := some 85) (v := ?_) (a' := ?_) #[true, true, true, false, true, true, true, false, false, false, false, false, false, false, false, false, false] rfl rfl (any_of HT_.out (by kernel_rfl)) (fun _ _ _ h => h) (Or.inl ⟨by rfl, ?_⟩) ?_ ?_;rotate_left;·intro w';go_simp;with_reducible rfl
        rotate_left;·exact zq
        refine pure_ (i := 7) (N := some 86) (v := ?_) (a' := ?_) #[true, true, true, false, true, true, true, true, false, false, false, false, false, false, false, false, false] rfl rfl (any_of HT_.out (by kernel_rfl)) (fun _ _ _ h => h) (Or.inl ⟨by rfl, ?_⟩) ?_ ?_;rotate_left;·intro w';go_simp;with_reducible rfl
        rotate_left;·exact zq
        refine pure_ (i := 8) (N := some 87) (v := ?_) (a' := ?_) #[true, true, true, false, true, true, true, true, true, false, false, false, false, false, false, false, false] rfl rfl (any_of HT_.out (by kernel_rfl)) (fun _ _ _ h => h) (Or.inl ⟨by rfl, ?_⟩) ?_ ?_;rotate_left;·intro w';go_simp;with_reducible rfl
        rotate_left;·exact zq
        refine pure_ (i := 9) (N := some 88) (v := ?_) (a' := ?_) #[true, true, true, false, true, true, true, true, true, true, false, false, false, false, false, false, false] rfl rfl (any_of HT_.out (by kernel_rfl)) (fun _ _ _ h => h) (Or.inl ⟨by rfl, ?_⟩) ?_ ?_;rotate_left;·intro w';go_simp;with_reducible rfl
        rotate_left;·exact zq
        refine pure_ (i := 11) (N := some 90) (v := ?_) (a' := ?_) #[true, true, true, false, true, true, true, true, true, true, false, true, false, false, false, false, false] rfl rfl (any_of HT_.out (by kernel_rfl)) (fun _ _ _ h => h) (Or.inl ⟨by rfl, ?_⟩) ?_ ?_;rotate_left;·intro w';go_simp;with_reducible rfl
        rotate_left;·exact zq
        refine pure_ (i := 12) (N := some 91) (v := ?_) (a' := ?_) #[true, true, true, false, true, true, true, true, true, true, false, true, true, false, false, false, false] rfl rfl (any_of HT_.out (by kernel_rfl)) (fun _ _ _ h => h) (Or.inl ⟨by rfl, ?_⟩) ?_ ?_;rotate_left;·intro w';go_simp;with_reducible rfl
        rotate_left;·exact zq
        refine take_ (i := 3) (N := some 82) (v := ?_) (a' := ?_) #[true, true, true, true, true, true, true, true, true, true, false, true, true, false, false, false, false] rfl rfl (take_ofW HT_.out HW_.out (by kernel_rfl)) (fun _ _ _ h => h) (Or.inl ⟨by rfl, ?_⟩) hHeld ?_ ?_;rotate_left;·rintro w' ⟨s0, s1⟩;go_simp;with_reducible rfl
        rotate_left;·exact zq
        refine take_ (i := 10) (N := some 89) (v := ?_) (a' := ?_) #[true, true, true, true, true, true, true, true, true, true, true, true, true, false, false, false, false] rfl rfl (take_ofW HT_.out HW_.out (by kernel_rfl)) (fun _ _ _ h => h) (Or.inl ⟨by rfl, ?_⟩) hHeld ?_ ?_;rotate_left;·rintro w' ⟨s0, s1⟩;go_simp;with_reducible rfl
        rotate_left;·exact zq
        refine pure_ (i := 13) (N := some 92) (v := ?_) (a' := ?_) #[true, true, true, true, true, true, true, true, true, true, true, true, true, true, false, false, false] rfl rfl (any_of HT_.out (by kernel_rfl)) (fun _ _ _ h => h) (Or.inl ⟨by rfl, ?_⟩) ?_ ?_;rotate_left;·intro w';go_simp;with_reducible rfl
        rotate_left;·exact zq
        refine pure_ (i := 14) (N := some 93) (v := ?_) (a' := ?_) #[true, true, true, true, true, true, true, true, true, true, true, true, true, true, true, false, false] rfl rfl (any_of HT_.out (by kernel_rfl)) (fun _ _ _ h => h) (Or.inl ⟨by rfl, ?_⟩) ?_ ?_;rotate_left;·intro w';go_simp;with_reducible rfl
        rotate_left;·exact zq
        refine pure_ (i := 15) (N := some 94) (v := ?_) (a' := ?_) #[true, true, true, true, true, true, true, true, true, true, true, true, true, true, true, true, false] rfl rfl (any_of HT_.out (by kernel_rfl)) (fun _ _ _ h => h) (Or.inl ⟨by rfl, ?_⟩) ?_ ?_;rotate_left;·intro w';go_simp;with_reducible rfl
        rotate_left;·exact zq
        refine last_ (i := 16) (N := none) #[true, true, true, true, true, true, true, true, true, true, true, true, true, true, true, true, true] rfl rfl (one_of HT_.out (by kernel_rfl)) (by decide) (fun K hK => ?_);refine skip_ (w1 := ?_) (by rfl) rfl ?_ ?_;rotate_left;·go_simp;rfl
        refine hK.out _ _ ?_;clear hK K;refine done_ (done_of HT_.out (by kernel_rfl)) ?_
        try go_wp2
        (try simp only [← hl11_2])
        go_roundg k2
        case measure => have := HK1.out; have := HK2.out; omega
        case rel => exact ⟨(aY), (wrap64 (a2 + 1)), zi, (by first | exact H' | (simp only [ad, ah, ae, aj, al, ak, av, aB, aw]; exact H') | (simp only [ad, ah, ae, aj, al, ak, av, aB, aw] at H' ⊢; exact H')), ⟨by have := HK1.out; have := HK2.out; omega⟩, ⟨by (try simp only [hl11_2]); (with_reducible repeat (first | apply R_alloc | apply R_drewN | apply R_drew)); exact HQ44.out⟩, ⟨by repeat (first | (with_reducible first | exact HB.out | apply below_alloc | apply pw_below_drewN | apply below_drew1 | refine below_set ?_ GB32.out) | exact HB.out)⟩⟩
       rw [if_neg c34] at H;have aA := decide_eq_false c34;(try rw [hl11_2] at aA);clear c34;have H' := zA H;clear H;have p189 : 0 ≤ ((a7) : Int) := od;have q189 : (a7) < (l0.length : Int) := od;obtain ⟨ad189, e189, ab⟩ := Kd.at_int aE.out (a7) p189 q189;obtain rfl : ad183 = ad189 := (by injection e189);replace ab := (HB.out.cell (World.block_lt_of_cell? w _ ab)).trans ab;replace p189 := eq_true p189;replace q189 := eq_true q189;have p32 : 0 ≤ (a2 : Int) := od;have q32 : (a2 : Int) < ((a8.length : Int) : Int) := od;obtain ⟨go32, az, ap, aq, gl32, cl32, HG32⟩ := R_form a5.out (by omega)
       (first | cases ap | (injection ap with ea_ en_ ec_; (first | subst ea_ | (injection ea_ with ea_; subst ea_)); subst ec_; clear en_))
       have GB32 := zA aq;have GG32 := zA HG32;clear aq gl32 HG32;obtain ⟨aL, hf32_0⟩ := R_celln 0 a5.out (a2 : Int) p32 q32;replace p32 := eq_true p32;replace q32 := eq_true q32;have HP45 := R_putg a5.out (a2 : Int) am
       go_wp2_with (first | ((with_reducible refine gate_store (t := 26) (p := 67) rfl ?_); refine store_event (t := 26) (p := 67) (v := ?vo_w46) (w1 := (wr.setCell ⟨go32, (a2 : Int).toNat, none⟩ (.int .u64 am))) ?hg ?ho ?hn ?hr ?_; (case ho => rfl); (case hg => rfl); (case hn => rfl); (case hr => first | (go_simp; done) | (go_simp; rfl)); intro w46 hw; have hg : wr.grownBy w46 (some go32) := (by rw [hw]; exact HP45.2); have hp_ : Kd.R (Kd.int .u64) 26 w46 w.heap.size (fun k_ => (w.heap.size ≤ k_)) (.slice (some ⟨go32, 0, none⟩) a8.length ax) a6 := (by rw [hw, ay.out]; exact HP45.1); clear HP45; replace a5 := zA (hp_); replace HB := zA ((by rw [hw]; exact below_set (HB.out) GB32.out : Below w.heap.size w w46)); clear hg hw hp_))
       (try simp only [← hl11_2])
       go_roundg k2
       case measure => have := HK1.out; have := HK2.out; omega
       case rel => exact ⟨(a6), (wrap64 (a2 + 1)), zi, (by first | exact H' | (simp only [ad, ah, ae, aj, al, ak]; exact H') | (simp only [ad, ah, ae, aj, al, ak] at H' ⊢; exact H')), ⟨by have := HK1.out; have := HK2.out; omega⟩, ⟨by (try simp only [hl11_2]); (with_reducible repeat (first | apply R_alloc | apply R_drewN | apply R_drew)); exact a5.out⟩, ⟨bq⟩⟩
      rw [if_neg c33] at H;have b9 := decide_eq_false c33;clear c33;have H' := zA H;clear H;have p189 : 0 ≤ ((a7) : Int) := od;have q189 : (a7) < (l0.length : Int) := od;obtain ⟨ad189, e189, ab⟩ := Kd.at_int aE.out (a7) p189 q189;obtain rfl : ad183 = ad189 := (by injection e189);replace ab := (HB.out.cell (World.block_lt_of_cell? w _ ab)).trans ab;replace p189 := eq_true p189;replace q189 := eq_true q189;have p32 : 0 ≤ (a2 : Int) := od;have q32 : (a2 : Int) < ((a8.length : Int) : Int) := od;obtain ⟨go32, az, ap, aq, gl32, cl32, HG32⟩ := R_form a5.out (by omega)
      (first | cases ap | (injection ap with ea_ en_ ec_; (first | subst ea_ | (injection ea_ with ea_; subst ea_)); subst ec_; clear en_))
      have GB32 := zA aq;have GG32 := zA HG32;clear aq gl32 HG32;obtain ⟨aL, hf32_0⟩ := R_celln 0 a5.out (a2 : Int) p32 q32;replace p32 := eq_true p32;replace q32 := eq_true q32;have HP47 := R_putg a5.out (a2 : Int) am
      go_wp2_with (first | ((with_reducible refine gate_store (t := 26) (p := 67) rfl ?_); refine store_event (t := 26) (p := 67) (v := ?vo_w48) (w1 := (wr.setCell ⟨go32, (a2 : Int).toNat, none⟩ (.int .u64 am))) ?hg ?ho ?hn ?hr ?_; (case ho => rfl); (case hg => rfl); (case hn => rfl); (case hr => first | (go_simp; done) | (go_simp; rfl)); intro w48 hw; have hg : wr.grownBy w48 (some go32) := (by rw [hw]; exact HP47.2); have hp_ : Kd.R (Kd.int .u64) 26 w48 w.heap.size (fun k_ => (w.heap.size ≤ k_)) (.slice (some ⟨go32, 0, none⟩) a8.length ax) a6 := (by rw [hw, ay.out]; exact HP47.1); clear HP47; replace a5 := zA (hp_); replace HB := zA ((by rw [hw]; exact below_set (HB.out) GB32.out : Below w.heap.size w w48)); clear hg hw hp_))
      (try simp only [← hl11_2])
      go_roundg k2
      case measure => have := HK1.out; have := HK2.out; omega
      case rel => exact ⟨(a6), (wrap64 (a2 + 1)), zi, (by first | exact H' | (simp only [ad, ah, ae, aj, al, ak]; exact H') | (simp only [ad, ah, ae, aj, al, ak] at H' ⊢; exact H')), ⟨by have := HK1.out; have := HK2.out; omega⟩, ⟨by (try simp only [hl11_2]); (with_reducible repeat (first | apply R_alloc | apply R_drewN | apply R_drew)); exact a5.out⟩, ⟨bq⟩⟩
     rw [if_neg c24] at H;have aI := decide_eq_false c24;(try rw [hl11_2] at aI);clear c24;obtain ⟨bf, bh, H⟩ := zh H;simp only [Option.some.injEq, Prod.mk.injEq] at H;obtain ⟨rfl, rfl⟩ := H
     go_wp2_with (first | ((with_reducible refine zG 95 rfl ?_); refine zL (some 97) rfl rfl Tryd.func95 #[.slice aM a8.length ax] rfl ?_; (with_reducible refine (nat_norm.calls k2 (fun k_ => some k_ = (.slice aM a8.length ax : Value).ownBlock) _ _ a8 bf _ ?bb bh.out).mono ?_); (case bb => exact R_V (R_tight rfl (a5.out))); rintro e w50 ⟨v195, rfl, bd, hb⟩; refine ⟨_, rfl, ?_⟩; have bc := zA (V_lower (V_mono (ok' := fun k_ => (w.heap.size ≤ k_)) bd (fun k_ hk_ => Or.elim hk_ (fun hs_ => ((a5.out).1 k_ hs_.symm)) (fun hn_ => (Nat.le_trans (below_size bq) hn_)))) (below_size bq)); replace a5 := zA (R_below (ru a5.out) hb); replace HB := ze hb; (try clear bd)))
     go_ret2
     exact ⟨_, by first | rfl | (simp [errW_none, errW_some] <;> rfl) | (simp only [← ad, ← ah, ← ae, ← aj]; first | rfl | (simp [errW_none, errW_some] <;> rfl)) | (simp [*, errW_none, errW_some] <;> rfl), vu bc.out, bq⟩
def nat_Shr.f (k : Nat) (l0 : List Int) (a1 : Int) : Option (List Int × Bool × Int) := (nat_one.f k l0).bind fun a2 => (if a2.2 = 0 then (if a1 < 0 then (some (([] : List Int), false, 2)) else ((nat_number_shr.f k a2.1 a1).bind fun a3 => ((nat_number_own.f a3.1).bind fun a4 => (some (a4, a3.2, 0))))) else (some (([] : List Int), false, a2.2)))
theorem nat_Shr.mono : ∀ a0 a1 k, LeO (nat_Shr.f k a0 a1) (nat_Shr.f (k + 1) a0 a1) := by
 intro a0 a1 k
 unfold nat_Shr.f
 repeat' first
   | (with_reducible exact nat_number_shr.mono _ _ _)
   | (with_reducible exact nat_one.mono _ _)
   | (with_reducible exact LeO.refl _)
   | (with_reducible exact LeO.none _)
   | (with_reducible refine LeO.ite ?_ ?_)
   | (with_reducible refine LeO.bind ?_ (fun _ => ?_))
   | exact nat_number_shr.mono _ _ _
   | exact nat_one.mono _ _
   | exact LeO.none _
   | refine LeO.ite ?_ ?_
   | refine LeO.bind ?_ (fun _ => ?_)
set_option maxHeartbeats 8000000 in
set_option maxRecDepth 100000 in
theorem nat_Shr.calls (k : Nat) (A0 : Option Addr) (c0 : Nat) (l0 : List Int) (a1 : Int) (r1 : List Int) (r2 : Bool) (r3 : Int) (w : World) (hr0 : Kd.C (Kd.int .u64) w A0 l0.length l0) (hc0 : l0.length ≤ c0) (h : nat_Shr.f k l0 a1 = some (r1, r2, r3)) :
  Calls Tryd.prog 107 #[.slice A0 l0.length c0, .int .i64 a1] w fun e w' => ∃ v0_ : Value, e = .returned (.tuple #[v0_, .bool r2, .int .i64 r3]) ∧ Kd.R (Kd.int .u64) 26 w' w.heap.size (fun _ => True) v0_ r1 ∧ Below w.heap.size w w' := by
 have ad := zA hr0;have ae := zA hc0;clear hr0 hc0;have HB := zA (Below.refl w.heap.size w);have H : ((nat_one.f k l0).bind fun a7 => (if a7.2 = 0 then (if a1 < 0 then (some (([] : List Int), false, 2)) else ((nat_number_shr.f k a7.1 a1).bind fun ac => ((nat_number_own.f ac.1).bind fun aa => (some (aa, ac.2, 0))))) else (some (([] : List Int), false, a7.2)))) = some (r1, r2, r3) := h;clear h;obtain ⟨⟨a6, a8⟩, A3, H⟩ := zh H;(try dsimp only at H)
 by_cases c4 : a8 = 0
 ·rw [if_pos c4] at H;have ag := beq_iff_eq.mpr c4;have ah := bne_eq_false_iff_eq.mpr c4;clear c4
  by_cases c5 : a1 < 0
  ·rw [if_pos c5] at H;have ai := decide_eq_true c5;clear c5;simp only [Option.some.injEq, Prod.mk.injEq] at H;obtain ⟨rfl, rfl, rfl⟩ := H;go_enter Tryd.func107, Tryd.ntmps107
   go_wp2_with (first | ((with_reducible refine zG 103 rfl ?_); refine zL (some 13) rfl rfl Tryd.func103 #[.slice A0 l0.length c0] rfl ?_; (with_reducible refine (nat_one.calls k (fun k_ => k_ < w.heap.size) _ _ l0 a6 a8 _ ?a3 A3.out).mono ?_); (case a3 => exact V_mk ae.out (Kd.F_below (C_F (Kd.heap_int .u64) ad.out) bq)); rintro e w6 ⟨v198, rfl, a2, hb⟩; refine ⟨_, rfl, ?_⟩; have a4 := zA (V_lower (V_mono (ok' := fun k_ => True) a2 (fun k_ hk_ => trivial)) (below_size bq)); replace HB := ze hb; (try clear a2)))
   go_ret3
   exact ⟨_, er, by first | exact R_nil _ _ _ _ _ | exact Kd.N_nil _ _ _ _ _ | exact V_nil _ _ _ _ _ | exact Kd.Q_nil _ _ _ _ _ | exact Kd.S_nil _ _ _ _ _, bq⟩
  rw [if_neg c5] at H;have ai := decide_eq_false c5;clear c5;obtain ⟨⟨ab, aj⟩, A7, H⟩ := zh H;(try dsimp only at H);obtain ⟨aa, A8, H⟩ := zh H;simp only [Option.some.injEq, Prod.mk.injEq] at H;obtain ⟨rfl, rfl, rfl⟩ := H;go_enter Tryd.func107, Tryd.ntmps107
  go_wp2_with (first | ((with_reducible refine zG 103 rfl ?_); refine zL (some 13) rfl rfl Tryd.func103 #[.slice A0 l0.length c0] rfl ?_; (with_reducible refine (nat_one.calls k (fun k_ => k_ < w.heap.size) _ _ l0 a6 a8 _ ?a3 A3.out).mono ?_); (case a3 => exact V_mk ae.out (Kd.F_below (C_F (Kd.heap_int .u64) ad.out) bq)); rintro e w9 ⟨v198, rfl, a2, hb⟩; refine ⟨_, rfl, ?_⟩; have a4 := zA (V_lower (V_mono (ok' := fun k_ => True) a2 (fun k_ hk_ => trivial)) (below_size bq)); replace HB := ze hb; (try clear a2); obtain ⟨ak, al, am⟩ := V_slice a4.out; subst am) | ((with_reducible refine zG 124 rfl ?_); refine zL (some 26) rfl rfl Tryd.func124 #[.slice ak a6.length al, .int .i64 a1] rfl ?_; (with_reducible refine (nat_number_shr.calls k _ _ a6 a1 ab aj _ ?a3 ?a9 A7.out).mono ?_); (case a3 => exact zk (V_reads' a4.out).2.2); (case a9 => exact (V_reads' a4.out).2.1); rintro e w11 ⟨v202, rfl, a2, hb⟩; refine ⟨_, rfl, ?_⟩; replace a4 := zA (V_below (vu a4.out) hb); have a5 := zA (V_lower (V_mono (ok' := fun k_ => True) a2 (fun k_ hk_ => trivial)) (below_size bq)); replace HB := ze hb; (try clear a2); obtain ⟨an, ao, ap⟩ := V_slice a5.out; subst ap) | ((with_reducible refine zG 96 rfl ?_); refine zL (some 30) rfl rfl Tryd.func96 #[.slice an ab.length ao] rfl ?_; (with_reducible refine (nat_number_own.calls _ _ ab aa _ ?a3 ?a9 A8.out).mono ?_); (case a3 => exact zk (V_reads' a5.out).2.2); (case a9 => exact (V_reads' a5.out).2.1); rintro e w13 ⟨v206, rfl, a2, hb⟩; refine ⟨_, rfl, ?_⟩; replace a4 := zA (V_elder' (vu a4.out) (R_base a2) hb); replace a5 := zA (V_elder' (vu a5.out) (R_base a2) hb); have af := zA (R_lower a2 (below_size bq)); replace HB := ze hb; (try clear a2)))
  go_ret3
  exact ⟨_, er, ru af.out, bq⟩
 rw [if_neg c4] at H;have ag := beq_eq_false_iff_ne.mpr c4;have ah := bne_iff_ne.mpr c4;simp only [Option.some.injEq, Prod.mk.injEq] at H;obtain ⟨rfl, rfl, rfl⟩ := H;go_enter Tryd.func107, Tryd.ntmps107
 go_wp2_with (first | ((with_reducible refine zG 103 rfl ?_); refine zL (some 13) rfl rfl Tryd.func103 #[.slice A0 l0.length c0] rfl ?_; (with_reducible refine (nat_one.calls k (fun k_ => k_ < w.heap.size) _ _ l0 a6 a8 _ ?a3 A3.out).mono ?_); (case a3 => exact V_mk ae.out (Kd.F_below (C_F (Kd.heap_int .u64) ad.out) bq)); rintro e w14 ⟨v198, rfl, a2, hb⟩; refine ⟨_, rfl, ?_⟩; have a4 := zA (V_lower (V_mono (ok' := fun k_ => True) a2 (fun k_ hk_ => trivial)) (below_size bq)); replace HB := ze hb; (try clear a2)))
 go_ret3
 exact ⟨_, er, by first | exact R_nil _ _ _ _ _ | exact Kd.N_nil _ _ _ _ _ | exact V_nil _ _ _ _ _ | exact Kd.Q_nil _ _ _ _ _ | exact Kd.S_nil _ _ _ _ _, bq⟩
end Go.Proofs.YtnjfckadjklmfaaDoor.PAll
