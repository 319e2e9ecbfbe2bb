/- Printed functions, merged by a program of this session. -/
import Derived.Test.YtjnfipkbgmdpaaaDoorXAlgMirrorP0
import Derived.Test.YtjnfipkbgmdpaaaDoorXAlgMirrorP1
import Derived.Test.YtjnfipkbgmdpaaaDoorXAlgMirrorP2
import Derived.Test.YtjnfipkbgmdpaaaDoorXAlgMirrorSh
namespace Go.Proofs.YtjnfipkbgmdpaaaDoor.PAll
open Go.RowKit Go.Proofs.YtjnfipkbgmdpaaaDoorW.PrintWords Go.Proofs.YtjnfipkbgmdpaaaDoorW.PrintLast Go.Proofs.YtjnfipkbgmdpaaaDoorW.PrintMore Go.Proofs.YtjnfipkbgmdpaaaDoorW.PrintWords.Kd
attribute [local go_sem] max2_int min2_int max_two min_two max_three min_three max_four min_four   -- for this text's walks alone
set_option linter.unusedVariables false
set_option linter.unusedSimpArgs false
attribute [local go_sem] ext75 ext76
mutual
def nat_number_shr.l0 : Nat → List Int → Int → Int → Bool → List Int → Int → Int → Option (List Int × Bool)
 | 0, _, _, _, _, _, _, _ => none
 | k + 1, x0, x6, x7, x8, x35, x36, x37 => if x37 < x36 then (if 0 ≤ x37 then (if x37 < (x35.length : Int) then (if x8 = true then (nat_number_shr.l0 k x0 x6 x7 true x35 x36 (wrap64 (x37 + 1))) else (nat_number_shr.l0 k x0 x6 x7 ((rd x35 x37) != 0) x35 x36 (wrap64 (x37 + 1)))) else (none)) else (none)) else (if 0 ≤ (wrap64 ((x0.length : Int) - x6)) then (if (wrap64 ((x0.length : Int) - x6) : Int).toNat ≤ 35184372088832 then ((some (List.replicate (wrap64 ((x0.length : Int) - x6) : Int).toNat 0 : List Int)).bind fun a1 => (nat_number_shr.l1 k x0 x6 x7 x8 a1 (a1.length : Int) 0)) else (none)) else (none))
def nat_number_shr.l1 : Nat → List Int → Int → Int → Bool → List Int → Int → Int → Option (List Int × Bool)
 | 0, _, _, _, _, _, _, _ => none
 | k + 1, x0, x6, x7, x8, x11, x53, x54 => if x54 < x53 then (if 0 ≤ (wrap64 (x54 + x6)) then (if (wrap64 (x54 + x6)) < (x0.length : Int) then (if 0 ≤ x7 then (if 0 ≤ x54 then (if x54 < (x11.length : Int) then ((some (x11.set (x54 : Int).toNat (shr .u64 (rd x0 (wrap64 (x54 + x6))) x7) : List Int)).bind fun a1 => (if x7 > 0 then (if (wrap64 ((wrap64 (x54 + x6)) + 1)) < (x0.length : Int) then (if 0 ≤ (wrap64 ((wrap64 (x54 + x6)) + 1)) then (if 0 ≤ (wrap64 (64 - x7)) then (nat_number_shr.l1 k x0 x6 x7 x8 (a1.set (x54 : Int).toNat (Go.bits .or .u64 (rd a1 x54) (shl .u64 (rd x0 (wrap64 ((wrap64 (x54 + x6)) + 1))) (wrap64 (64 - x7))))) x53 (wrap64 (x54 + 1))) else (none)) else (none)) else (nat_number_shr.l1 k x0 x6 x7 x8 a1 x53 (wrap64 (x54 + 1)))) else (nat_number_shr.l1 k x0 x6 x7 x8 a1 x53 (wrap64 (x54 + 1))))) else (none)) else (none)) else (none)) else (none)) else (none)) else ((nat_norm.f k x11).bind fun a2 => (some (a2, x8)))
end
def nat_number_shr.f (k : Nat) (l0 : List Int) (a1 : Int) : Option (List Int × Bool) := if (wrap64 (Int.tdiv a1 64)) ≥ (l0.length : Int) then (some (([] : List Int), decide ((l0.length : Int) > 0))) else (if 0 ≤ (wrap64 (Int.tdiv a1 64)) then (if (wrap64 (Int.tdiv a1 64)) < (l0.length : Int) then (if 0 ≤ (Int.tmod a1 64) then (if (wrap64 (Int.tdiv a1 64)) ≤ (l0.length : Int) then (nat_number_shr.l0 k l0 (wrap64 (Int.tdiv a1 64)) (Int.tmod a1 64) ((Go.bits .and .u64 (rd l0 (wrap64 (Int.tdiv a1 64))) (IntKind.u64.wrap ((shl .u64 1 (Int.tmod a1 64)) - 1))) != 0) (l0.take ((wrap64 (Int.tdiv a1 64)) : Int).toNat) (max (wrap64 (Int.tdiv a1 64)) 0) 0) else (none)) else (none)) else (none)) else (none))
def nat_number_shr.T4 : Bool × List (List Nat × List Nat) := (true, [([], []), ([], []), ([0, 1], [0, 1]), ([2], [2]), ([], []), ([4], [4]), ([5], [5]), ([3, 6], [3, 6]), ([7], [7]), ([8, 0, 1, 2, 3, 4, 5, 6, 7, 8], [8])])
def nat_number_shr.B4 : List Nat := [0, 0, 3, 7, 0, 16, 48, 127, 255, 511]
theorem nat_number_shr.tab4 : rtab .any (opsOf Tryd.f68 4) = nat_number_shr.T4 := by kernel_rfl
theorem nat_number_shr.bits4 : waitsOk nat_number_shr.T4.2 nat_number_shr.B4 = true := by kernel_rfl
def nat_number_shr.T16 : Bool × List (List Nat × List Nat) := (true, [([], []), ([], []), ([0, 1], [0, 1]), ([2], [2]), ([], []), ([], []), ([], []), ([5, 6], [5, 6]), ([7], [7]), ([4, 8], [4, 8]), ([9], [9]), ([], []), ([11], [11]), ([10, 12], [10, 12]), ([3, 13], [3, 13]), ([0, 1, 0, 1, 2, 3, 4, 5, 6, 7, 8, 9, 10, 11, 12, 13, 14], [0, 1]), ([15, 14, 0, 1, 2, 3, 4, 5, 6, 7, 8, 9, 10, 11, 12, 13, 14], [14, 15])])
def nat_number_shr.B16 : List Nat := [0, 0, 3, 7, 0, 0, 0, 96, 224, 496, 1008, 0, 2048, 8176, 16383, 32767, 65535]
theorem nat_number_shr.tab16 : rtab .any (opsOf Tryd.f68 16) = nat_number_shr.T16 := by kernel_rfl
theorem nat_number_shr.bits16 : waitsOk nat_number_shr.T16.2 nat_number_shr.B16 = true := by kernel_rfl
set_option maxHeartbeats 8000000 in
set_option maxRecDepth 100000 in
theorem nat_number_shr.calls (k : Nat) (A0 : Option Addr) (c0 : Nat) (l0 : List Int) (a1 : Int) (r1 : List Int) (r2 : Bool) (w : World) (hr0 : Kd.C (Kd.int .u64) w A0 l0.length l0) (hc0 : l0.length ≤ c0) (h : nat_number_shr.f k l0 a1 = some (r1, r2)) :
  Calls Tryd.prog 68 #[.slice A0 l0.length c0, .int .i64 a1] w fun e w' => ∃ v0_ : Value, e = .returned (.tuple #[v0_, .bool r2]) ∧ Kd.V (Kd.int .u64) 22 w' w.heap.size (fun k_ => (w.heap.size ≤ k_)) v0_ r1 ∧ Below w.heap.size w w' := by
 have aD := zA hr0;have bg := zA hc0;clear hr0 hc0;have HB := zA (Below.refl w.heap.size w);have H := h
 unfold nat_number_shr.f at H
 clear h
 by_cases c3 : (wrap64 (Int.tdiv a1 64)) ≥ (l0.length : Int)
 ·rw [if_pos c3] at H;have aE := decide_eq_true c3;clear c3;simp only [Option.some.injEq, Prod.mk.injEq] at H;obtain ⟨rfl, rfl⟩ := H;go_enter Tryd.func68, Tryd.ntmps68
  go_wp2
  go_ret2
  exact ⟨_, er, V_nil _ _ _ _ _, bq⟩
 rw [if_neg c3] at H;have aE := decide_eq_false c3;clear c3;generalize a9 : wrap64 (Int.tdiv a1 64) = a7 at H;(try rw [a9] at aE);have hji4w : (IntKind.i64.wrap (Int.tdiv a1 64)) = a7 := (i64_w _).trans a9;replace H := dn H;obtain ⟨c5, H⟩ := H;have aT := decide_eq_true c5;clear c5;replace H := dn H;obtain ⟨c6, H⟩ := H;have aU := decide_eq_true c6;clear c6;generalize ae : Int.tmod a1 64 = ad at H;replace H := dn H;obtain ⟨c8, H⟩ := H;have aV := eq_true c8;have aW := decide_eq_true c8;clear c8;generalize ab : shl .u64 1 (ad) = aK at H;have hji9_ : (IntKind.u64.wrap (1 * 2 ^ min (ad).toNat 64)) = aK := ab;have hji9z : (ad) ≤ 64 → (IntKind.u64.wrap (1 * 2 ^ (ad).toNat)) = aK := shl_small ab
 have hji9u : (IntKind.u64.wrap (2 ^ min (ad).toNat 64)) = aK := by have h_ := hji9_; rw [Int.one_mul] at h_; exact h_
 have hji9v : (ad) ≤ 64 → (IntKind.u64.wrap (2 ^ (ad).toNat)) = aK := fun hle_ => by have h_ := hji9z hle_; rw [Int.one_mul] at h_; exact h_
 have aM := eq_true (od : 0 ≤ (a7));replace H := dn H;obtain ⟨c11, H⟩ := H;have aN := eq_true c11;have aO := decide_eq_true c11;clear c11;have H' := zA H;clear H;go_enter Tryd.func68, Tryd.ntmps68
 try go_wp2
 replace HB := zA (below_drew1 HB.out);have p225 : 0 ≤ ((a7) : Int) := od;have q225 : (a7) < (l0.length : Int) := od;obtain ⟨ad225, e225, ac⟩ := Kd.at_int aD.out (a7) p225 q225;have hw225_0 := ac;cases e225;replace ac := (HB.out.cell (World.block_lt_of_cell? w _ ac)).trans ac;replace p225 := eq_true p225;replace q225 := eq_true q225;refine start_ (n := 10) (S := fun w' => w'.cell? (ad225.add ((a7)).toNat) = some (.int .u64 (rd l0 (a7)))) (ds := []) #[false, false, false, false, false, false, false, false, false, false] (by kernel_rfl) rfl rfl (((HB.out.cell (World.block_lt_of_cell? w _ hw225_0)).trans hw225_0)) (fun hHeld => ?_); refine with_tabW nat_number_shr.tab4 nat_number_shr.bits4 (fun HT_ HW_ => ?_);generalize w.drew = w12 at HB ac hHeld ⊢;refine pure_ (i := 0) (N := some 24) (v := ?_) (a' := ?_) #[true, false, false, false, false, false, false, false, false, false] rfl rfl (any_of HT_.out (by kernel_rfl)) (fun _ _ _ h => h) (Or.inl ⟨by rfl, ?_⟩) ?_ ?_;rotate_left;·intro w';go_simp;with_reducible rfl
 rotate_left;·exact zq
 refine pure_ (i := 1) (N := some 25) (v := ?_) (a' := ?_) #[true, true, false, false, false, false, false, false, false, false] rfl rfl (any_of HT_.out (by kernel_rfl)) (fun _ _ _ h => h) (Or.inl ⟨by rfl, ?_⟩) ?_ ?_;rotate_left;·intro w';go_simp;with_reducible rfl
 rotate_left;·exact zq
 refine pure_ (i := 2) (N := some 26) (v := ?_) (a' := ?_) #[true, true, true, false, false, false, false, false, false, false] rfl rfl (any_of HT_.out (by kernel_rfl)) (fun _ _ _ h => h) (Or.inl ⟨by rfl, ?_⟩) ?_ ?_;rotate_left;·intro w';go_simp;with_reducible rfl
 rotate_left;·exact zq
 refine pure_ (i := 4) (N := some 28) (v := ?_) (a' := ?_) #[true, true, true, false, true, false, false, false, false, false] rfl rfl (any_of HT_.out (by kernel_rfl)) (fun _ _ _ h => h) (Or.inl ⟨by rfl, ?_⟩) ?_ ?_;rotate_left;·intro w';go_simp;with_reducible rfl
 rotate_left;·exact zq
 refine pure_ (i := 5) (N := some 29) (v := ?_) (a' := ?_) #[true, true, true, false, true, true, false, false, false, false] rfl rfl (any_of HT_.out (by kernel_rfl)) (fun _ _ _ h => h) (Or.inl ⟨by rfl, ?_⟩) ?_ ?_;rotate_left;·intro w';go_simp;with_reducible rfl
 rotate_left;·exact zq
 refine pure_ (i := 6) (N := some 30) (v := ?_) (a' := ?_) #[true, true, true, false, true, true, true, false, false, false] rfl rfl (any_of HT_.out (by kernel_rfl)) (fun _ _ _ h => h) (Or.inl ⟨by rfl, ?_⟩) ?_ ?_;rotate_left;·intro w';go_simp;with_reducible rfl
 rotate_left;·exact zq
 refine take_ (i := 3) (N := some 27) (v := ?_) (a' := ?_) #[true, true, true, true, true, true, true, false, false, false] rfl rfl (take_ofW HT_.out HW_.out (by kernel_rfl)) (fun _ _ _ h => h) (Or.inl ⟨by rfl, ?_⟩) hHeld ?_ ?_;rotate_left;·intro w' s0;go_simp;with_reducible rfl
 rotate_left;·exact zq
 refine pure_ (i := 7) (N := some 31) (v := ?_) (a' := ?_) #[true, true, true, true, true, true, true, true, false, false] rfl rfl (any_of HT_.out (by kernel_rfl)) (fun _ _ _ h => h) (Or.inl ⟨by rfl, ?_⟩) ?_ ?_;rotate_left;·intro w';go_simp;with_reducible rfl
 rotate_left;·exact zq
 refine pure_ (i := 8) (N := some 32) (v := ?_) (a' := ?_) #[true, true, true, true, true, true, true, true, true, false] rfl rfl (any_of HT_.out (by kernel_rfl)) (fun _ _ _ h => h) (Or.inl ⟨by rfl, ?_⟩) ?_ ?_;rotate_left;·intro w';go_simp;with_reducible rfl
 rotate_left;·exact zq
 refine pure_ (i := 9) (N := some 8) (v := ?_) (a' := ?_) #[true, true, true, true, true, true, true, true, true, true] rfl rfl (any_of HT_.out (by kernel_rfl)) (fun _ _ _ h => h) (Or.inl ⟨by rfl, ?_⟩) ?_ ?_;rotate_left;·intro w';go_simp;with_reducible rfl
 rotate_left;·exact zq
 refine done_ (done_of HT_.out (by kernel_rfl)) ?_;obtain ⟨i013, hi013, _, hsz13, _⟩ := info_parts info22;obtain ⟨hcut13, hA13, hC13⟩ := print_take_of (P := Tryd.prog) (Value.int .u64) 0 58 22 .i64 Tryd.underlying58 hi013 hsz13 (some ad225) c0 l0 (a7) (od) (od) bg.out;have aP := zA (C_of_reads (h1 := fun _ => rfl) (hA13 _ (Kd.reads_of_C aD.out)));have bi := zA hC13;clear hA13 hC13 hi013 hsz13
 try go_wp2
 go_loopg [8, 37] k (fun kq v8 v37 w' => ∃ (ay : Bool) (a5 : Int), v8 = .bool ay ∧ v37 = .int .i64 a5 ∧ Aside0 (nat_number_shr.l0 kq l0 a7 ad ay (l0.take ((a7) : Int).toNat) (max (a7) 0) a5 = some (r1, r2)) ∧ Aside0 (kq ≤ k) ∧ Aside0 (Below w.heap.size w w'))
 case atStart => exact ⟨(((Go.bits .and .u64 (rd l0 (a7)) (IntKind.u64.wrap ((aK) - 1))) != 0)), (0), (by first | rfl | (simp; done) | (simp only [← a9, ← ab] <;> (first | rfl | simp)) | (simp [*]; done)), zi, H', ⟨Nat.le_refl _⟩, ⟨bq⟩⟩
 case round =>
  clear H'
  try clear c1
  try clear p2
  try clear q2
  try clear c3
  try clear aE
  try clear c5
  try clear aT
  try clear c6
  try clear aU
  try clear c8
  try clear aV
  try clear aW
  try clear aM
  try clear c11
  try clear aN
  try clear aO
  try clear ac
  try clear p225
  try clear q225
  obtain ⟨ay, a5, rfl, rfl, HA, HK1, HB⟩ := hrel
  cases gk with
  | zero => exact absurd HA.out (by simp [nat_number_shr.l0])
  | succ k1 =>
   have H := HA.out;clear HA;simp only [nat_number_shr.l0] at H
   by_cases c14 : a5 < (max (a7) 0)
   ·rw [if_pos c14] at H;have aQ := decide_eq_true c14;have c14bx : (a5 < (max (a7) 0)) = True := eq_true c14;clear c14;replace H := dn H;obtain ⟨c15, H⟩ := H;have aZ := decide_eq_true c15;clear c15;replace H := dn H;obtain ⟨c16, H⟩ := H;have b1 : decide (a5 < ((l0.take ((a7) : Int).toNat).length : Int)) = true := decide_eq_true c16;clear c16
    by_cases c17 : ay = true
    ·subst c17;rw [if_pos rfl] at H;have H' := zA H;clear H;have p227 : 0 ≤ (a5 : Int) := od;have q227 : a5 < ((l0.take ((a7) : Int).toNat).length : Int) := od;obtain ⟨ad227, e227, aa⟩ := Kd.at_int aP.out a5 p227 q227;obtain rfl : ad225 = ad227 := (by injection e227);replace aa := (HB.out.cell (World.block_lt_of_cell? w _ aa)).trans aa;replace p227 := eq_true p227;replace q227 := eq_true q227
     go_wp2
     go_roundg k1
     case measure => have := HK1.out; omega
     case rel => exact ⟨(true), (wrap64 (a5 + 1)), zi, zi, (by first | exact H' | (simp only [a9, ae, ab]; exact H') | (simp only [a9, ae, ab] at H' ⊢; exact H')), ⟨by have := HK1.out; omega⟩, ⟨bq⟩⟩
    replace c17 := Bool.eq_false_iff.mpr c17;subst c17;rw [if_neg (show ¬ (false = true) by decide)] at H;have H' := zA H;clear H;have p227 : 0 ≤ (a5 : Int) := od;have q227 : a5 < ((l0.take ((a7) : Int).toNat).length : Int) := od;obtain ⟨ad227, e227, aa⟩ := Kd.at_int aP.out a5 p227 q227;obtain rfl : ad225 = ad227 := (by injection e227);replace aa := (HB.out.cell (World.block_lt_of_cell? w _ aa)).trans aa;replace p227 := eq_true p227;replace q227 := eq_true q227
    go_wp2
    go_roundg k1
    case measure => have := HK1.out; omega
    case rel => exact ⟨(((rd (l0.take ((a7) : Int).toNat) a5) != 0)), (wrap64 (a5 + 1)), (by first | rfl | (simp; done) | (simp only [← a9] <;> (first | rfl | simp)) | (simp [*]; done)), zi, (by first | exact H' | (simp only [a9, ae, ab]; exact H') | (simp only [a9, ae, ab] at H' ⊢; exact H')), ⟨by have := HK1.out; omega⟩, ⟨bq⟩⟩
   rw [if_neg c14] at H;have aQ := decide_eq_false c14;clear c14;generalize af : wrap64 ((l0.length : Int) - a7) = aF at H;have hji18w : (IntKind.i64.wrap ((l0.length : Int) - a7)) = aF := (i64_w _).trans af;replace H := dn H;obtain ⟨c19, H⟩ := H;have b2 := eq_true c19;have b3 := decide_eq_true c19;clear c19;replace H := dn H;obtain ⟨c20, H⟩ := H;have b4 := eq_true c20;have b5 := decide_eq_true c20;clear c20;obtain ⟨aG, ap⟩ : ∃ y_ : List Int, y_ = (List.replicate (aF : Int).toNat 0) := ⟨_, rfl⟩;(first | replace H := zRb ap H | rw [← ap] at H | skip);have aR := zA ap;clear ap;have H' := zA H;clear H
   go_wp2_with (first | ((with_reducible refine zD 51 rfl ?_); (try (refine gate_guard (by rfl) ?_; dsimp only)); refine R_make (Kd.int .u64) _ 22 rfl (N := 51) rfl 58 _ _ rfl aF rfl rfl Tryd.underlying58 (.int .u64 0) 8 info22 rfl (by decide) (by omega) 0 (ok := fun _ => True) (okp := fun _ => True) rfl (fun _ hk => hk) trivial (od) (Nat.le_trans (Nat.mul_le_mul_right _ (od : aF.toNat ≤ 35184372088832)) (by omega)) (Below.refl _ _) (Nat.le_refl _) ?_; intro v229 w21 aA hb hg_ hnew_; clear hg_ hnew_; (first | rw [← aR.out] at aA | (simp only [Int.reduceToNat] at aA; rw [← aR.out] at aA)); have aS := zA (R_lower (R_newM (M := fun k_ => (w.heap.size ≤ k_)) aA (below_size bq) (fun k_ h_ => h_)) (below_size bq)); replace HB := ze hb; clear hb aA; obtain ⟨aX, aB, bd⟩ := R_slice aS.out; subst bd))
   go_loopg [54] k1 (fun kq v54 w' => ∃ (a6 : List Int) (a2 : Int), v54 = .int .i64 a2 ∧ Aside0 (nat_number_shr.l1 kq l0 a7 ad ay a6 (aG.length : Int) a2 = some (r1, r2)) ∧ Aside0 (kq ≤ k1) ∧ Aside0 (Kd.R (Kd.int .u64) 22 w' w.heap.size (fun k_ => (w.heap.size ≤ k_)) (.slice aX aG.length aB) a6) ∧ Aside0 (Below w.heap.size w w'))
   case atStart => exact ⟨(aG), (0), zi, H', ⟨Nat.le_refl _⟩, ⟨ru (R_mono aS.out (fun _ hk => hk.1))⟩, ⟨bq⟩⟩
   case round =>
    clear H'
    try clear c1
    try clear p2
    try clear q2
    try clear c3
    try clear aE
    try clear c5
    try clear aT
    try clear c6
    try clear aU
    try clear c8
    try clear aV
    try clear aW
    try clear aM
    try clear c11
    try clear aN
    try clear aO
    try clear c14
    try clear aQ
    try clear c15
    try clear aZ
    try clear c16
    try clear b1
    try clear c17
    try clear c19
    try clear b2
    try clear b3
    try clear c20
    try clear b4
    try clear b5
    try clear ac
    try clear aa
    try clear p2
    try clear p225
    try clear p227
    try clear q2
    try clear q225
    try clear q227
    obtain ⟨a6, a2, rfl, HA, HK2, a3, HB⟩ := hrel;have hl11_2 := (R_reads' a3.out).1;rw [hl11_2] at a3;(try simp only [hl11_2])
    cases gk with
    | zero => exact absurd HA.out (by simp [nat_number_shr.l1])
    | succ k2 =>
     have H := HA.out;clear HA;simp only [nat_number_shr.l1] at H
     by_cases c24 : a2 < (aG.length : Int)
     ·rw [if_pos c24] at H;have aH := decide_eq_true c24;(try rw [hl11_2] at aH);clear c24;generalize ak : wrap64 (a2 + a7) = a8 at H;have hji25w : (IntKind.i64.wrap (a2 + a7)) = a8 := (i64_w _).trans ak;replace H := dn H;obtain ⟨c26, H⟩ := H;have bj := decide_eq_true c26;clear c26;replace H := dn H;obtain ⟨c27, H⟩ := H;have b6 := decide_eq_true c27;(try rw [hl11_2] at b6);clear c27;replace H := dn H;obtain ⟨c28, H⟩ := H;have bk := eq_true c28;have bl := decide_eq_true c28;clear c28;generalize ag : shr .u64 (rd l0 (a8)) ad = al at H;have hji29_ : ((rd l0 (a8)) / 2 ^ min ad.toNat 64) = al := ag;have hji29z : ad ≤ 64 → ((rd l0 (a8)) / 2 ^ ad.toNat) = al := shr_small ag;replace H := dn H;obtain ⟨c30, H⟩ := H;have bm := decide_eq_true c30;clear c30;replace H := dn H;obtain ⟨c31, H⟩ := H;have b7 := decide_eq_true c31;(try rw [hl11_2] at b7);clear c31;obtain ⟨ah, aq⟩ : ∃ y_ : List Int, y_ = (a6.set (a2 : Int).toNat (al)) := ⟨_, rfl⟩;(first | replace H := zRb aq H | rw [← aq] at H | skip);have ar := zA aq;clear aq
      by_cases c33 : ad > 0
      ·rw [if_pos c33] at H;have b8 := decide_eq_true c33;clear c33
       by_cases c34 : (wrap64 ((a8) + 1)) < (l0.length : Int)
       ·rw [if_pos c34] at H;have au := decide_eq_true c34;(try rw [hl11_2] at au);clear c34;generalize av : wrap64 ((a8) + 1) = am at H;(try rw [av] at au);have hji35w : (IntKind.i64.wrap ((a8) + 1)) = am := (i64_w _).trans av;replace H := dn H;obtain ⟨c36, H⟩ := H;have bn := decide_eq_true c36;clear c36;generalize aI : wrap64 (64 - ad) = aC at H;have hji37w : (IntKind.i64.wrap (64 - ad)) = aC := (i64_w _).trans aI;replace H := dn H;obtain ⟨c38, H⟩ := H;have bo := eq_true c38;have bp := decide_eq_true c38;clear c38;generalize aw : shl .u64 (rd l0 (am)) (aC) = aJ at H;have hji39_ : (IntKind.u64.wrap ((rd l0 (am)) * 2 ^ min (aC).toNat 64)) = aJ := aw;have hji39z : (aC) ≤ 64 → (IntKind.u64.wrap ((rd l0 (am)) * 2 ^ (aC).toNat)) = aJ := shl_small aw;obtain ⟨be, ax⟩ : ∃ y_ : List Int, y_ = (ah.set (a2 : Int).toNat (Go.bits .or .u64 (rd ah a2) (aJ))) := ⟨_, rfl⟩;(first | replace H := zRb ax H | rw [← ax] at H | skip);have b9 := zA ax;clear ax;have H' := zA H;clear H;have p231 : 0 ≤ ((a8) : Int) := od;have q231 : (a8) < (l0.length : Int) := od;obtain ⟨ad231, e231, a4⟩ := Kd.at_int aD.out (a8) p231 q231;obtain rfl : ad225 = ad231 := (by injection e231);replace a4 := (HB.out.cell (World.block_lt_of_cell? w _ a4)).trans a4;replace p231 := eq_true p231;replace q231 := eq_true q231;have p32 : 0 ≤ (a2 : Int) := od;have q32 : (a2 : Int) < ((a6.length : Int) : Int) := od;obtain ⟨go32, aY, an, ao, gl32, cl32, HG32⟩ := R_form a3.out (by omega)
        (first | cases an | (injection an with ea_ en_ ec_; (first | subst ea_ | (injection ea_ with ea_; subst ea_)); subst ec_; clear en_))
        have GB32 := zA ao;have GG32 := zA HG32;clear ao gl32 HG32;obtain ⟨aL, hf32_0⟩ := R_celln 0 a3.out (a2 : Int) p32 q32;replace p32 := eq_true p32;replace q32 := eq_true q32;have HP41 := R_putg a3.out (a2 : Int) al
        try go_wp2_with (first | ((with_reducible refine gate_store (t := 22) (p := 67) rfl ?_); refine store_event (t := 22) (p := 67) (v := ?vo_w42) (w1 := (wr.setCell ⟨go32, (a2 : Int).toNat, none⟩ (.int .u64 al))) ?hg ?ho ?hn ?hr ?_; (case ho => rfl); (case hg => rfl); (case hn => rfl); (case hr => first | (go_simp; done) | (go_simp; rfl)); intro w42 hw; have hg : wr.grownBy w42 (some go32) := (by rw [hw]; exact HP41.2); have hp_ : Kd.R (Kd.int .u64) 22 w42 w.heap.size (fun k_ => (w.heap.size ≤ k_)) (.slice (some ⟨go32, 0, none⟩) a6.length aB) ah := (by rw [hw, ar.out]; exact HP41.1); clear HP41; replace a3 := zA (hp_); replace HB := zA ((by rw [hw]; exact below_set (HB.out) GB32.out : Below w.heap.size w w42)); clear hg hw hp_))
        replace a3 := zA (R_drew a3.out);replace HB := zA (below_drew1 HB.out);have p233 : 0 ≤ (a2 : Int) := od;have q233 : a2 < (ah.length : Int) := (by have h_ : (a2 : Int) < ((a6.length : Int) : Int) := od; first | (have e_ := (R_reads' a3.out).1; omega) | simpa only [ar.out, List.length_set] using h_);have ql233 : ((a2 : Int) < ((a6.length : Int) : Int)) = True := eq_true (od);obtain ⟨ad233, e233, ai⟩ := Kd.at_int (R_reads' a3.out).2.2 a2 p233 q233;obtain rfl : (⟨go32, 0, none⟩ : Addr) = ad233 := (by injection e233)
        (first | simp only [add_plain] at ai | simp only [add_at] at ai | simp only [Addr.add, Nat.zero_add] at ai | skip)
        replace p233 := eq_true p233;replace q233 := eq_true q233;have p234 : 0 ≤ ((am) : Int) := od;have q234 : (am) < (l0.length : Int) := od;obtain ⟨ad234, e234, aj⟩ := Kd.at_int aD.out (am) p234 q234;have hw234_0 := aj;obtain rfl : ad225 = ad234 := (by injection e234);replace aj := (HB.out.cell (World.block_lt_of_cell? w _ aj)).trans aj;replace p234 := eq_true p234;replace q234 := eq_true q234;have p40 : 0 ≤ (a2 : Int) := od;have q40 : (a2 : Int) < ((a6.length : Int) : Int) := od;obtain ⟨az, hf40_0⟩ := R_celln 0 a3.out (a2 : Int) p40 q40;replace p40 := eq_true p40;replace q40 := eq_true q40;have HP44 := R_putn a3.out (a2 : Int) (Go.bits .or .u64 (rd ah a2) (aJ));rw [← b9.out] at HP44;have HQ44 := zA HP44;clear HP44;refine start_ (n := 17) (S := fun w' => w'.cell? ⟨go32, (a2).toNat, none⟩ = some (.int .u64 (rd ah a2)) ∧ w'.cell? (ad225.add ((am)).toNat) = some (.int .u64 (rd l0 (am)))) (ds := [16]) #[false, false, false, false, false, false, false, false, false, false, false, false, false, false, false, false, false] (by kernel_rfl) rfl rfl ⟨ai, ((HB.out.cell (World.block_lt_of_cell? w _ hw234_0)).trans hw234_0)⟩ (fun hHeld => ?_); refine with_tabW nat_number_shr.tab16 nat_number_shr.bits16 (fun HT_ HW_ => ?_);generalize w42.drew = w43 at a3 HB HQ44 hf40_0 ai aj az hHeld ⊢;refine pure_ (i := 0) (N := some 79) (v := ?_) (a' := ?_) #[true, false, false, false, false, false, false, false, false, false, false, false, false, false, false, false, false] rfl rfl (any_of HT_.out (by kernel_rfl)) (fun _ _ _ h => h) (Or.inl ⟨by rfl, ?_⟩) ?_ ?_;rotate_left;·intro w';go_simp;with_reducible rfl
        rotate_left;·exact zq
        refine pure_ (i := 1) (N := some 80) (v := ?_) (a' := ?_) #[true, true, false, false, false, false, false, false, false, false, false, false, false, false, false, false, false] rfl rfl (any_of HT_.out (by kernel_rfl)) (fun _ _ _ h => h) (Or.inl ⟨by rfl, ?_⟩) ?_ ?_;rotate_left;·intro w';go_simp;with_reducible rfl
        rotate_left;·exact zq
        refine pure_ (i := 2) (N := some 81) (v := ?_) (a' := ?_) #[true, true, true, false, false, false, false, false, false, false, false, false, false, false, false, false, false] rfl rfl (any_of HT_.out (by kernel_rfl)) (fun _ _ _ h => h) (Or.inl ⟨by rfl, ?_⟩) ?_ ?_;rotate_left;·intro w';go_simp;with_reducible rfl
        rotate_left;·exact zq
        refine pure_ (i := 4) (N := some 83) (v := ?_) (a' := ?_) #[true, true, true, false, true, false, false, false, false, false, false, false, false, false, false, false, false] rfl rfl (any_of HT_.out (by kernel_rfl)) (fun _ _ _ h => h) (Or.inl ⟨by rfl, ?_⟩) ?_ ?_;rotate_left;·intro w';go_simp;with_reducible rfl
        rotate_left;·exact zq
        refine pure_ (i := 5) (N := some 84) (v := ?_) (a' := ?_) #[true, true, true, false, true, true, false, false, false, false, false, false, false, false, false, false, false] rfl rfl (any_of HT_.out (by kernel_rfl)) (fun _ _ _ h => h) (Or.inl ⟨by rfl, ?_⟩) ?_ ?_;rotate_left;·intro w';go_simp;with_reducible rfl
        rotate_left;·exact zq
        refine pure_ (i := 6) (N := some 85) (v := ?_) (a' := ?_) #[true, true, true, false, true, true, true, false, false, false, false, false, false, false, false, false, false] rfl rfl (any_of HT_.out (by kernel_rfl)) (fun _ _ _ h => h) (Or.inl ⟨by rfl, ?_⟩) ?_ ?_;rotate_left;·intro w';go_simp;with_reducible rfl
        rotate_left;·exact zq
        refine pure_ (i := 7) (N := some 86) (v := ?_) (a' := ?_) #[true, true, true, false, true, true, true, true, false, false, false, false, false, false, false, false, false] rfl rfl (any_of HT_.out (by kernel_rfl)) (fun _ _ _ h => h) (Or.inl ⟨by rfl, ?_⟩) ?_ ?_;rotate_left;·intro w';go_simp;with_reducible rfl
        rotate_left;·exact zq
        refine pure_ (i := 8) (N := some 87) (v := ?_) (a' := ?_) #[true, true, true, false, true, true, true, true, true, false, false, false, false, false, false, false, false] rfl rfl (any_of HT_.out (by kernel_rfl)) (fun _ _ _ h => h) (Or.inl ⟨by rfl, ?_⟩) ?_ ?_;rotate_left;·intro w';go_simp;with_reducible rfl
        rotate_left;·exact zq
        refine pure_ (i := 9) (N := some 88) (v := ?_) (a' := ?_) #[true, true, true, false, true, true, true, true, true, true, false, false, false, false, false, false, false] rfl rfl (any_of HT_.out (by kernel_rfl)) (fun _ _ _ h => h) (Or.inl ⟨by rfl, ?_⟩) ?_ ?_;rotate_left;·intro w';go_simp;with_reducible rfl
        rotate_left;·exact zq
        refine pure_ (i := 11) (N := some 90) (v := ?_) (a' := ?_) #[true, true, true, false, true, true, true, true, true, true, false, true, false, false, false, false, false] rfl rfl (any_of HT_.out (by kernel_rfl)) (fun _ _ _ h => h) (Or.inl ⟨by rfl, ?_⟩) ?_ ?_;rotate_left;·intro w';go_simp;with_reducible rfl
        rotate_left;·exact zq
        refine pure_ (i := 12) (N := some 91) (v := ?_) (a' := ?_) #[true, true, true, false, true, true, true, true, true, true, false, true, true, false, false, false, false] rfl rfl (any_of HT_.out (by kernel_rfl)) (fun _ _ _ h => h) (Or.inl ⟨by rfl, ?_⟩) ?_ ?_;rotate_left;·intro w';go_simp;with_reducible rfl
        rotate_left;·exact zq
        refine take_ (i := 3) (N := some 82) (v := ?_) (a' := ?_) #[true, true, true, true, true, true, true, true, true, true, false, true, true, false, false, false, false] rfl rfl (take_ofW HT_.out HW_.out (by kernel_rfl)) (fun _ _ _ h => h) (Or.inl ⟨by rfl, ?_⟩) hHeld ?_ ?_;rotate_left;·rintro w' ⟨s0, s1⟩;go_simp;with_reducible rfl
        rotate_left;·exact zq
        refine take_ (i := 10) (N := some 89) (v := ?_) (a' := ?_) #[true, true, true, true, true, true, true, true, true, true, true, true, true, false, false, false, false] rfl rfl (take_ofW HT_.out HW_.out (by kernel_rfl)) (fun _ _ _ h => h) (Or.inl ⟨by rfl, ?_⟩) hHeld ?_ ?_;rotate_left;·rintro w' ⟨s0, s1⟩;go_simp;with_reducible rfl
        rotate_left;·exact zq
        refine pure_ (i := 13) (N := some 92) (v := ?_) (a' := ?_) #[true, true, true, true, true, true, true, true, true, true, true, true, true, true, false, false, false] rfl rfl (any_of HT_.out (by kernel_rfl)) (fun _ _ _ h => h) (Or.inl ⟨by rfl, ?_⟩) ?_ ?_;rotate_left;·intro w';go_simp;with_reducible rfl
        rotate_left;·exact zq
        refine pure_ (i := 14) (N := some 93) (v := ?_) (a' := ?_) #[true, true, true, true, true, true, true, true, true, true, true, true, true, true, true, false, false] rfl rfl (any_of HT_.out (by kernel_rfl)) (fun _ _ _ h => h) (Or.inl ⟨by rfl, ?_⟩) ?_ ?_;rotate_left;·intro w';go_simp;with_reducible rfl
        rotate_left;·exact zq
        refine pure_ (i := 15) (N := some 94) (v := ?_) (a' := ?_) #[true, true, true, true, true, true, true, true, true, true, true, true, true, true, true, true, false] rfl rfl (any_of HT_.out (by kernel_rfl)) (fun _ _ _ h => h) (Or.inl ⟨by rfl, ?_⟩) ?_ ?_;rotate_left;·intro w';go_simp;with_reducible rfl
        rotate_left;·exact zq
        refine last_ (i := 16) (N := none) #[true, true, true, true, true, true, true, true, true, true, true, true, true, true, true, true, true] rfl rfl (one_of HT_.out (by kernel_rfl)) (by decide) (fun K hK => ?_);refine skip_ (w1 := ?_) (by rfl) rfl ?_ ?_;rotate_left;·go_simp;rfl
        refine hK.out _ _ ?_;clear hK K;refine done_ (done_of HT_.out (by kernel_rfl)) ?_
        try go_wp2
        (try simp only [← hl11_2])
        go_roundg k2
        case measure => have := HK1.out; have := HK2.out; omega
        case rel => exact ⟨(be), (wrap64 (a2 + 1)), zi, (by first | exact H' | (simp only [a9, ae, ab, af, ak, ag, av, aI, aw]; exact H') | (simp only [a9, ae, ab, af, ak, ag, av, aI, aw] at H' ⊢; exact H')), ⟨by have := HK1.out; have := HK2.out; omega⟩, ⟨by (try simp only [hl11_2]); (with_reducible repeat (first | apply R_alloc | apply R_drewN | apply R_drew)); exact HQ44.out⟩, ⟨by repeat (first | (with_reducible first | exact HB.out | apply below_alloc | apply pw_below_drewN | apply below_drew1 | refine below_set ?_ GB32.out) | exact HB.out)⟩⟩
       rw [if_neg c34] at H;have au := decide_eq_false c34;(try rw [hl11_2] at au);clear c34;have H' := zA H;clear H;have p231 : 0 ≤ ((a8) : Int) := od;have q231 : (a8) < (l0.length : Int) := od;obtain ⟨ad231, e231, a4⟩ := Kd.at_int aD.out (a8) p231 q231;obtain rfl : ad225 = ad231 := (by injection e231);replace a4 := (HB.out.cell (World.block_lt_of_cell? w _ a4)).trans a4;replace p231 := eq_true p231;replace q231 := eq_true q231;have p32 : 0 ≤ (a2 : Int) := od;have q32 : (a2 : Int) < ((a6.length : Int) : Int) := od;obtain ⟨go32, aY, an, ao, gl32, cl32, HG32⟩ := R_form a3.out (by omega)
       (first | cases an | (injection an with ea_ en_ ec_; (first | subst ea_ | (injection ea_ with ea_; subst ea_)); subst ec_; clear en_))
       have GB32 := zA ao;have GG32 := zA HG32;clear ao gl32 HG32;obtain ⟨aL, hf32_0⟩ := R_celln 0 a3.out (a2 : Int) p32 q32;replace p32 := eq_true p32;replace q32 := eq_true q32;have HP45 := R_putg a3.out (a2 : Int) al
       go_wp2_with (first | ((with_reducible refine gate_store (t := 22) (p := 67) rfl ?_); refine store_event (t := 22) (p := 67) (v := ?vo_w46) (w1 := (wr.setCell ⟨go32, (a2 : Int).toNat, none⟩ (.int .u64 al))) ?hg ?ho ?hn ?hr ?_; (case ho => rfl); (case hg => rfl); (case hn => rfl); (case hr => first | (go_simp; done) | (go_simp; rfl)); intro w46 hw; have hg : wr.grownBy w46 (some go32) := (by rw [hw]; exact HP45.2); have hp_ : Kd.R (Kd.int .u64) 22 w46 w.heap.size (fun k_ => (w.heap.size ≤ k_)) (.slice (some ⟨go32, 0, none⟩) a6.length aB) ah := (by rw [hw, ar.out]; exact HP45.1); clear HP45; replace a3 := zA (hp_); replace HB := zA ((by rw [hw]; exact below_set (HB.out) GB32.out : Below w.heap.size w w46)); clear hg hw hp_))
       (try simp only [← hl11_2])
       go_roundg k2
       case measure => have := HK1.out; have := HK2.out; omega
       case rel => exact ⟨(ah), (wrap64 (a2 + 1)), zi, (by first | exact H' | (simp only [a9, ae, ab, af, ak, ag]; exact H') | (simp only [a9, ae, ab, af, ak, ag] at H' ⊢; exact H')), ⟨by have := HK1.out; have := HK2.out; omega⟩, ⟨by (try simp only [hl11_2]); (with_reducible repeat (first | apply R_alloc | apply R_drewN | apply R_drew)); exact a3.out⟩, ⟨bq⟩⟩
      rw [if_neg c33] at H;have b8 := decide_eq_false c33;clear c33;have H' := zA H;clear H;have p231 : 0 ≤ ((a8) : Int) := od;have q231 : (a8) < (l0.length : Int) := od;obtain ⟨ad231, e231, a4⟩ := Kd.at_int aD.out (a8) p231 q231;obtain rfl : ad225 = ad231 := (by injection e231);replace a4 := (HB.out.cell (World.block_lt_of_cell? w _ a4)).trans a4;replace p231 := eq_true p231;replace q231 := eq_true q231;have p32 : 0 ≤ (a2 : Int) := od;have q32 : (a2 : Int) < ((a6.length : Int) : Int) := od;obtain ⟨go32, aY, an, ao, gl32, cl32, HG32⟩ := R_form a3.out (by omega)
      (first | cases an | (injection an with ea_ en_ ec_; (first | subst ea_ | (injection ea_ with ea_; subst ea_)); subst ec_; clear en_))
      have GB32 := zA ao;have GG32 := zA HG32;clear ao gl32 HG32;obtain ⟨aL, hf32_0⟩ := R_celln 0 a3.out (a2 : Int) p32 q32;replace p32 := eq_true p32;replace q32 := eq_true q32;have HP47 := R_putg a3.out (a2 : Int) al
      go_wp2_with (first | ((with_reducible refine gate_store (t := 22) (p := 67) rfl ?_); refine store_event (t := 22) (p := 67) (v := ?vo_w48) (w1 := (wr.setCell ⟨go32, (a2 : Int).toNat, none⟩ (.int .u64 al))) ?hg ?ho ?hn ?hr ?_; (case ho => rfl); (case hg => rfl); (case hn => rfl); (case hr => first | (go_simp; done) | (go_simp; rfl)); intro w48 hw; have hg : wr.grownBy w48 (some go32) := (by rw [hw]; exact HP47.2); have hp_ : Kd.R (Kd.int .u64) 22 w48 w.heap.size (fun k_ => (w.heap.size ≤ k_)) (.slice (some ⟨go32, 0, none⟩) a6.length aB) ah := (by rw [hw, ar.out]; exact HP47.1); clear HP47; replace a3 := zA (hp_); replace HB := zA ((by rw [hw]; exact below_set (HB.out) GB32.out : Below w.heap.size w w48)); clear hg hw hp_))
      (try simp only [← hl11_2])
      go_roundg k2
      case measure => have := HK1.out; have := HK2.out; omega
      case rel => exact ⟨(ah), (wrap64 (a2 + 1)), zi, (by first | exact H' | (simp only [a9, ae, ab, af, ak, ag]; exact H') | (simp only [a9, ae, ab, af, ak, ag] at H' ⊢; exact H')), ⟨by have := HK1.out; have := HK2.out; omega⟩, ⟨by (try simp only [hl11_2]); (with_reducible repeat (first | apply R_alloc | apply R_drewN | apply R_drew)); exact a3.out⟩, ⟨bq⟩⟩
     rw [if_neg c24] at H;have aH := decide_eq_false c24;(try rw [hl11_2] at aH);clear c24;obtain ⟨bf, bh, H⟩ := zh H;simp only [Option.some.injEq, Prod.mk.injEq] at H;obtain ⟨rfl, rfl⟩ := H
     go_wp2_with (first | ((with_reducible refine zG 38 rfl ?_); refine zC (some 97) Tryd.func38 (nat_norm.calls k2 (fun k_ => some k_ = (.slice aX a6.length aB : Value).ownBlock) _ _ a6 bf _ ?ba bh.out) ?_; (case ba => exact R_V (R_tight rfl (a3.out))); rintro e w50 ⟨v237, rfl, bc, hb⟩; refine ⟨_, rfl, ?_⟩; have bb := zA (V_lower (V_mono (ok' := fun k_ => (w.heap.size ≤ k_)) bc (fun k_ hk_ => Or.elim hk_ (fun hs_ => ((a3.out).1 k_ hs_.symm)) (fun hn_ => (Nat.le_trans (below_size bq) hn_)))) (below_size bq)); replace a3 := zA (R_below (ru a3.out) hb); replace HB := ze hb; (try clear bc)))
     go_ret2
     exact ⟨_, by first | rfl | (simp [errW_none, errW_some] <;> rfl) | (simp only [← a9, ← ae, ← ab, ← af]; first | rfl | (simp [errW_none, errW_some] <;> rfl)) | (simp [*, errW_none, errW_some] <;> rfl), vu bb.out, bq⟩
theorem view_rd {A xs B : List Int} {off : Nat} (hA : A.length = off) (i : Int) (h0 : 0 ≤ i) (h1 : i < xs.length) : rd (A ++ xs ++ B) ((off : Int) + i) = rd xs i := by
 have e : ((off : Int) + i).toNat = off + i.toNat := by omega
 unfold rd
 rw [e, List.append_assoc, ← hA];simp only [List.getD_eq_getElem?_getD];rw [List.getElem?_append_right (by omega), Nat.add_sub_cancel_left, List.getElem?_append_left (by omega)]
theorem view_cell {k : IntKind} {e : TypeId} {w : World} {base : Nat} {ok : Nat → Prop} {g N C off : Nat} {A xs B : List Int} (h : Kd.R (Kd.int k) e w base ok (.slice (some ⟨g, 0, none⟩) N C) (A ++ xs ++ B)) (hA : A.length = off) (i : Int) (h0 : 0 ≤ i) (h1 : i < xs.length) :
  w.cell? ⟨g, off + i.toNat, none⟩ = some (.int k (rd xs i)) ∧ w.frozen? ⟨g, off + i.toNat, none⟩ = false := by
 have hN := (R_reads' h).1
 have hl : (A ++ xs ++ B).length = off + xs.length + B.length := by simp [hA]; omega
 have q := R_celln 0 h ((off : Int) + i) (by omega) (by omega)
 have e : ((off : Int) + i).toNat = off + i.toNat := by omega
 rw [e] at q;have r := view_rd (B := B) hA i h0 h1;refine ⟨?_, q.2⟩;exact q.1.trans (congrArg (fun z => some (Value.int k z)) r)
theorem view_put {k : IntKind} {e : TypeId} {w : World} {base : Nat} {ok : Nat → Prop} {g N C off : Nat} {A xs B : List Int} (h : Kd.R (Kd.int k) e w base ok (.slice (some ⟨g, 0, none⟩) N C) (A ++ xs ++ B)) (hA : A.length = off) (i : Int) (h0 : 0 ≤ i) (h1 : i < xs.length) (x : Int) :
  Kd.R (Kd.int k) e (w.setCell ⟨g, off + i.toNat, none⟩ (.int k x)) base ok (.slice (some ⟨g, 0, none⟩) N C) (A ++ xs.set i.toNat x ++ B) ∧ w.grownBy (w.setCell ⟨g, off + i.toNat, none⟩ (.int k x)) (some g) := by
 have q := R_putg h ((off : Int) + i) x
 have e : ((off : Int) + i).toNat = off + i.toNat := by omega
 rw [e] at q
 have r : (A ++ xs ++ B).set (off + i.toNat) x = A ++ xs.set i.toNat x ++ B := by
  rw [List.append_assoc, ← hA, List.set_append_right _ _ (by omega), Nat.add_sub_cancel_left, List.set_append_left _ _ (by omega), List.append_assoc]
 rw [r] at q;exact q
set_option maxHeartbeats 8000000 in
set_option maxRecDepth 100000 in
theorem nat_number_back.callsAt (w0 : World) (k : Nat) (P0_ : Nat → Prop) (g_ N_ C_ off_ m_ cw_ : Nat) (A_ B_ : List Int) (hA_ : A_.length = off_) (hcw_ : m_ ≤ cw_) (hg_ : w0.heap.size ≤ g_) (l0 : List Int) (A1 : Option Addr) (c1 : Nat) (l1 : List Int) (r : List Int) (w : World) (hB : Below w0.heap.size w0 w) (aj : Kd.R (Kd.int .u64) 22 w w0.heap.size P0_ (.slice (some ⟨g_, 0, none⟩) N_ C_) (A_ ++ l0 ++ B_)) (hl0 : l0.length = m_) (hr1 : ∀ W_, Kept w W_ (fun k_ => P0_ k_) → Kd.C (Kd.int .u64) W_ A1 l1.length l1) (hc1 : l1.length ≤ c1) (h : nat_number_back.f k l0 l1 = some r) :
  Calls Tryd.prog 67 #[.slice (some ⟨g_, off_, none⟩) m_ cw_, .slice A1 l1.length c1] w fun e w' => e = .returned (.tuple #[]) ∧ (Kd.R (Kd.int .u64) 22 w' w0.heap.size (fun k_ => (P0_ k_ ∨ w.heap.size ≤ k_)) (.slice (some ⟨g_, 0, none⟩) N_ C_) (A_ ++ r ++ B_) ∧ r.length = m_) ∧ Below w0.heap.size w0 w' ∧ Kept w w' (fun k_ => P0_ k_) := by
 have ak := zA (show Kd.R (Kd.int .u64) 22 w w0.heap.size (fun k_ => (P0_ k_ ∨ w.heap.size ≤ k_)) (.slice (some ⟨g_, 0, none⟩) N_ C_) (A_ ++ l0 ++ B_) from R_mono aj (fun k_ hk => (.inl hk)));have al := zA hr1;have av := zA hc1;clear hr1 hc1;have HK := zA (Kept.refl w (fun k_ => P0_ k_));have HW0 := zA hB.size;have HB := zA hB;clear hB;have H : (nat_number_back.l0 k l0 l1 0 l1 (l1.length : Int) 0) = some r := h;clear h;have H' := zA H;clear H;go_enter Tryd.func67, Tryd.ntmps67
 go_wp2
 go_loopg [4, 9] k (fun kq v4 v9 w' => ∃ (a2 : List Int) (a4 : Int) (a1 : Int), v4 = .int .u64 a4 ∧ v9 = .int .i64 a1 ∧ Aside0 (nat_number_back.l0 kq a2 l1 a4 l1 (l1.length : Int) a1 = some r) ∧ Aside0 (kq ≤ k) ∧ Aside0 (Kd.R (Kd.int .u64) 22 w' w0.heap.size (fun k_ => (P0_ k_ ∨ w.heap.size ≤ k_)) (.slice (some ⟨g_, 0, none⟩) N_ C_) (A_ ++ a2 ++ B_)) ∧ Aside0 (a2.length = m_) ∧ Aside0 (Kept w w' (fun k_ => P0_ k_)) ∧ Aside0 (Below w0.heap.size w0 w'))
 case atStart => exact ⟨(l0), (0), (0), zi, zi, H', ⟨Nat.le_refl _⟩, ⟨ru ak.out⟩, ⟨hl0⟩, ⟨by repeat (first | (with_reducible first | exact HK.out | apply Kept.alloc | apply Kept.drewN | apply Kept.drew) | exact HK.out)⟩, ⟨bq⟩⟩
 case round =>
  clear H'
  try clear c1
  try clear p2
  obtain ⟨a2, a4, a1, rfl, rfl, HA, HK1, a3, HL_, HK, HB⟩ := hrel
  cases gk with
  | zero => exact absurd HA.out (by simp [nat_number_back.l0])
  | succ k1 =>
   have H := HA.out;clear HA;simp only [nat_number_back.l0] at H
   by_cases c3 : a1 < (l1.length : Int)
   ·rw [if_pos c3] at H;have af := decide_eq_true c3;clear c3;replace H := dn H;obtain ⟨c4, H⟩ := H;have ap := decide_eq_true c4;clear c4;replace H := dn H;obtain ⟨c5, H⟩ := H;have aq := decide_eq_true c5;clear c5;replace H := dn H;obtain ⟨c6, H⟩ := H;have ag := decide_eq_true c6
    have c6m0 : decide (a1 < (m_ : Int)) = true := by rw [← HL_.out]; exact ag
    have c6mq := eq_true (show a1 < (m_ : Int) from of_decide_eq_true c6m0);clear c6;replace H := dn H;obtain ⟨c7, H⟩ := H;have ar := eq_true c7;have au := decide_eq_true c7;clear c7;obtain ⟨a7, a5⟩ : ∃ y_ : List Int, y_ = (a2.set (a1 : Int).toNat (add64s (rd a2 a1) (rd l1 a1) a4)) := ⟨_, rfl⟩;(first | replace H := zRb a5 H | rw [← a5] at H | skip);have a9 := zA a5;clear a5;have H' := zA H;clear H;have p220 : 0 ≤ (a1 : Int) := od;have q220 : a1 < (l1.length : Int) := od;obtain ⟨ad220, e220, ah⟩ := Kd.at_int (C_kept_now al.out HK.out) a1 p220 q220;cases e220;replace p220 := eq_true p220;replace q220 := eq_true q220;have p221 : 0 ≤ (a1 : Int) := od;have q221 : a1 < (a2.length : Int) := od;have ai := (view_cell a3.out hA_ a1 p221 q221).1;replace p221 := eq_true p221;replace q221 := eq_true q221;have p8 : 0 ≤ (a1 : Int) := od;have q8 : (a1 : Int) < ((a2.length : Int) : Int) := od;obtain ⟨am, hf8_0⟩ := view_cell a3.out hA_ (a1 : Int) p8 q8;replace p8 := eq_true p8;replace q8 := eq_true q8;have HP10 := view_put a3.out hA_ (a1 : Int) (by first | exact of_eq_true (by assumption) | omega) (by first | exact of_eq_true (by assumption) | omega) (add64s (rd a2 a1) (rd l1 a1) a4)
    go_wp2_with (first | ((with_reducible refine gate_store (t := 22) (p := 26) rfl ?_); refine store_event (t := 22) (p := 26) (v := ?vo_w11) (w1 := (wr.setCell ⟨g_, off_ + (a1 : Int).toNat, none⟩ (.int .u64 (add64s (rd a2 a1) (rd l1 a1) a4)))) ?hg ?ho ?hn ?hr ?_; (case ho => rfl); (case hg => rfl); (case hn => rfl); (case hr => first | (go_simp; done) | (go_simp; rfl)); intro w11 hw; have hg : wr.grownBy w11 (some g_) := (by rw [hw]; exact HP10.2); have hp_ : Kd.R (Kd.int .u64) 22 w11 w0.heap.size (fun k_ => (P0_ k_ ∨ w.heap.size ≤ k_)) (.slice (some ⟨g_, 0, none⟩) N_ C_) (A_ ++ a7 ++ B_) := (by rw [hw, a9.out]; exact HP10.1); clear HP10; have n0_ := zA (hp_); have n1_ := zA ((by rw [hw]; exact below_set (HB.out) hg_ : Below w0.heap.size w0 w11)); have n2_ := zA (Kept.of_grown (S := (fun k_ => P0_ k_)) hg (by repeat (first | (with_reducible first | exact HK.out | apply Kept.alloc | apply Kept.drewN | apply Kept.drew) | exact HK.out)) (fun k_ e_ => (a3.out.1 k_ e_))); have n9_ : Aside0 (a7.length = m_) := ⟨by first | (rw [a9.out, List.length_set]; exact HL_.out)⟩; clear HL_; clear a3; clear HB; clear HK; have HL_ := n9_; have a3 := n0_; have HB := n1_; have HK := n2_; clear n0_ n1_ n2_ n9_; clear hg hw hp_))
    go_roundg k1
    case measure => have := HK1.out; omega
    case rel => exact ⟨(a7), (add64c (rd a2 a1) (rd l1 a1) a4), (wrap64 (a1 + 1)), zi, zi, H', ⟨by have := HK1.out; omega⟩, ⟨ru a3.out⟩, HL_, ⟨by repeat (first | (with_reducible first | exact HK.out | apply Kept.alloc | apply Kept.drewN | apply Kept.drew) | exact HK.out)⟩, ⟨bq⟩⟩
   rw [if_neg c3] at H;have af := decide_eq_false c3;clear c3;replace H := dn H;obtain ⟨c12, H⟩ := H;have an := decide_eq_true c12;have ao : decide (0 ≤ l1.length) = true := decide_eq_true (by omega);clear c12;replace H := dn H;obtain ⟨c13, H⟩ := H;have ad := decide_eq_true c13
   have c13m0 : decide ((l1.length : Int) < (m_ : Int)) = true := by rw [← HL_.out]; exact ad
   have c13mq := eq_true (show (l1.length : Int) < (m_ : Int) from of_decide_eq_true c13m0);have ae : decide (l1.length < a2.length) = true := decide_eq_true (Int.ofNat_lt.mp c13)
   have c13m1 : decide (l1.length < m_) = true := by rw [← HL_.out]; exact ae
   clear c13;obtain ⟨a8, a6⟩ : ∃ y_ : List Int, y_ = (a2.set ((l1.length : Int) : Int).toNat (IntKind.u64.wrap ((rd a2 (l1.length : Int)) + a4))) := ⟨_, rfl⟩;replace H : (some a8) = some r := zR a6 H;have aa := zA a6;clear a6;obtain rfl := Option.some.inj H;have p223 : 0 ≤ ((l1.length : Int) : Int) := od;have q223 : (l1.length : Int) < (a2.length : Int) := od;have ab := (view_cell a3.out hA_ (l1.length : Int) p223 q223).1;(try simp only [Go.IntWalk.toNatUp] at ab);replace p223 := eq_true p223;replace q223 := eq_true q223;have p14 : 0 ≤ ((l1.length : Int) : Int) := od;have q14 : ((l1.length : Int) : Int) < ((a2.length : Int) : Int) := od;obtain ⟨ac, hf14_0⟩ := view_cell a3.out hA_ ((l1.length : Int) : Int) p14 q14;(try simp only [Int.toNat_natCast] at ac hf14_0);replace p14 := eq_true p14;replace q14 := eq_true q14;have HP16 := view_put a3.out hA_ ((l1.length : Int) : Int) (by first | exact of_eq_true (by assumption) | omega) (by first | exact of_eq_true (by assumption) | omega) (IntKind.u64.wrap ((rd a2 (l1.length : Int)) + a4))
   go_wp2_with (first | ((with_reducible refine gate_store (t := 22) (p := 35) rfl ?_); refine store_event (t := 22) (p := 35) (v := ?vo_w17) (w1 := (wr.setCell ⟨g_, off_ + ((l1.length : Int) : Int).toNat, none⟩ (.int .u64 (IntKind.u64.wrap ((rd a2 (l1.length : Int)) + a4))))) ?hg ?ho ?hn ?hr ?_; (case ho => rfl); (case hg => rfl); (case hn => rfl); (case hr => first | (go_simp; done) | (go_simp; rfl)); intro w17 hw; have hg : wr.grownBy w17 (some g_) := (by rw [hw]; exact HP16.2); have hp_ : Kd.R (Kd.int .u64) 22 w17 w0.heap.size (fun k_ => (P0_ k_ ∨ w.heap.size ≤ k_)) (.slice (some ⟨g_, 0, none⟩) N_ C_) (A_ ++ a8 ++ B_) := (by rw [hw, aa.out]; exact HP16.1); clear HP16; have n0_ := zA (hp_); have n1_ := zA ((by rw [hw]; exact below_set (HB.out) hg_ : Below w0.heap.size w0 w17)); have n2_ := zA (Kept.of_grown (S := (fun k_ => P0_ k_)) hg (by repeat (first | (with_reducible first | exact HK.out | apply Kept.alloc | apply Kept.drewN | apply Kept.drew) | exact HK.out)) (fun k_ e_ => (a3.out.1 k_ e_))); have n9_ : Aside0 (a8.length = m_) := ⟨by first | (rw [aa.out, List.length_set]; exact HL_.out)⟩; clear HL_; clear a3; clear HB; clear HK; have HL_ := n9_; have a3 := n0_; have HB := n1_; have HK := n2_; clear n0_ n1_ n2_ n9_; clear hg hw hp_))
   first | go_end0 | ((try simp only [Exit.inBlock, Exit.then]); refine bodyPost_ret (results_none rfl _ _ _) rfl ?_)
   exact ⟨er, ⟨by first | ((with_reducible repeat (first | apply R_alloc | apply R_drewN | apply R_drew)); exact a3.out) | (simpa [List.append_assoc] using a3.out), HL_.out⟩, bq, by repeat (first | (with_reducible first | exact HK.out | apply Kept.alloc | apply Kept.drewN | apply Kept.drew) | exact HK.out)⟩
set_option maxHeartbeats 8000000 in
set_option maxRecDepth 100000 in
theorem nat_number_less.callsAt (w0 : World) (k : Nat) (P0_ : Nat → Prop) (g_ N_ C_ off_ m_ cw_ : Nat) (A_ B_ : List Int) (hA_ : A_.length = off_) (hcw_ : m_ ≤ cw_) (hg_ : w0.heap.size ≤ g_) (l0 : List Int) (A1 : Option Addr) (c1 : Nat) (l1 : List Int) (a2 : Int) (r1 : Bool) (r2 : List Int) (w : World) (hB : Below w0.heap.size w0 w) (an : Kd.R (Kd.int .u64) 22 w w0.heap.size P0_ (.slice (some ⟨g_, 0, none⟩) N_ C_) (A_ ++ l0 ++ B_)) (hl0 : l0.length = m_) (hr1 : ∀ W_, Kept w W_ (fun k_ => P0_ k_) → Kd.C (Kd.int .u64) W_ A1 l1.length l1) (hc1 : l1.length ≤ c1) (h : nat_number_less.f k l0 l1 a2 = some (r1, r2)) :
  Calls Tryd.prog 66 #[.slice (some ⟨g_, off_, none⟩) m_ cw_, .slice A1 l1.length c1, .int .u64 a2] w fun e w' => e = .returned (.bool r1) ∧ (Kd.R (Kd.int .u64) 22 w' w0.heap.size (fun k_ => (P0_ k_ ∨ w.heap.size ≤ k_)) (.slice (some ⟨g_, 0, none⟩) N_ C_) (A_ ++ r2 ++ B_) ∧ r2.length = m_) ∧ Below w0.heap.size w0 w' ∧ Kept w w' (fun k_ => P0_ k_) := by
 have ao := zA (show Kd.R (Kd.int .u64) 22 w w0.heap.size (fun k_ => (P0_ k_ ∨ w.heap.size ≤ k_)) (.slice (some ⟨g_, 0, none⟩) N_ C_) (A_ ++ l0 ++ B_) from R_mono an (fun k_ hk => (.inl hk)));have ap := zA hr1;have aC := zA hc1;clear hr1 hc1;have HK := zA (Kept.refl w (fun k_ => P0_ k_));have HW0 := zA hB.size;have HB := zA hB;clear hB;have H : (nat_number_less.l0 k l0 l1 a2 0 0 l1 (l1.length : Int) 0) = some (r1, r2) := h;clear h;have H' := zA H;clear H;go_enter Tryd.func66, Tryd.ntmps66
 go_wp2
 go_loopg [7, 8, 16] k (fun kq v7 v8 v16 w' => ∃ (a3 : List Int) (a5 : Int) (a6 : Int) (a1 : Int), v7 = .int .u64 a5 ∧ v8 = .int .u64 a6 ∧ v16 = .int .i64 a1 ∧ Aside0 (nat_number_less.l0 kq a3 l1 a2 a5 a6 l1 (l1.length : Int) a1 = some (r1, r2)) ∧ Aside0 (kq ≤ k) ∧ Aside0 (Kd.R (Kd.int .u64) 22 w' w0.heap.size (fun k_ => (P0_ k_ ∨ w.heap.size ≤ k_)) (.slice (some ⟨g_, 0, none⟩) N_ C_) (A_ ++ a3 ++ B_)) ∧ Aside0 (a3.length = m_) ∧ Aside0 (Kept w w' (fun k_ => P0_ k_)) ∧ Aside0 (Below w0.heap.size w0 w'))
 case atStart => exact ⟨(l0), (0), (0), (0), zi, zi, zi, H', ⟨Nat.le_refl _⟩, ⟨ru ao.out⟩, ⟨hl0⟩, ⟨by repeat (first | (with_reducible first | exact HK.out | apply Kept.alloc | apply Kept.drewN | apply Kept.drew) | exact HK.out)⟩, ⟨bq⟩⟩
 case round =>
  clear H'
  try clear c1
  try clear p2
  obtain ⟨a3, a5, a6, a1, rfl, rfl, rfl, HA, HK1, a4, HL_, HK, HB⟩ := hrel
  cases gk with
  | zero => exact absurd HA.out (by simp [nat_number_less.l0])
  | succ k1 =>
   have H := HA.out;clear HA;simp only [nat_number_less.l0] at H
   by_cases c4 : a1 < (l1.length : Int)
   ·rw [if_pos c4] at H;have aj := decide_eq_true c4;clear c4;replace H := dn H;obtain ⟨c5, H⟩ := H;have ax := decide_eq_true c5;clear c5;replace H := dn H;obtain ⟨c6, H⟩ := H;have ay := decide_eq_true c6;clear c6;obtain ⟨⟨ae, a7⟩, A7, H⟩ := zh H;(try dsimp only at H);replace H := dn H;obtain ⟨c8, H⟩ := H;have ak := decide_eq_true c8
    have c8m0 : decide (a1 < (m_ : Int)) = true := by rw [← HL_.out]; exact ak
    have c8mq := eq_true (show a1 < (m_ : Int) from of_decide_eq_true c8m0);clear c8;replace H := dn H;obtain ⟨c9, H⟩ := H;have aA := eq_true c9;have aB := decide_eq_true c9;clear c9;obtain ⟨aa, a8⟩ : ∃ y_ : List Int, y_ = (a3.set (a1 : Int).toNat (sub64s (rd a3 a1) (add64s a7 a5 0) a6)) := ⟨_, rfl⟩;(first | replace H := zRb a8 H | rw [← a8] at H | skip);have ab := zA a8;clear a8;have H' := zA H;clear H;have p213 : 0 ≤ (a1 : Int) := od;have q213 : a1 < (l1.length : Int) := od;obtain ⟨ad213, e213, al⟩ := Kd.at_int (C_kept_now ap.out HK.out) a1 p213 q213;cases e213;replace p213 := eq_true p213;replace q213 := eq_true q213
    go_wp2_with (first | ((with_reducible refine zG 74 rfl ?_); refine zC (some 24) Tryd.func74 (bits_Mul64.calls (rd l1 a1) a2 ae a7 _ A7.out) ?_; rintro e w' ⟨rfl, ⟨nd, rfl⟩⟩; refine ⟨_, rfl, ?_⟩; (try (rw [drewN_self wr]; generalize hq_ : World.drewN wr _ = wr; have n0_ : Aside0 (Kd.R (Kd.int .u64) 22 wr w0.heap.size (fun k_ => (P0_ k_ ∨ w.heap.size ≤ k_)) (.slice (some ⟨g_, 0, none⟩) N_ C_) (A_ ++ a3 ++ B_)) := ⟨by rw [← hq_]; exact (ru a4.out)⟩; have n1_ : Aside0 (Kept w wr (fun k_ => P0_ k_)) := ⟨by rw [← hq_]; exact (by repeat (first | (with_reducible first | exact HK.out | apply Kept.alloc | apply Kept.drewN | apply Kept.drew) | exact HK.out))⟩; have n2_ : Aside0 (Below w0.heap.size w0 wr) := ⟨by rw [← hq_]; exact bq⟩; clear a4 HK HB hq_; have a4 := n0_; have HK := n1_; have HB := n2_; clear n0_ n1_ n2_)); have p216 : 0 ≤ (a1 : Int) := od; have q216 : a1 < (a3.length : Int) := od; have am := (view_cell a4.out hA_ a1 p216 q216).1; replace p216 := eq_true p216; replace q216 := eq_true q216; have p10 : 0 ≤ (a1 : Int) := od; have q10 : (a1 : Int) < ((a3.length : Int) : Int) := od; obtain ⟨aq, hf10_0⟩ := view_cell a4.out hA_ (a1 : Int) p10 q10; replace p10 := eq_true p10; replace q10 := eq_true q10; obtain ⟨hy12_, hz12_⟩ := view_cell a4.out hA_ (a1 : Int) (od) (od); have HP12 := view_put a4.out hA_ (a1 : Int) (by first | exact of_eq_true (by assumption) | omega) (by first | exact of_eq_true (by assumption) | omega) (sub64s (rd a3 a1) (add64s a7 a5 0) a6)) | ((with_reducible refine gate_store (t := 22) (p := 48) rfl ?_); refine store_event (t := 22) (p := 48) (v := ?vo_w13) (w1 := (wr.setCell ⟨g_, off_ + (a1 : Int).toNat, none⟩ (.int .u64 (sub64s (rd a3 a1) (add64s a7 a5 0) a6)))) ?hg ?ho ?hn ?hr ?_; (case ho => rfl); (case hg => rfl); (case hn => rfl); (case hr => first | (go_simp; done) | (go_simp; rfl)); intro w13 hw; have hg : wr.grownBy w13 (some g_) := (by rw [hw]; exact HP12.2); have hp_ : Kd.R (Kd.int .u64) 22 w13 w0.heap.size (fun k_ => (P0_ k_ ∨ w.heap.size ≤ k_)) (.slice (some ⟨g_, 0, none⟩) N_ C_) (A_ ++ aa ++ B_) := (by rw [hw, ab.out]; exact HP12.1); clear HP12; have n0_ := zA (hp_); have n1_ := zA ((by rw [hw]; exact below_set (HB.out) hg_ : Below w0.heap.size w0 w13)); have n2_ := zA (Kept.of_grown (S := (fun k_ => P0_ k_)) hg (by repeat (first | (with_reducible first | exact HK.out | apply Kept.alloc | apply Kept.drewN | apply Kept.drew) | exact HK.out)) (fun k_ e_ => (a4.out.1 k_ e_))); have n9_ : Aside0 (aa.length = m_) := ⟨by first | (rw [ab.out, List.length_set]; exact HL_.out)⟩; clear HL_; clear a4; clear HB; clear HK; have HL_ := n9_; have a4 := n0_; have HB := n1_; have HK := n2_; clear n0_ n1_ n2_ n9_; clear hg hw hp_))
    go_roundg k1
    case measure => have := HK1.out; omega
    case rel => exact ⟨(aa), (IntKind.u64.wrap (ae + (add64c a7 a5 0))), (sub64c (rd a3 a1) (add64s a7 a5 0) a6), (wrap64 (a1 + 1)), zi, zi, zi, H', ⟨by have := HK1.out; omega⟩, ⟨ru a4.out⟩, HL_, ⟨by repeat (first | (with_reducible first | exact HK.out | apply Kept.alloc | apply Kept.drewN | apply Kept.drew) | exact HK.out)⟩, ⟨bq⟩⟩
   rw [if_neg c4] at H;have aj := decide_eq_false c4;clear c4;replace H := dn H;obtain ⟨c14, H⟩ := H;have ar := decide_eq_true c14;have au : decide (0 ≤ l1.length) = true := decide_eq_true (by omega);clear c14;replace H := dn H;obtain ⟨c15, H⟩ := H;have ah := decide_eq_true c15
   have c15m0 : decide ((l1.length : Int) < (m_ : Int)) = true := by rw [← HL_.out]; exact ah
   have c15mq := eq_true (show (l1.length : Int) < (m_ : Int) from of_decide_eq_true c15m0);have ai : decide (l1.length < a3.length) = true := decide_eq_true (Int.ofNat_lt.mp c15)
   have c15m1 : decide (l1.length < m_) = true := by rw [← HL_.out]; exact ai
   clear c15;replace H := dn H;obtain ⟨c16, H⟩ := H;have av := eq_true c16;have aw := decide_eq_true c16;clear c16;obtain ⟨af, a9⟩ : ∃ y_ : List Int, y_ = (a3.set ((l1.length : Int) : Int).toNat (sub64s (rd a3 (l1.length : Int)) a5 a6)) := ⟨_, rfl⟩;(first | replace H := zRb a9 H | rw [← a9] at H | skip);have ac := zA a9;clear a9;simp only [Option.some.injEq, Prod.mk.injEq] at H;obtain ⟨rfl, rfl⟩ := H;have p218 : 0 ≤ ((l1.length : Int) : Int) := od;have q218 : (l1.length : Int) < (a3.length : Int) := od;have ad := (view_cell a4.out hA_ (l1.length : Int) p218 q218).1;(try simp only [Go.IntWalk.toNatUp] at ad);replace p218 := eq_true p218;replace q218 := eq_true q218;have p17 : 0 ≤ ((l1.length : Int) : Int) := od;have q17 : ((l1.length : Int) : Int) < ((a3.length : Int) : Int) := od;obtain ⟨ag, hf17_0⟩ := view_cell a4.out hA_ ((l1.length : Int) : Int) p17 q17;(try simp only [Int.toNat_natCast] at ag hf17_0);replace p17 := eq_true p17;replace q17 := eq_true q17;have HP19 := view_put a4.out hA_ ((l1.length : Int) : Int) (by first | exact of_eq_true (by assumption) | omega) (by first | exact of_eq_true (by assumption) | omega) (sub64s (rd a3 (l1.length : Int)) a5 a6)
   go_wp2_with (first | ((with_reducible refine gate_store (t := 22) (p := 64) rfl ?_); refine store_event (t := 22) (p := 64) (v := ?vo_w20) (w1 := (wr.setCell ⟨g_, off_ + ((l1.length : Int) : Int).toNat, none⟩ (.int .u64 (sub64s (rd a3 (l1.length : Int)) a5 a6)))) ?hg ?ho ?hn ?hr ?_; (case ho => rfl); (case hg => rfl); (case hn => rfl); (case hr => first | (go_simp; done) | (go_simp; rfl)); intro w20 hw; have hg : wr.grownBy w20 (some g_) := (by rw [hw]; exact HP19.2); have hp_ : Kd.R (Kd.int .u64) 22 w20 w0.heap.size (fun k_ => (P0_ k_ ∨ w.heap.size ≤ k_)) (.slice (some ⟨g_, 0, none⟩) N_ C_) (A_ ++ af ++ B_) := (by rw [hw, ac.out]; exact HP19.1); clear HP19; have n0_ := zA (hp_); have n1_ := zA ((by rw [hw]; exact below_set (HB.out) hg_ : Below w0.heap.size w0 w20)); have n2_ := zA (Kept.of_grown (S := (fun k_ => P0_ k_)) hg (by repeat (first | (with_reducible first | exact HK.out | apply Kept.alloc | apply Kept.drewN | apply Kept.drew) | exact HK.out)) (fun k_ e_ => (a4.out.1 k_ e_))); have n9_ : Aside0 (af.length = m_) := ⟨by first | (rw [ac.out, List.length_set]; exact HL_.out)⟩; clear HL_; clear a4; clear HB; clear HK; have HL_ := n9_; have a4 := n0_; have HB := n1_; have HK := n2_; clear n0_ n1_ n2_ n9_; clear hg hw hp_))
   go_ret;exact ⟨er, ⟨by first | ((with_reducible repeat (first | apply R_alloc | apply R_drewN | apply R_drew)); exact a4.out) | (simpa [List.append_assoc] using a4.out), HL_.out⟩, bq, by repeat (first | (with_reducible first | exact HK.out | apply Kept.alloc | apply Kept.drewN | apply Kept.drew) | exact HK.out)⟩
/-- A cut xs[L:H] of a slice, as a value. -/
def viewOf : Value → Int → Int → Value
 | .slice A N C, L, H => .slice (if C = L.toNat then A else A.map (·.add (L.toNat * 1))) (H.toNat - L.toNat) (C - L.toNat)
 | v, _, _ => v
theorem view_parts {U : List Int} {L H : Int} (h0 : 0 ≤ L) (h1 : L ≤ H) (h2 : H ≤ (U.length : Int)) : U.take L.toNat ++ (U.take H.toNat).drop L.toNat ++ U.drop H.toNat = U ∧ (U.take L.toNat).length = L.toNat ∧ ((U.take H.toNat).drop L.toNat).length = H.toNat - L.toNat := by
 refine ⟨?_, by rw [List.length_take]; omega, by rw [List.length_drop, List.length_take]; omega⟩
 have e : U.take L.toNat = (U.take H.toNat).take L.toNat := by rw [List.take_take]; congr 1; omega
 rw [e, List.take_append_drop, List.take_append_drop]
theorem view_value {e : TypeId} {w : World} {base : Nat} {ok : Nat → Prop} {v : Value} {U : List Int} {L H : Int} {Aq : Option Addr} {nq cq : Nat} (h : Kd.R (Kd.int .u64) e w base ok v U) (h0 : 0 ≤ L) (h1 : L < H) (h2 : H ≤ (U.length : Int)) (hq : Value.slice Aq nq cq = viewOf v L H) :
  ∃ g N C, v = .slice (some ⟨g, 0, none⟩) N C ∧ base ≤ g ∧ Aq = some ⟨g, L.toNat, none⟩ ∧ nq = H.toNat - L.toNat ∧ H.toNat - L.toNat ≤ cq := by
 obtain ⟨g, cap, he, hb, _, _⟩ := R_form h (by omega);have hc := (R_reads' (A := some ⟨g, 0, none⟩) (n := U.length) (c := cap) (by rw [← he]; exact h)).2.1;rw [he] at hq;simp only [viewOf] at hq
 injection hq with q1 q2 q3
 rw [if_neg (by omega)] at q1;refine ⟨g, _, _, he, hb, ?_, q2, by omega⟩;rw [q1, Nat.mul_one]; simp only [Option.map_some, add_plain]
def nat_number_backAt.f (k : Nat) (U : List Int) (L H : Int) (d : List Int) : Option (List Int) := if 0 ≤ L then (if L < H then (if H ≤ (U.length : Int) then ((nat_number_back.f k ((U.take H.toNat).drop L.toNat) d).bind fun r => (some (U.take L.toNat ++ r ++ U.drop H.toNat))) else (none)) else (none)) else (none)
theorem nat_number_backAt.calls {Aq : Option Addr} {nq cq : Nat} (k : Nat) (P0_ : Nat → Prop) (u9000_ : Value) (l0 : List Int) (L H : Int) (A1 : Option Addr) (c1 : Nat) (l1 : List Int) (r : List Int) (w0 w : World) (hq : Value.slice Aq nq cq = viewOf u9000_ L H) (hB : Below w0.heap.size w0 w) (a1 : Kd.R (Kd.int .u64) 22 w w0.heap.size P0_ u9000_ l0) (hr1 : ∀ W_, Kept w W_ (fun k_ => P0_ k_) → Kd.C (Kd.int .u64) W_ A1 l1.length l1) (hc1 : l1.length ≤ c1) (h : nat_number_backAt.f k l0 L H l1 = some r) :
  Calls Tryd.prog 67 #[.slice Aq nq cq, .slice A1 l1.length c1] w fun e w' => e = .returned (.tuple #[]) ∧ Kd.R (Kd.int .u64) 22 w' w0.heap.size (fun k_ => (P0_ k_ ∨ w.heap.size ≤ k_)) u9000_ r ∧ Below w0.heap.size w0 w' ∧ Kept w w' (fun k_ => P0_ k_) := by
 unfold nat_number_backAt.f at h
 by_cases h0 : 0 ≤ L
 ·rw [if_pos h0] at h
  by_cases h1 : L < H
  ·rw [if_pos h1] at h
   by_cases h2 : H ≤ (l0.length : Int)
   ·rw [if_pos h2] at h;obtain ⟨r0, hr0, h⟩ := Option.bind_eq_some_iff.mp h;obtain rfl := Option.some.inj h;obtain ⟨p1, p2, p3⟩ := view_parts h0 (Int.le_of_lt h1) h2;obtain ⟨g, N, C, rfl, hb, rfl, rfl, hc⟩ := view_value a1 h0 h1 h2 hq;rw [← p1] at a1;refine (nat_number_back.callsAt w0 k P0_ g N C L.toNat (H.toNat - L.toNat) cq (l0.take L.toNat) (l0.drop H.toNat) p2 hc hb _ A1 c1 l1 r0 w hB a1 p3 hr1 hc1 hr0).mono ?_;rintro e w' ⟨rfl, ⟨ho, _⟩, hb2, hk⟩;exact ⟨rfl, ho, hb2, hk⟩
   rw [if_neg h2] at h; cases h
  rw [if_neg h1] at h; cases h
 rw [if_neg h0] at h; cases h
def nat_number_lessAt.f (k : Nat) (U : List Int) (L H : Int) (d : List Int) (n : Int) : Option (Bool × List Int) := if 0 ≤ L then (if L < H then (if H ≤ (U.length : Int) then ((nat_number_less.f k ((U.take H.toNat).drop L.toNat) d n).bind fun r => (some (r.1, U.take L.toNat ++ r.2 ++ U.drop H.toNat))) else (none)) else (none)) else (none)
theorem nat_number_lessAt.calls {Aq : Option Addr} {nq cq : Nat} (k : Nat) (P0_ : Nat → Prop) (u9000_ : Value) (l0 : List Int) (L H : Int) (A1 : Option Addr) (c1 : Nat) (l1 : List Int) (a2 : Int) (r1 : Bool) (r2 : List Int) (w0 w : World) (hq : Value.slice Aq nq cq = viewOf u9000_ L H) (hB : Below w0.heap.size w0 w) (a1 : Kd.R (Kd.int .u64) 22 w w0.heap.size P0_ u9000_ l0) (hr1 : ∀ W_, Kept w W_ (fun k_ => P0_ k_) → Kd.C (Kd.int .u64) W_ A1 l1.length l1) (hc1 : l1.length ≤ c1) (h : nat_number_lessAt.f k l0 L H l1 a2 = some (r1, r2)) :
  Calls Tryd.prog 66 #[.slice Aq nq cq, .slice A1 l1.length c1, .int .u64 a2] w fun e w' => e = .returned (.bool r1) ∧ Kd.R (Kd.int .u64) 22 w' w0.heap.size (fun k_ => (P0_ k_ ∨ w.heap.size ≤ k_)) u9000_ r2 ∧ Below w0.heap.size w0 w' ∧ Kept w w' (fun k_ => P0_ k_) := by
 unfold nat_number_lessAt.f at h
 by_cases h0 : 0 ≤ L
 ·rw [if_pos h0] at h
  by_cases h1 : L < H
  ·rw [if_pos h1] at h
   by_cases h2 : H ≤ (l0.length : Int)
   ·rw [if_pos h2] at h;obtain ⟨⟨s1, s2⟩, hr0, h⟩ := Option.bind_eq_some_iff.mp h;have h' := Option.some.inj h
    injection h' with e1 e2
    dsimp only at e1 e2;subst e1 e2;obtain ⟨p1, p2, p3⟩ := view_parts h0 (Int.le_of_lt h1) h2;obtain ⟨g, N, C, rfl, hb, rfl, rfl, hc⟩ := view_value a1 h0 h1 h2 hq;rw [← p1] at a1;refine (nat_number_less.callsAt w0 k P0_ g N C L.toNat (H.toNat - L.toNat) cq (l0.take L.toNat) (l0.drop H.toNat) p2 hc hb _ A1 c1 l1 a2 s1 s2 w hB a1 p3 hr1 hc1 hr0).mono ?_;rintro e w' ⟨rfl, ⟨ho, _⟩, hb2, hk⟩;exact ⟨rfl, ho, hb2, hk⟩
   rw [if_neg h2] at h; cases h
  rw [if_neg h1] at h; cases h
 rw [if_neg h0] at h; cases h
end Go.Proofs.YtjnfipkbgmdpaaaDoor.PAll
