/- Printed functions, merged by a program of this session. -/
import Derived.Test.YtnjfckadjklmfaaDoorXRoundPointsP0
import Derived.Test.YtnjfckadjklmfaaDoorXRoundPointsSh
namespace Go.Proofs.YtnjfckadjklmfaaDoor.PAll
open Go.RowKit Go.Proofs.YtnjfckadjklmfaaDoorW.PrintWords Go.Proofs.YtnjfckadjklmfaaDoorW.PrintLast Go.Proofs.YtnjfckadjklmfaaDoorW.PrintMore Go.Proofs.YtnjfckadjklmfaaDoorW.PrintWords.Kd
attribute [local go_sem] max2_int min2_int max_two min_two max_three min_three max_four min_four   -- for this text's walks alone
set_option linter.unusedVariables false
set_option linter.unusedSimpArgs false
attribute [local go_sem] fld75_0 fld75_1 fld75_2 ext118 ext119
def nat_answer.f (l0 : List Int) : Option (List Int × Int) := (nat_number_great.f l0).bind fun a1 => (if a1 = true then (some (([] : List Int), 3)) else ((nat_number_own.f l0).bind fun a2 => (some (a2, 0))))
set_option maxHeartbeats 8000000 in
set_option maxRecDepth 100000 in
theorem nat_answer.calls (A0 : Option Addr) (c0 : Nat) (l0 : List Int) (r1 : List Int) (r2 : Int) (w : World) (hr0 : Kd.C (Kd.int .u64) w A0 l0.length l0) (hc0 : l0.length ≤ c0) (h : nat_answer.f l0 = some (r1, r2)) :
  Calls Tryd.prog 122 #[.slice A0 l0.length c0] w fun e w' => ∃ v0_ : Value, e = .returned (.tuple #[v0_, .int .i64 r2]) ∧ Kd.R (Kd.int .u64) 26 w' w.heap.size (fun _ => True) v0_ r1 ∧ Below w.heap.size w w' := by
 have a5 := zA hr0;have a6 := zA hc0;clear hr0 hc0;have HB := zA (Below.refl w.heap.size w);have H : ((nat_number_great.f l0).bind fun a3 => (if a3 = true then (some (([] : List Int), 3)) else ((nat_number_own.f l0).bind fun a4 => (some (a4, 0))))) = some (r1, r2) := h;clear h;obtain ⟨a3, A2, H⟩ := zh H
 by_cases c3 : a3 = true
 ·subst c3;rw [if_pos rfl] at H;simp only [Option.some.injEq, Prod.mk.injEq] at H;obtain ⟨rfl, rfl⟩ := H;go_enter Tryd.func122, Tryd.ntmps122
  go_wp2_with (first | ((with_reducible refine zG 120 rfl ?_); refine zL (some 5) rfl rfl Tryd.func120 #[.slice A0 l0.length c0] rfl ?_; (with_reducible refine (nat_number_great.calls _ _ l0 true _ ?a1 ?a2 A2.out).mono ?_); (case a1 => exact zk a5.out); (case a2 => exact a6.out); rintro e w' ⟨rfl, ⟨nd, rfl⟩⟩; refine ⟨_, rfl, ?_⟩))
  go_ret2
  exact ⟨_, er, by first | exact R_nil _ _ _ _ _ | exact Kd.N_nil _ _ _ _ _ | exact V_nil _ _ _ _ _ | exact Kd.Q_nil _ _ _ _ _ | exact Kd.S_nil _ _ _ _ _, bq⟩
 replace c3 := Bool.eq_false_iff.mpr c3;subst c3;rw [if_neg (show ¬ (false = true) by decide)] at H;obtain ⟨a4, A4, H⟩ := zh H;simp only [Option.some.injEq, Prod.mk.injEq] at H;obtain ⟨rfl, rfl⟩ := H;go_enter Tryd.func122, Tryd.ntmps122
 go_wp2_with (first | ((with_reducible refine zG 120 rfl ?_); refine zL (some 5) rfl rfl Tryd.func120 #[.slice A0 l0.length c0] rfl ?_; (with_reducible refine (nat_number_great.calls _ _ l0 false _ ?a1 ?a2 A2.out).mono ?_); (case a1 => exact zk a5.out); (case a2 => exact a6.out); rintro e w' ⟨rfl, ⟨nd, rfl⟩⟩; refine ⟨_, rfl, ?_⟩) | ((with_reducible refine zG 96 rfl ?_); refine zL (some 7) rfl rfl Tryd.func96 #[.slice A0 l0.length c0] rfl ?_; (with_reducible refine (nat_number_own.calls _ _ l0 a4 _ ?a1 ?a2 A4.out).mono ?_); (case a1 => exact zk a5.out); (case a2 => exact a6.out); rintro e w5 ⟨v159, rfl, a8, hb⟩; refine ⟨_, rfl, ?_⟩; have a7 := zA (R_lower a8 (below_size bq)); replace HB := ze hb; (try clear a8)))
 go_ret2
 exact ⟨_, er, ru a7.out, bq⟩
def nat_number_shl.l0 : Nat → Int → Int → List Int → List Int → Int → Int → Option (List Int)
 | 0, _, _, _, _, _, _ => none
 | k + 1, x5, x6, x7, x23, x24, x25 => if x25 < x24 then (if 0 ≤ x25 then (if x25 < (x23.length : Int) then (if 0 ≤ (wrap64 (x25 + x5)) then (if (wrap64 (x25 + x5)) < (x7.length : Int) then (if 0 ≤ x6 then ((some (x7.set ((wrap64 (x25 + x5)) : Int).toNat (Go.bits .or .u64 (rd x7 (wrap64 (x25 + x5))) (shl .u64 (rd x23 x25) x6)) : List Int)).bind fun a1 => (if x6 > 0 then (if 0 ≤ (wrap64 (64 - x6)) then (if 0 ≤ (wrap64 ((wrap64 (x25 + x5)) + 1)) then (if (wrap64 ((wrap64 (x25 + x5)) + 1)) < (x7.length : Int) then (nat_number_shl.l0 k x5 x6 (a1.set ((wrap64 ((wrap64 (x25 + x5)) + 1)) : Int).toNat (shr .u64 (rd x23 x25) (wrap64 (64 - x6)))) x23 x24 (wrap64 (x25 + 1))) else (none)) else (none)) else (none)) else (nat_number_shl.l0 k x5 x6 a1 x23 x24 (wrap64 (x25 + 1))))) else (none)) else (none)) else (none)) else (none)) else (none)) else ((nat_norm.f k x7).bind fun a2 => (some a2))
def nat_number_shl.f (k : Nat) (l0 : List Int) (a1 : Int) : Option (List Int) := if (l0.length : Int) = 0 then (some ([] : List Int)) else (if 0 ≤ (wrap64 ((wrap64 ((l0.length : Int) + (wrap64 (Int.tdiv a1 64)))) + 1)) then (if (wrap64 ((wrap64 ((l0.length : Int) + (wrap64 (Int.tdiv a1 64)))) + 1) : Int).toNat ≤ 35184372088832 then (nat_number_shl.l0 k (wrap64 (Int.tdiv a1 64)) (Int.tmod a1 64) (List.replicate (wrap64 ((wrap64 ((l0.length : Int) + (wrap64 (Int.tdiv a1 64)))) + 1) : Int).toNat 0) l0 (l0.length : Int) 0) else (none)) else (none))
theorem nat_number_shl.mono_l : ∀ k, (∀ y0 y1 y2 y3 y4 y5, LeO (nat_number_shl.l0 k y0 y1 y2 y3 y4 y5) (nat_number_shl.l0 (k + 1) y0 y1 y2 y3 y4 y5))
 | 0 => fun _ _ _ _ _ _ r h => by simp [nat_number_shl.l0] at h
 | k + 1 => by
  have ih0 := nat_number_shl.mono_l k;intro y0 y1 y2 y3 y4 y5
  unfold nat_number_shl.l0
  repeat' first
  | (with_reducible exact ih0 _ _ _ _ _ _)
  | (with_reducible exact nat_norm.mono _ _)
  | (with_reducible exact LeO.refl _)
  | (with_reducible exact LeO.none _)
  | (with_reducible refine LeO.ite ?_ ?_)
  | (with_reducible refine LeO.bind ?_ (fun _ => ?_))
  | exact ih0 _ _ _ _ _ _
  | exact nat_norm.mono _ _
  | exact LeO.none _
  | refine LeO.ite ?_ ?_
  | refine LeO.bind ?_ (fun _ => ?_)
theorem nat_number_shl.mono : ∀ a0 a1 k, LeO (nat_number_shl.f k a0 a1) (nat_number_shl.f (k + 1) a0 a1) := by
 intro a0 a1 k;have ih0 := nat_number_shl.mono_l k
 unfold nat_number_shl.f
 repeat' first
   | (with_reducible exact ih0 _ _ _ _ _ _)
   | (with_reducible exact nat_norm.mono _ _)
   | (with_reducible exact LeO.refl _)
   | (with_reducible exact LeO.none _)
   | (with_reducible refine LeO.ite ?_ ?_)
   | (with_reducible refine LeO.bind ?_ (fun _ => ?_))
   | exact ih0 _ _ _ _ _ _
   | exact nat_norm.mono _ _
   | exact LeO.none _
   | refine LeO.ite ?_ ?_
   | refine LeO.bind ?_ (fun _ => ?_)
def nat_number_shl.T8 : Bool × List (List Nat × List Nat) := (true, [([], []), ([], []), ([], []), ([1, 2], [1, 2]), ([0, 3], [0, 3]), ([4], [4]), ([], []), ([], []), ([6, 7], [6, 7]), ([5, 8], [5, 8]), ([0, 3, 0, 1, 2, 3, 4, 5, 6, 7, 8, 9], [0, 3]), ([10, 9, 0, 1, 2, 3, 4, 5, 6, 7, 8, 9], [9, 10])])
def nat_number_shl.B8 : List Nat := [0, 0, 0, 6, 15, 31, 0, 0, 192, 511, 1023, 2047]
theorem nat_number_shl.tab8 : rtab .any (opsOf Tryd.f123 8) = nat_number_shl.T8 := by kernel_rfl
theorem nat_number_shl.bits8 : waitsOk nat_number_shl.T8.2 nat_number_shl.B8 = true := by kernel_rfl
set_option maxHeartbeats 8000000 in
set_option maxRecDepth 100000 in
theorem nat_number_shl.calls (k : Nat) (A0 : Option Addr) (c0 : Nat) (l0 : List Int) (a1 : Int) (r : List Int) (w : World) (hr0 : Kd.C (Kd.int .u64) w A0 l0.length l0) (hc0 : l0.length ≤ c0) (h : nat_number_shl.f k l0 a1 = some r) :
  Calls Tryd.prog 123 #[.slice A0 l0.length c0, .int .i64 a1] w fun e w' => ∃ v0_ : Value, e = .returned (v0_) ∧ Kd.V (Kd.int .u64) 26 w' w.heap.size (fun k_ => (w.heap.size ≤ k_)) v0_ r ∧ Below w.heap.size w w' := by
 have aM := zA hr0;have bc := zA hc0;clear hr0 hc0;have HB := zA (Below.refl w.heap.size w);have H : (if (l0.length : Int) = 0 then (some ([] : List Int)) else (if 0 ≤ (wrap64 ((wrap64 ((l0.length : Int) + (wrap64 (Int.tdiv a1 64)))) + 1)) then (if (wrap64 ((wrap64 ((l0.length : Int) + (wrap64 (Int.tdiv a1 64)))) + 1) : Int).toNat ≤ 35184372088832 then (nat_number_shl.l0 k (wrap64 (Int.tdiv a1 64)) (Int.tmod a1 64) (List.replicate (wrap64 ((wrap64 ((l0.length : Int) + (wrap64 (Int.tdiv a1 64)))) + 1) : Int).toNat 0) l0 (l0.length : Int) 0) else (none)) else (none))) = some r := h;clear h
 by_cases c3 : (l0.length : Int) = 0
 ·rw [if_pos c3] at H;have ay := beq_iff_eq.mpr c3;have aA := bne_eq_false_iff_eq.mpr c3;clear c3;obtain rfl := Option.some.inj H;go_enter Tryd.func123, Tryd.ntmps123
  go_wp2
  go_ret;exact ⟨_, er, V_nil _ _ _ _ _, bq⟩
 rw [if_neg c3] at H;have ay := beq_eq_false_iff_ne.mpr c3;have aA := bne_iff_ne.mpr c3
 have aO : ¬ (l0 = []) := fun h_ => c3 (by rw [h_]; rfl)
 obtain ⟨al, af⟩ : ∃ j_ : Int, (wrap64 ((wrap64 ((l0.length : Int) + (wrap64 (Int.tdiv a1 64)))) + 1)) = j_ := ⟨_, rfl⟩;replace H : (if 0 ≤ (al) then (if (al : Int).toNat ≤ 35184372088832 then (nat_number_shl.l0 k (wrap64 (Int.tdiv a1 64)) (Int.tmod a1 64) (List.replicate (al : Int).toNat 0) l0 (l0.length : Int) 0) else (none)) else (none)) = some r := zQ af H;have hji4w : (IntKind.i64.wrap ((wrap64 ((l0.length : Int) + (wrap64 (Int.tdiv a1 64)))) + 1)) = al := (i64_w _).trans af;replace H := dn H;obtain ⟨c5, H⟩ := H;have aP := eq_true c5;have aQ := decide_eq_true c5;clear c5;replace H := dn H;obtain ⟨c6, H⟩ := H;have aR := eq_true c6;have aS := decide_eq_true c6;clear c6;obtain ⟨aB, ap⟩ : ∃ y_ : List Int, y_ = (List.replicate (al : Int).toNat 0) := ⟨_, rfl⟩;replace H : (nat_number_shl.l0 k (wrap64 (Int.tdiv a1 64)) (Int.tmod a1 64) aB l0 (l0.length : Int) 0) = some r := zR ap H;have aw := zA ap;clear ap;have H' := zA H;clear H;go_enter Tryd.func123, Tryd.ntmps123
 go_wp2_with (first | ((with_reducible refine zD 22 rfl ?_); refine R_make (Kd.int .u64) _ 26 rfl (N := 22) rfl 106 _ _ rfl al rfl rfl Tryd.underlying106 (.int .u64 0) 8 info26 rfl (by decide) (by omega) 0 (ok := fun _ => True) (okp := fun _ => True) rfl (fun _ hk => hk) trivial (od) (Nat.le_trans (Nat.mul_le_mul_right _ (od : al.toNat ≤ 35184372088832)) (by omega)) (Below.refl _ _) (Nat.le_refl _) ?_; intro v162 w7 au hb hg_ hnew_; clear hg_ hnew_; (first | rw [← aw.out] at au | (simp only [Int.reduceToNat] at au; rw [← aw.out] at au)); have aH := zA (R_lower (R_newM (M := fun k_ => (w.heap.size ≤ k_)) au (below_size bq) (fun k_ h_ => h_)) (below_size bq)); replace HB := ze hb; clear hb au))
 go_loopg [25] k (fun kq v25 w' => ∃ (a4 : List Int) (a3 : Int), v25 = .int .i64 a3 ∧ Aside0 (nat_number_shl.l0 kq (wrap64 (Int.tdiv a1 64)) (Int.tmod a1 64) a4 l0 (l0.length : Int) a3 = some r) ∧ Aside0 (kq ≤ k) ∧ Aside0 (Kd.R (Kd.int .u64) 26 w' w.heap.size (fun k_ => (w.heap.size ≤ k_)) v162 a4) ∧ Aside0 (Below w.heap.size w w'))
 case atStart => exact ⟨(aB), (0), zi, H', ⟨Nat.le_refl _⟩, ⟨ru (R_mono aH.out (fun _ hk => hk.1))⟩, ⟨bq⟩⟩
 case round =>
  clear H'
  try clear c3
  try clear ay
  try clear aA
  try clear aO
  try clear c5
  try clear aP
  try clear aQ
  try clear c6
  try clear aR
  try clear aS
  obtain ⟨a4, a3, rfl, HA, HK1, a5, HB⟩ := hrel
  cases gk with
  | zero => exact absurd HA.out (by simp [nat_number_shl.l0])
  | succ k1 =>
   have H := HA.out;clear HA;simp only [nat_number_shl.l0] at H
   by_cases c9 : a3 < (l0.length : Int)
   ·rw [if_pos c9] at H;have aT := decide_eq_true c9;clear c9;replace H := dn H;obtain ⟨c10, H⟩ := H;have az := decide_eq_true c10;clear c10;replace H := dn H;obtain ⟨c11, H⟩ := H;have aZ := decide_eq_true c11;clear c11;obtain ⟨a2, ae⟩ : ∃ j_ : Int, (wrap64 (a3 + (wrap64 (Int.tdiv a1 64)))) = j_ := ⟨_, rfl⟩;replace H : (if 0 ≤ (a2) then (if (a2) < (a4.length : Int) then (if 0 ≤ (Int.tmod a1 64) then ((some (a4.set ((a2) : Int).toNat (Go.bits .or .u64 (rd a4 (a2)) (shl .u64 (rd l0 a3) (Int.tmod a1 64))) : List Int)).bind fun a7 => (if (Int.tmod a1 64) > 0 then (if 0 ≤ (wrap64 (64 - (Int.tmod a1 64))) then (if 0 ≤ (wrap64 ((a2) + 1)) then (if (wrap64 ((a2) + 1)) < (a4.length : Int) then (nat_number_shl.l0 k1 (wrap64 (Int.tdiv a1 64)) (Int.tmod a1 64) (a7.set ((wrap64 ((a2) + 1)) : Int).toNat (shr .u64 (rd l0 a3) (wrap64 (64 - (Int.tmod a1 64))))) l0 (l0.length : Int) (wrap64 (a3 + 1))) else (none)) else (none)) else (none)) else (nat_number_shl.l0 k1 (wrap64 (Int.tdiv a1 64)) (Int.tmod a1 64) a7 l0 (l0.length : Int) (wrap64 (a3 + 1))))) else (none)) else (none)) else (none)) = some r := zQ ae H;have hji12w : (IntKind.i64.wrap (a3 + (wrap64 (Int.tdiv a1 64)))) = a2 := (i64_w _).trans ae;replace H := dn H;obtain ⟨c13, H⟩ := H;have b1 := decide_eq_true c13;clear c13;replace H := dn H;obtain ⟨c14, H⟩ := H;have b2 := decide_eq_true c14;clear c14;obtain ⟨a6, ab⟩ : ∃ j_ : Int, (Int.tmod a1 64) = j_ := ⟨_, rfl⟩;replace H : (if 0 ≤ (a6) then ((some (a4.set ((a2) : Int).toNat (Go.bits .or .u64 (rd a4 (a2)) (shl .u64 (rd l0 a3) (a6))) : List Int)).bind fun a7 => (if (a6) > 0 then (if 0 ≤ (wrap64 (64 - (a6))) then (if 0 ≤ (wrap64 ((a2) + 1)) then (if (wrap64 ((a2) + 1)) < (a4.length : Int) then (nat_number_shl.l0 k1 (wrap64 (Int.tdiv a1 64)) (a6) (a7.set ((wrap64 ((a2) + 1)) : Int).toNat (shr .u64 (rd l0 a3) (wrap64 (64 - (a6))))) l0 (l0.length : Int) (wrap64 (a3 + 1))) else (none)) else (none)) else (none)) else (nat_number_shl.l0 k1 (wrap64 (Int.tdiv a1 64)) (a6) a7 l0 (l0.length : Int) (wrap64 (a3 + 1))))) else (none)) = some r := zQ ab H;replace H := dn H;obtain ⟨c16, H⟩ := H;have b3 := eq_true c16;have b4 := decide_eq_true c16;clear c16;obtain ⟨ac, ad⟩ : ∃ j_ : Int, (shl .u64 (rd l0 a3) (a6)) = j_ := ⟨_, rfl⟩;replace H : ((some (a4.set ((a2) : Int).toNat (Go.bits .or .u64 (rd a4 (a2)) (ac)) : List Int)).bind fun a7 => (if (a6) > 0 then (if 0 ≤ (wrap64 (64 - (a6))) then (if 0 ≤ (wrap64 ((a2) + 1)) then (if (wrap64 ((a2) + 1)) < (a4.length : Int) then (nat_number_shl.l0 k1 (wrap64 (Int.tdiv a1 64)) (a6) (a7.set ((wrap64 ((a2) + 1)) : Int).toNat (shr .u64 (rd l0 a3) (wrap64 (64 - (a6))))) l0 (l0.length : Int) (wrap64 (a3 + 1))) else (none)) else (none)) else (none)) else (nat_number_shl.l0 k1 (wrap64 (Int.tdiv a1 64)) (a6) a7 l0 (l0.length : Int) (wrap64 (a3 + 1))))) = some r := zQ ad H;have hji17_ : (IntKind.u64.wrap ((rd l0 a3) * 2 ^ min (a6).toNat 64)) = ac := ad;have hji17z : (a6) ≤ 64 → (IntKind.u64.wrap ((rd l0 a3) * 2 ^ (a6).toNat)) = ac := shl_small ad;obtain ⟨a7, aq⟩ : ∃ y_ : List Int, y_ = (a4.set ((a2) : Int).toNat (Go.bits .or .u64 (rd a4 (a2)) (ac))) := ⟨_, rfl⟩;replace H : (if (a6) > 0 then (if 0 ≤ (wrap64 (64 - (a6))) then (if 0 ≤ (wrap64 ((a2) + 1)) then (if (wrap64 ((a2) + 1)) < (a4.length : Int) then (nat_number_shl.l0 k1 (wrap64 (Int.tdiv a1 64)) (a6) (a7.set ((wrap64 ((a2) + 1)) : Int).toNat (shr .u64 (rd l0 a3) (wrap64 (64 - (a6))))) l0 (l0.length : Int) (wrap64 (a3 + 1))) else (none)) else (none)) else (none)) else (nat_number_shl.l0 k1 (wrap64 (Int.tdiv a1 64)) (a6) a7 l0 (l0.length : Int) (wrap64 (a3 + 1)))) = some r := zR aq H;have ax := zA aq;clear aq
    by_cases c19 : (a6) > 0
    ·rw [if_pos c19] at H;have aI := decide_eq_true c19;clear c19;obtain ⟨ag, ai⟩ : ∃ j_ : Int, (wrap64 (64 - (a6))) = j_ := ⟨_, rfl⟩;replace H : (if 0 ≤ (ag) then (if 0 ≤ (wrap64 ((a2) + 1)) then (if (wrap64 ((a2) + 1)) < (a4.length : Int) then (nat_number_shl.l0 k1 (wrap64 (Int.tdiv a1 64)) (a6) (a7.set ((wrap64 ((a2) + 1)) : Int).toNat (shr .u64 (rd l0 a3) (ag))) l0 (l0.length : Int) (wrap64 (a3 + 1))) else (none)) else (none)) else (none)) = some r := zQ ai H;have hji20w : (IntKind.i64.wrap (64 - (a6))) = ag := (i64_w _).trans ai;replace H := dn H;obtain ⟨c21, H⟩ := H;have b5 := eq_true c21;have b6 := decide_eq_true c21;clear c21;obtain ⟨ah, aj⟩ : ∃ j_ : Int, (shr .u64 (rd l0 a3) (ag)) = j_ := ⟨_, rfl⟩;replace H : (if 0 ≤ (wrap64 ((a2) + 1)) then (if (wrap64 ((a2) + 1)) < (a4.length : Int) then (nat_number_shl.l0 k1 (wrap64 (Int.tdiv a1 64)) (a6) (a7.set ((wrap64 ((a2) + 1)) : Int).toNat (ah)) l0 (l0.length : Int) (wrap64 (a3 + 1))) else (none)) else (none)) = some r := zQ aj H;have hji22_ : ((rd l0 a3) / 2 ^ min (ag).toNat 64) = ah := aj;have hji22z : (ag) ≤ 64 → ((rd l0 a3) / 2 ^ (ag).toNat) = ah := shr_small aj;obtain ⟨aa, ak⟩ : ∃ j_ : Int, (wrap64 ((a2) + 1)) = j_ := ⟨_, rfl⟩;replace H : (if 0 ≤ (aa) then (if (aa) < (a4.length : Int) then (nat_number_shl.l0 k1 (wrap64 (Int.tdiv a1 64)) (a6) (a7.set ((aa) : Int).toNat (ah)) l0 (l0.length : Int) (wrap64 (a3 + 1))) else (none)) else (none)) = some r := zQ ak H;have hji23w : (IntKind.i64.wrap ((a2) + 1)) = aa := (i64_w _).trans ak;replace H := dn H;obtain ⟨c24, H⟩ := H;have b7 := decide_eq_true c24;clear c24;replace H := dn H;obtain ⟨c25, H⟩ := H;have b8 := decide_eq_true c25;clear c25;obtain ⟨av, ar⟩ : ∃ y_ : List Int, y_ = (a7.set ((aa) : Int).toNat (ah)) := ⟨_, rfl⟩;replace H : (nat_number_shl.l0 k1 (wrap64 (Int.tdiv a1 64)) (a6) av l0 (l0.length : Int) (wrap64 (a3 + 1))) = some r := zR ar H;have aJ := zA ar;clear ar;have H' := zA H;clear H;have p164 : 0 ≤ (a3 : Int) := od;have q164 : a3 < (l0.length : Int) := od;obtain ⟨ad164, e164, a8⟩ := Kd.at_int aM.out a3 p164 q164;cases e164;replace a8 := (HB.out.cell (World.block_lt_of_cell? w _ a8)).trans a8;replace p164 := eq_true p164;replace q164 := eq_true q164
     try go_wp2
     replace a5 := zA (R_drew a5.out);replace HB := zA (below_drew1 HB.out);obtain ⟨b9, aC, aD⟩ := R_slice a5.out
     (first | subst aD | (injection aD with f1_ f2_ f3_; have f4_ := f1_.symm; have f5_ := f3_.symm; clear f1_ f2_ f3_; subst f4_; subst f5_))
     have p165 : 0 ≤ ((a2) : Int) := od;have q165 : (a2) < (a4.length : Int) := od;obtain ⟨ad165, e165, a9⟩ := Kd.at_int (R_reads' a5.out).2.2 (a2) p165 q165;cases e165;replace p165 := eq_true p165;replace q165 := eq_true q165;have p18 : 0 ≤ ((a2) : Int) := od;have q18 : ((a2) : Int) < ((a4.length : Int) : Int) := od;obtain ⟨go18, aU, am, an, gl18, cl18, HG18⟩ := R_form a5.out (by omega)
     (first | cases am | (injection am with ea_ en_ ec_; (first | subst ea_ | (injection ea_ with ea_; subst ea_)); subst ec_; clear en_))
     have GB18 := zA an;have GG18 := zA HG18;clear an gl18 HG18
     (first | simp only [add_plain] at a9 | skip)
     obtain ⟨ao, hf18_0⟩ := R_celln 0 a5.out ((a2) : Int) p18 q18;replace p18 := eq_true p18;replace q18 := eq_true q18;have HP29 := R_putn a5.out ((a2) : Int) (Go.bits .or .u64 (rd a4 (a2)) (ac));rw [← ax.out] at HP29;have HQ29 := zA HP29;clear HP29;refine start_ (n := 12) (S := fun w' => w'.cell? ⟨go18, ((a2)).toNat, none⟩ = some (.int .u64 (rd a4 (a2)))) (ds := [11]) #[false, false, false, false, false, false, false, false, false, false, false, false] (by kernel_rfl) rfl rfl (a9) (fun hHeld => ?_); refine with_tabW nat_number_shl.tab8 nat_number_shl.bits8 (fun HT_ HW_ => ?_);generalize wr.drew = w27 at a5 HB GG18 HQ29 hf18_0 a9 ao hHeld ⊢;refine pure_ (i := 0) (N := some 30) (v := ?_) (a' := ?_) #[true, false, false, false, false, false, false, false, false, false, false, false] rfl rfl (any_of HT_.out (by kernel_rfl)) (fun _ _ _ h => h) (Or.inl ⟨by rfl, ?_⟩) ?_ ?_;rotate_left;·intro w';go_simp;with_reducible rfl
     rotate_left;·exact zq
     refine pure_ (i := 1) (N := some 31) (v := ?_) (a' := ?_) #[true, true, false, false, false, false, false, false, false, false, false, false] rfl rfl (any_of HT_.out (by kernel_rfl)) (fun _ _ _ h => h) (Or.inl ⟨by rfl, ?_⟩) ?_ ?_;rotate_left;·intro w';go_simp;with_reducible rfl
     rotate_left;·exact zq
     refine pure_ (i := 2) (N := some 32) (v := ?_) (a' := ?_) #[true, true, true, false, false, false, false, false, false, false, false, false] rfl rfl (any_of HT_.out (by kernel_rfl)) (fun _ _ _ h => h) (Or.inl ⟨by rfl, ?_⟩) ?_ ?_;rotate_left;·intro w';go_simp;with_reducible rfl
     rotate_left;·exact zq
     refine pure_ (i := 3) (N := some 33) (v := ?_) (a' := ?_) #[true, true, true, true, false, false, false, false, false, false, false, false] rfl rfl (any_of HT_.out (by kernel_rfl)) (fun _ _ _ h => h) (Or.inl ⟨by rfl, ?_⟩) ?_ ?_;rotate_left;·intro w';go_simp;with_reducible rfl
     rotate_left;·exact zq
     refine pure_ (i := 4) (N := some 34) (v := ?_) (a' := ?_) #[true, true, true, true, true, false, false, false, false, false, false, false] rfl rfl (any_of HT_.out (by kernel_rfl)) (fun _ _ _ h => h) (Or.inl ⟨by rfl, ?_⟩) ?_ ?_;rotate_left;·intro w';go_simp;with_reducible rfl
     rotate_left;·exact zq
     refine pure_ (i := 6) (N := some 36) (v := ?_) (a' := ?_) #[true, true, true, true, true, false, true, false, false, false, false, false] rfl rfl (any_of HT_.out (by kernel_rfl)) (fun _ _ _ h => h) (Or.inl ⟨by rfl, ?_⟩) ?_ ?_;rotate_left;·intro w';go_simp;with_reducible rfl
     rotate_left;·exact zq
     refine pure_ (i := 7) (N := some 37) (v := ?_) (a' := ?_) #[true, true, true, true, true, false, true, true, false, false, false, false] rfl rfl (any_of HT_.out (by kernel_rfl)) (fun _ _ _ h => h) (Or.inl ⟨by rfl, ?_⟩) ?_ ?_;rotate_left;·intro w';go_simp;with_reducible rfl
     rotate_left;·exact zq
     refine pure_ (i := 8) (N := some 38) (v := ?_) (a' := ?_) #[true, true, true, true, true, false, true, true, true, false, false, false] rfl rfl (any_of HT_.out (by kernel_rfl)) (fun _ _ _ h => h) (Or.inl ⟨by rfl, ?_⟩) ?_ ?_;rotate_left;·intro w';go_simp;with_reducible rfl
     rotate_left;·exact zq
     refine take_ (i := 5) (N := some 35) (v := ?_) (a' := ?_) #[true, true, true, true, true, true, true, true, true, false, false, false] rfl rfl (take_ofW HT_.out HW_.out (by kernel_rfl)) (fun _ _ _ h => h) (Or.inl ⟨by rfl, ?_⟩) hHeld ?_ ?_;rotate_left;·intro w' s0;go_simp;with_reducible rfl
     rotate_left;·exact zq
     refine pure_ (i := 9) (N := some 39) (v := ?_) (a' := ?_) #[true, true, true, true, true, true, true, true, true, true, false, false] rfl rfl (any_of HT_.out (by kernel_rfl)) (fun _ _ _ h => h) (Or.inl ⟨by rfl, ?_⟩) ?_ ?_;rotate_left;·intro w';go_simp;with_reducible rfl
     rotate_left;·exact zq
     refine pure_ (i := 10) (N := some 40) (v := ?_) (a' := ?_) #[true, true, true, true, true, true, true, true, true, true, true, false] rfl rfl (any_of HT_.out (by kernel_rfl)) (fun _ _ _ h => h) (Or.inl ⟨by rfl, ?_⟩) ?_ ?_;rotate_left;·intro w';go_simp;with_reducible rfl
     rotate_left;·exact zq
     refine last_ (i := 11) (N := none) #[true, true, true, true, true, true, true, true, true, true, true, true] rfl rfl (one_of HT_.out (by kernel_rfl)) (by decide) (fun K hK => ?_);refine skip_ (w1 := ?_) (by rfl) rfl ?_ ?_;rotate_left;·go_simp;rfl
     refine hK.out _ _ ?_;clear hK K;refine done_ (done_of HT_.out (by kernel_rfl)) ?_;have n0_ : Aside0 (Kd.R (Kd.int .u64) 26 (w27.setCell ⟨go18, ((a2) : Int).toNat, none⟩ (.int .u64 (Go.bits .or .u64 (rd a4 (a2)) (ac)))) w.heap.size (fun k_ => (w.heap.size ≤ k_)) (.slice (some ⟨go18, 0, none⟩) a4.length aC) a7) := ⟨ru HQ29.out⟩;have n1_ : Aside0 (Below w.heap.size w (w27.setCell ⟨go18, ((a2) : Int).toNat, none⟩ (.int .u64 (Go.bits .or .u64 (rd a4 (a2)) (ac))))) := ⟨by repeat (first | (with_reducible first | exact HB.out | apply below_alloc | apply pw_below_drewN | apply below_drew1 | refine below_set ?_ GB18.out) | exact HB.out)⟩;(try clear a5);(try clear HB);generalize (w27.setCell ⟨go18, ((a2) : Int).toNat, none⟩ (.int .u64 (Go.bits .or .u64 (rd a4 (a2)) (ac)))) = w30 at n0_ n1_ ⊢;have a5 := n0_;have HB := n1_;clear n0_ n1_;have p26 : 0 ≤ ((aa) : Int) := od;have q26 : ((aa) : Int) < ((a4.length : Int) : Int) := od;obtain ⟨aX, hf26_0⟩ := R_celln 0 a5.out ((aa) : Int) p26 q26;replace p26 := eq_true p26;replace q26 := eq_true q26;obtain ⟨hy31_, hz31_⟩ := R_celln 0 a5.out ((aa) : Int) (od) (od);have HP31 := R_putg a5.out ((aa) : Int) ah
     try go_wp2_with (first | ((with_reducible refine gate_store (t := 26) (p := 52) rfl ?_); refine store_event (t := 26) (p := 52) (v := ?vo_w32) (w1 := (w30.setCell ⟨go18, ((aa) : Int).toNat, none⟩ (.int .u64 ah))) ?hg ?ho ?hn ?hr ?_; (case ho => rfl); (case hg => rfl); (case hn => rfl); (case hr => first | (go_simp; done) | (go_simp; rfl)); intro w32 hw; have hg : w30.grownBy w32 (some go18) := (by rw [hw]; exact HP31.2); have hp_ : Kd.R (Kd.int .u64) 26 w32 w.heap.size (fun k_ => (w.heap.size ≤ k_)) (.slice (some ⟨go18, 0, none⟩) a4.length aC) av := (by rw [hw, aJ.out]; exact HP31.1); clear HP31; replace a5 := zA (hp_); replace HB := zA ((by rw [hw]; exact below_set (HB.out) GB18.out : Below w.heap.size w w32)); clear hg hw hp_))
     (try simp only [← ab, ← ai])
     go_roundg k1
     case measure => have := HK1.out; omega
     case rel => exact ⟨(av), (wrap64 (a3 + 1)), zi, (by first | exact H' | (simp only [af, ae, ab, ad, ai, aj, ak]; exact H') | (simp only [af, ae, ab, ad, ai, aj, ak] at H' ⊢; exact H')), ⟨by have := HK1.out; omega⟩, ⟨ru a5.out⟩, ⟨bq⟩⟩
    rw [if_neg c19] at H;have aI := decide_eq_false c19;clear c19;have H' := zA H;clear H;have p164 : 0 ≤ (a3 : Int) := od;have q164 : a3 < (l0.length : Int) := od;obtain ⟨ad164, e164, a8⟩ := Kd.at_int aM.out a3 p164 q164;cases e164;replace a8 := (HB.out.cell (World.block_lt_of_cell? w _ a8)).trans a8;replace p164 := eq_true p164;replace q164 := eq_true q164
    try go_wp2
    replace a5 := zA (R_drew a5.out);replace HB := zA (below_drew1 HB.out);obtain ⟨ba, bb, aE⟩ := R_slice a5.out
    (first | subst aE | (injection aE with f1_ f2_ f3_; have f4_ := f1_.symm; have f5_ := f3_.symm; clear f1_ f2_ f3_; subst f4_; subst f5_))
    have p165 : 0 ≤ ((a2) : Int) := od;have q165 : (a2) < (a4.length : Int) := od;obtain ⟨ad165, e165, a9⟩ := Kd.at_int (R_reads' a5.out).2.2 (a2) p165 q165;cases e165;replace p165 := eq_true p165;replace q165 := eq_true q165;have p18 : 0 ≤ ((a2) : Int) := od;have q18 : ((a2) : Int) < ((a4.length : Int) : Int) := od;obtain ⟨go18, aU, am, an, gl18, cl18, HG18⟩ := R_form a5.out (by omega)
    (first | cases am | (injection am with ea_ en_ ec_; (first | subst ea_ | (injection ea_ with ea_; subst ea_)); subst ec_; clear en_))
    have GB18 := zA an;have GG18 := zA HG18;clear an gl18 HG18
    (first | simp only [add_plain] at a9 | skip)
    obtain ⟨ao, hf18_0⟩ := R_celln 0 a5.out ((a2) : Int) p18 q18;replace p18 := eq_true p18;replace q18 := eq_true q18;have HP35 := R_putn a5.out ((a2) : Int) (Go.bits .or .u64 (rd a4 (a2)) (ac));rw [← ax.out] at HP35;have HQ35 := zA HP35;clear HP35;refine start_ (n := 12) (S := fun w' => w'.cell? ⟨go18, ((a2)).toNat, none⟩ = some (.int .u64 (rd a4 (a2)))) (ds := [11]) #[false, false, false, false, false, false, false, false, false, false, false, false] (by kernel_rfl) rfl rfl (a9) (fun hHeld => ?_); refine with_tabW nat_number_shl.tab8 nat_number_shl.bits8 (fun HT_ HW_ => ?_);generalize wr.drew = w33 at a5 HB GG18 HQ35 hf18_0 a9 ao hHeld ⊢;refine pure_ (i := 0) (N := some 30) (v := ?_) (a' := ?_) #[true, false, false, false, false, false, false, false, false, false, false, false] rfl rfl (any_of HT_.out (by kernel_rfl)) (fun _ _ _ h => h) (Or.inl ⟨by rfl, ?_⟩) ?_ ?_;rotate_left;·intro w';go_simp;with_reducible rfl
    rotate_left;·exact zq
    refine pure_ (i := 1) (N := some 31) (v := ?_) (a' := ?_) #[true, true, false, false, false, false, false, false, false, false, false, false] rfl rfl (any_of HT_.out (by kernel_rfl)) (fun _ _ _ h => h) (Or.inl ⟨by rfl, ?_⟩) ?_ ?_;rotate_left;·intro w';go_simp;with_reducible rfl
    rotate_left;·exact zq
    refine pure_ (i := 2) (N := some 32) (v := ?_) (a' := ?_) #[true, true, true, false, false, false, false, false, false, false, false, false] rfl rfl (any_of HT_.out (by kernel_rfl)) (fun _ _ _ h => h) (Or.inl ⟨by rfl, ?_⟩) ?_ ?_;rotate_left;·intro w';go_simp;with_reducible rfl
    rotate_left;·exact zq
    refine pure_ (i := 3) (N := some 33) (v := ?_) (a' := ?_) #[true, true, true, true, false, false, false, false, false, false, false, false] rfl rfl (any_of HT_.out (by kernel_rfl)) (fun _ _ _ h => h) (Or.inl ⟨by rfl, ?_⟩) ?_ ?_;rotate_left;·intro w';go_simp;with_reducible rfl
    rotate_left;·exact zq
    refine pure_ (i := 4) (N := some 34) (v := ?_) (a' := ?_) #[true, true, true, true, true, false, false, false, false, false, false, false] rfl rfl (any_of HT_.out (by kernel_rfl)) (fun _ _ _ h => h) (Or.inl ⟨by rfl, ?_⟩) ?_ ?_;rotate_left;·intro w';go_simp;with_reducible rfl
    rotate_left;·exact zq
    refine pure_ (i := 6) (N := some 36) (v := ?_) (a' := ?_) #[true, true, true, true, true, false, true, false, false, false, false, false] rfl rfl (any_of HT_.out (by kernel_rfl)) (fun _ _ _ h => h) (Or.inl ⟨by rfl, ?_⟩) ?_ ?_;rotate_left;·intro w';go_simp;with_reducible rfl
    rotate_left;·exact zq
    refine pure_ (i := 7) (N := some 37) (v := ?_) (a' := ?_) #[true, true, true, true, true, false, true, true, false, false, false, false] rfl rfl (any_of HT_.out (by kernel_rfl)) (fun _ _ _ h => h) (Or.inl ⟨by rfl, ?_⟩) ?_ ?_;rotate_left;·intro w';go_simp;with_reducible rfl
    rotate_left;·exact zq
    refine pure_ (i := 8) (N := some 38) (v := ?_) (a' := ?_) #[true, true, true, true, true, false, true, true, true, false, false, false] rfl rfl (any_of HT_.out (by kernel_rfl)) (fun _ _ _ h => h) (Or.inl ⟨by rfl, ?_⟩) ?_ ?_;rotate_left;·intro w';go_simp;with_reducible rfl
    rotate_left;·exact zq
    refine take_ (i := 5) (N := some 35) (v := ?_) (a' := ?_) #[true, true, true, true, true, true, true, true, true, false, false, false] rfl rfl (take_ofW HT_.out HW_.out (by kernel_rfl)) (fun _ _ _ h => h) (Or.inl ⟨by rfl, ?_⟩) hHeld ?_ ?_;rotate_left;·intro w' s0;go_simp;with_reducible rfl
    rotate_left;·exact zq
    refine pure_ (i := 9) (N := some 39) (v := ?_) (a' := ?_) #[true, true, true, true, true, true, true, true, true, true, false, false] rfl rfl (any_of HT_.out (by kernel_rfl)) (fun _ _ _ h => h) (Or.inl ⟨by rfl, ?_⟩) ?_ ?_;rotate_left;·intro w';go_simp;with_reducible rfl
    rotate_left;·exact zq
    refine pure_ (i := 10) (N := some 40) (v := ?_) (a' := ?_) #[true, true, true, true, true, true, true, true, true, true, true, false] rfl rfl (any_of HT_.out (by kernel_rfl)) (fun _ _ _ h => h) (Or.inl ⟨by rfl, ?_⟩) ?_ ?_;rotate_left;·intro w';go_simp;with_reducible rfl
    rotate_left;·exact zq
    refine last_ (i := 11) (N := none) #[true, true, true, true, true, true, true, true, true, true, true, true] rfl rfl (one_of HT_.out (by kernel_rfl)) (by decide) (fun K hK => ?_);refine skip_ (w1 := ?_) (by rfl) rfl ?_ ?_;rotate_left;·go_simp;rfl
    refine hK.out _ _ ?_;clear hK K;refine done_ (done_of HT_.out (by kernel_rfl)) ?_
    try go_wp2
    (try simp only [← ab])
    go_roundg k1
    case measure => have := HK1.out; omega
    case rel => exact ⟨(a7), (wrap64 (a3 + 1)), zi, (by first | exact H' | (simp only [af, ae, ab, ad]; exact H') | (simp only [af, ae, ab, ad] at H' ⊢; exact H')), ⟨by have := HK1.out; omega⟩, ⟨ru HQ35.out⟩, ⟨by repeat (first | (with_reducible first | exact HB.out | apply below_alloc | apply pw_below_drewN | apply below_drew1 | refine below_set ?_ GB18.out) | exact HB.out)⟩⟩
   rw [if_neg c9] at H;have aT := decide_eq_false c9;clear c9;obtain ⟨aV, aY, H⟩ := zh H;obtain rfl := Option.some.inj H;obtain ⟨aF, aG, aW⟩ := R_slice a5.out;subst aW
   go_wp2_with (first | ((with_reducible refine zG 95 rfl ?_); refine zL (some 55) rfl rfl Tryd.func95 #[.slice aF a4.length aG] rfl ?_; (with_reducible refine (nat_norm.calls k1 (fun k_ => some k_ = (.slice aF a4.length aG : Value).ownBlock) _ _ a4 aV _ ?aK aY.out).mono ?_); (case aK => exact R_V (R_tight rfl (a5.out))); rintro e w38 ⟨v169, rfl, aN, hb⟩; refine ⟨_, rfl, ?_⟩; have aL := zA (V_lower (V_mono (ok' := fun k_ => (w.heap.size ≤ k_)) aN (fun k_ hk_ => Or.elim hk_ (fun hs_ => ((a5.out).1 k_ hs_.symm)) (fun hn_ => (Nat.le_trans (below_size bq) hn_)))) (below_size bq)); replace a5 := zA (R_below (ru a5.out) hb); replace HB := ze hb; (try clear aN)))
   go_ret;exact ⟨_, by first | rfl | (simp [errW_none, errW_some] <;> rfl) | (simp only [← af]; first | rfl | (simp [errW_none, errW_some] <;> rfl)) | (simp [*, errW_none, errW_some] <;> rfl), vu aL.out, bq⟩
def nat_Shl.f (k : Nat) (l0 : List Int) (a1 : Int) : Option (List Int × Int) := (nat_one.f k l0).bind fun a2 => (if a2.2 = 0 then (if a1 < 0 then (some (([] : List Int), 2)) else (if (a2.1.length : Int) = 0 then (some (([] : List Int), 0)) else (if a1 > 65536 then (some (([] : List Int), 3)) else ((nat_number_shl.f k a2.1 a1).bind fun a4 => ((nat_answer.f a4).bind fun a3 => (some (a3.1, a3.2))))))) else (some (([] : List Int), a2.2)))
theorem nat_Shl.mono : ∀ a0 a1 k, LeO (nat_Shl.f k a0 a1) (nat_Shl.f (k + 1) a0 a1) := by
 intro a0 a1 k
 unfold nat_Shl.f
 repeat' first
   | (with_reducible exact nat_number_shl.mono _ _ _)
   | (with_reducible exact nat_one.mono _ _)
   | (with_reducible exact LeO.refl _)
   | (with_reducible exact LeO.none _)
   | (with_reducible refine LeO.ite ?_ ?_)
   | (with_reducible refine LeO.bind ?_ (fun _ => ?_))
   | exact nat_number_shl.mono _ _ _
   | exact nat_one.mono _ _
   | exact LeO.none _
   | refine LeO.ite ?_ ?_
   | refine LeO.bind ?_ (fun _ => ?_)
set_option maxHeartbeats 8000000 in
set_option maxRecDepth 100000 in
theorem nat_Shl.calls (k : Nat) (A0 : Option Addr) (c0 : Nat) (l0 : List Int) (a1 : Int) (r1 : List Int) (r2 : Int) (w : World) (hr0 : Kd.C (Kd.int .u64) w A0 l0.length l0) (hc0 : l0.length ≤ c0) (h : nat_Shl.f k l0 a1 = some (r1, r2)) :
  Calls Tryd.prog 105 #[.slice A0 l0.length c0, .int .i64 a1] w fun e w' => ∃ v0_ : Value, e = .returned (.tuple #[v0_, .int .i64 r2]) ∧ Kd.R (Kd.int .u64) 26 w' w.heap.size (fun _ => True) v0_ r1 ∧ Below w.heap.size w w' := by
 have ab := zA hr0;have ac := zA hc0;clear hr0 hc0;have HB := zA (Below.refl w.heap.size w);have H : ((nat_one.f k l0).bind fun a8 => (if a8.2 = 0 then (if a1 < 0 then (some (([] : List Int), 2)) else (if (a8.1.length : Int) = 0 then (some (([] : List Int), 0)) else (if a1 > 65536 then (some (([] : List Int), 3)) else ((nat_number_shl.f k a8.1 a1).bind fun a9 => ((nat_answer.f a9).bind fun ad => (some (ad.1, ad.2))))))) else (some (([] : List Int), a8.2)))) = some (r1, r2) := h;clear h;obtain ⟨⟨a5, a7⟩, A3, H⟩ := zh H;(try dsimp only at H)
 by_cases c4 : a7 = 0
 ·rw [if_pos c4] at H;have ag := beq_iff_eq.mpr c4;have ah := bne_eq_false_iff_eq.mpr c4;clear c4
  by_cases c5 : a1 < 0
  ·rw [if_pos c5] at H;have ai := decide_eq_true c5;clear c5;simp only [Option.some.injEq, Prod.mk.injEq] at H;obtain ⟨rfl, rfl⟩ := H;go_enter Tryd.func105, Tryd.ntmps105
   go_wp2_with (first | ((with_reducible refine zG 103 rfl ?_); refine zL (some 10) rfl rfl Tryd.func103 #[.slice A0 l0.length c0] rfl ?_; (with_reducible refine (nat_one.calls k (fun k_ => k_ < w.heap.size) _ _ l0 a5 a7 _ ?a2 A3.out).mono ?_); (case a2 => exact V_mk ac.out (Kd.F_below (C_F (Kd.heap_int .u64) ab.out) bq)); rintro e w6 ⟨v172, rfl, a4, hb⟩; refine ⟨_, rfl, ?_⟩; have a3 := zA (V_lower (V_mono (ok' := fun k_ => True) a4 (fun k_ hk_ => trivial)) (below_size bq)); replace HB := ze hb; (try clear a4)))
   go_ret2
   exact ⟨_, er, by first | exact R_nil _ _ _ _ _ | exact Kd.N_nil _ _ _ _ _ | exact V_nil _ _ _ _ _ | exact Kd.Q_nil _ _ _ _ _ | exact Kd.S_nil _ _ _ _ _, bq⟩
  rw [if_neg c5] at H;have ai := decide_eq_false c5;clear c5
  by_cases c7 : (a5.length : Int) = 0
  ·rw [if_pos c7] at H;have aj := beq_iff_eq.mpr c7;have ak := bne_eq_false_iff_eq.mpr c7;clear c7;simp only [Option.some.injEq, Prod.mk.injEq] at H;obtain ⟨rfl, rfl⟩ := H;go_enter Tryd.func105, Tryd.ntmps105
   go_wp2_with (first | ((with_reducible refine zG 103 rfl ?_); refine zL (some 10) rfl rfl Tryd.func103 #[.slice A0 l0.length c0] rfl ?_; (with_reducible refine (nat_one.calls k (fun k_ => k_ < w.heap.size) _ _ l0 a5 a7 _ ?a2 A3.out).mono ?_); (case a2 => exact V_mk ac.out (Kd.F_below (C_F (Kd.heap_int .u64) ab.out) bq)); rintro e w8 ⟨v172, rfl, a4, hb⟩; refine ⟨_, rfl, ?_⟩; have a3 := zA (V_lower (V_mono (ok' := fun k_ => True) a4 (fun k_ hk_ => trivial)) (below_size bq)); replace HB := ze hb; (try clear a4); obtain ⟨aD, aE, aw⟩ := V_slice a3.out; subst aw))
   go_ret2
   exact ⟨_, er, by first | exact R_nil _ _ _ _ _ | exact Kd.N_nil _ _ _ _ _ | exact V_nil _ _ _ _ _ | exact Kd.Q_nil _ _ _ _ _ | exact Kd.S_nil _ _ _ _ _, bq⟩
  rw [if_neg c7] at H;have aj := beq_eq_false_iff_ne.mpr c7;have ak := bne_iff_ne.mpr c7
  have aA : ¬ (a5 = []) := fun h_ => c7 (by rw [h_]; rfl)
  by_cases c10 : a1 > 65536
  ·rw [if_pos c10] at H;have ae := decide_eq_true c10;clear c10;simp only [Option.some.injEq, Prod.mk.injEq] at H;obtain ⟨rfl, rfl⟩ := H;go_enter Tryd.func105, Tryd.ntmps105
   go_wp2_with (first | ((with_reducible refine zG 103 rfl ?_); refine zL (some 10) rfl rfl Tryd.func103 #[.slice A0 l0.length c0] rfl ?_; (with_reducible refine (nat_one.calls k (fun k_ => k_ < w.heap.size) _ _ l0 a5 a7 _ ?a2 A3.out).mono ?_); (case a2 => exact V_mk ac.out (Kd.F_below (C_F (Kd.heap_int .u64) ab.out) bq)); rintro e w11 ⟨v172, rfl, a4, hb⟩; refine ⟨_, rfl, ?_⟩; have a3 := zA (V_lower (V_mono (ok' := fun k_ => True) a4 (fun k_ hk_ => trivial)) (below_size bq)); replace HB := ze hb; (try clear a4); obtain ⟨aB, aC, al⟩ := V_slice a3.out; subst al))
   go_ret2
   exact ⟨_, er, by first | exact R_nil _ _ _ _ _ | exact Kd.N_nil _ _ _ _ _ | exact V_nil _ _ _ _ _ | exact Kd.Q_nil _ _ _ _ _ | exact Kd.S_nil _ _ _ _ _, bq⟩
  rw [if_neg c10] at H;have ae := decide_eq_false c10;clear c10;obtain ⟨a9, ax, H⟩ := zh H;obtain ⟨⟨am, an⟩, ay, H⟩ := zh H;(try dsimp only at H);simp only [Option.some.injEq, Prod.mk.injEq] at H;obtain ⟨rfl, rfl⟩ := H;go_enter Tryd.func105, Tryd.ntmps105
  go_wp2_with (first | ((with_reducible refine zG 103 rfl ?_); refine zL (some 10) rfl rfl Tryd.func103 #[.slice A0 l0.length c0] rfl ?_; (with_reducible refine (nat_one.calls k (fun k_ => k_ < w.heap.size) _ _ l0 a5 a7 _ ?a2 A3.out).mono ?_); (case a2 => exact V_mk ac.out (Kd.F_below (C_F (Kd.heap_int .u64) ab.out) bq)); rintro e w15 ⟨v172, rfl, a4, hb⟩; refine ⟨_, rfl, ?_⟩; have a3 := zA (V_lower (V_mono (ok' := fun k_ => True) a4 (fun k_ hk_ => trivial)) (below_size bq)); replace HB := ze hb; (try clear a4); obtain ⟨ao, ap, aq⟩ := V_slice a3.out; subst aq) | ((with_reducible refine zG 123 rfl ?_); refine zL (some 29) rfl rfl Tryd.func123 #[.slice ao a5.length ap, .int .i64 a1] rfl ?_; (with_reducible refine (nat_number_shl.calls k _ _ a5 a1 a9 _ ?a2 ?aa ax.out).mono ?_); (case a2 => exact zk (V_reads' a3.out).2.2); (case aa => exact (V_reads' a3.out).2.1); rintro e w17 ⟨v176, rfl, a4, hb⟩; refine ⟨_, rfl, ?_⟩; replace a3 := zA (V_below (vu a3.out) hb); have a6 := zA (V_lower (V_mono (ok' := fun k_ => True) a4 (fun k_ hk_ => trivial)) (below_size bq)); replace HB := ze hb; (try clear a4); obtain ⟨ar, au, av⟩ := V_slice a6.out; subst av) | ((with_reducible refine zG 122 rfl ?_); refine zL (some 30) rfl rfl Tryd.func122 #[.slice ar a9.length au] rfl ?_; (with_reducible refine (nat_answer.calls _ _ a9 am an _ ?a2 ?aa ay.out).mono ?_); (case a2 => exact zk (V_reads' a6.out).2.2); (case aa => exact (V_reads' a6.out).2.1); rintro e w19 ⟨v180, rfl, a4, hb⟩; refine ⟨_, rfl, ?_⟩; replace a3 := zA (V_elder' (vu a3.out) (R_base a4) hb); replace a6 := zA (V_elder' (vu a6.out) (R_base a4) hb); have af := zA (R_lower a4 (below_size bq)); replace HB := ze hb; (try clear a4)))
  go_ret2
  exact ⟨_, er, ru af.out, bq⟩
 rw [if_neg c4] at H;have ag := beq_eq_false_iff_ne.mpr c4;have ah := bne_iff_ne.mpr c4;simp only [Option.some.injEq, Prod.mk.injEq] at H;obtain ⟨rfl, rfl⟩ := H;go_enter Tryd.func105, Tryd.ntmps105
 go_wp2_with (first | ((with_reducible refine zG 103 rfl ?_); refine zL (some 10) rfl rfl Tryd.func103 #[.slice A0 l0.length c0] rfl ?_; (with_reducible refine (nat_one.calls k (fun k_ => k_ < w.heap.size) _ _ l0 a5 a7 _ ?a2 A3.out).mono ?_); (case a2 => exact V_mk ac.out (Kd.F_below (C_F (Kd.heap_int .u64) ab.out) bq)); rintro e w20 ⟨v172, rfl, a4, hb⟩; refine ⟨_, rfl, ?_⟩; have a3 := zA (V_lower (V_mono (ok' := fun k_ => True) a4 (fun k_ hk_ => trivial)) (below_size bq)); replace HB := ze hb; (try clear a4)))
 go_ret2
 exact ⟨_, er, by first | exact R_nil _ _ _ _ _ | exact Kd.N_nil _ _ _ _ _ | exact V_nil _ _ _ _ _ | exact Kd.Q_nil _ _ _ _ _ | exact Kd.S_nil _ _ _ _ _, bq⟩
def round_word.f (l0 : List Int) : Option (Int) := if (l0.length : Int) = 0 then (some 0) else (if 0 < (l0.length : Int) then (some (rd l0 0)) else (none))
set_option maxHeartbeats 8000000 in
set_option maxRecDepth 100000 in
theorem round_word.calls (A0 : Option Addr) (c0 : Nat) (l0 : List Int) (r : Int) (w : World) (hr0 : Kd.C (Kd.int .u64) w A0 l0.length l0) (hc0 : l0.length ≤ c0) (h : round_word.f l0 = some r) :
  Calls Tryd.prog 106 #[.slice A0 l0.length c0] w fun e w' => e = .returned (.int .u64 r) ∧ Drawn0 w w' := by
 have a4 := zA hr0;have a8 := zA hc0;clear hr0 hc0;have H : (if (l0.length : Int) = 0 then (some 0) else (if 0 < (l0.length : Int) then (some (rd l0 0)) else (none))) = some r := h;clear h
 by_cases c2 : (l0.length : Int) = 0
 ·rw [if_pos c2] at H;have a2 := beq_iff_eq.mpr c2;have a3 := bne_eq_false_iff_eq.mpr c2;clear c2;obtain rfl := Option.some.inj H;go_enter Tryd.func106, Tryd.ntmps106
  go_wp2
  go_ret;exact ⟨by first | rfl | (simp; done) | (simp [*]; done), by repeat (first | exact Drawn0.refl _ | apply Drawn0.step)⟩
 rw [if_neg c2] at H;have a2 := beq_eq_false_iff_ne.mpr c2;have a3 := bne_iff_ne.mpr c2
 have a5 : ¬ (l0 = []) := fun h_ => c2 (by rw [h_]; rfl)
 replace H := dn H;obtain ⟨c3, H⟩ := H;have a6 := decide_eq_true c3;have a7 : decide (0 < l0.length) = true := decide_eq_true (by omega);clear c3;obtain rfl := Option.some.inj H;have p182 : 0 ≤ (0 : Int) := (by omega);have q182 : 0 < (l0.length : Int) := od;obtain ⟨ad182, e182, a1⟩ := Kd.at_int a4.out 0 p182 q182;cases e182;have qi182 : (0 < l0.length) = True := eq_true (by omega);(try rw [show ((0 : Int)).toNat = 0 from rfl] at a1);(try rw [Addr.add_zero'] at a1);replace p182 := eq_true p182;replace q182 := eq_true q182;go_enter Tryd.func106, Tryd.ntmps106
 go_wp2
 go_ret;exact ⟨by first | rfl | (simp; done) | (simp [*]; done), by repeat (first | exact Drawn0.refl _ | apply Drawn0.step)⟩
end Go.Proofs.YtnjfckadjklmfaaDoor.PAll
