/- Printed functions, merged by a program of this session. -/
import Derived.Test.YtemfckibdojbbaaDoorXDyadSumsP0
import Derived.Test.YtemfckibdojbbaaDoorXDyadSumsP12
import Derived.Test.YtemfckibdojbbaaDoorXDyadSumsP19
import Derived.Laws.StructEq
import Derived.Test.YtemfckibdojbbaaDoorXDyadSumsSh
namespace Go.Proofs.YtemfckibdojbbaaDoor.PAll
open Go.RowKit Go.Proofs.YtemfckibdojbbaaDoorW.PrintWords Go.Proofs.YtemfckibdojbbaaDoorW.PrintLast Go.Proofs.YtemfckibdojbbaaDoorW.PrintMore Go.Proofs.YtemfckibdojbbaaDoorW.PrintWords.Kd
attribute [local go_sem] max2_int min2_int max_two min_two max_three min_three max_four min_four   -- for this text's walks alone
set_option linter.unusedVariables false
set_option linter.unusedSimpArgs false
attribute [local go_sem] ext135 ext136
mutual
def ulpref03_Mul.l0 : Nat → List Int → List Int → List Int → Int → Int → Option (List Int)
 | 0, _, _, _, _, _ => none
 | k + 1, x1, x5, x26, x27, x28 => if x28 < x27 then (if 0 ≤ x28 then (if x28 < (x26.length : Int) then (ulpref03_Mul.l1 k x1 x5 x28 (rd x26 x28) 0 x26 x27 x28 x1 (x1.length : Int) 0) else (none)) else (none)) else ((ulpref03_Norm.f k x5).bind fun t1500 => (some t1500))
def ulpref03_Mul.l1 : Nat → List Int → List Int → Int → Int → Int → List Int → Int → Int → List Int → Int → Int → Option (List Int)
 | 0, _, _, _, _, _, _, _, _, _, _, _ => none
 | k + 1, x1, x5, x6, x7, x8, x26, x27, x28, x33, x34, x35 => if x35 < x34 then (if 0 ≤ x35 then (if x35 < (x33.length : Int) then ((ulpref03_times.f x7 (rd x33 x35)).bind fun bt1506 => (if 0 ≤ (wrap64 (x6 + x35)) then (if (wrap64 (x6 + x35)) < (x5.length : Int) then (if (IntKind.u64.wrap ((rd x5 (wrap64 (x6 + x35))) + bt1506.1)) < bt1506.1 then (if (IntKind.u64.wrap ((IntKind.u64.wrap ((rd x5 (wrap64 (x6 + x35))) + bt1506.1)) + x8)) < x8 then (ulpref03_Mul.l1 k x1 (x5.set ((wrap64 (x6 + x35)) : Int).toNat (IntKind.u64.wrap ((IntKind.u64.wrap ((rd x5 (wrap64 (x6 + x35))) + bt1506.1)) + x8))) x6 x7 (IntKind.u64.wrap ((IntKind.u64.wrap (bt1506.2 + 1)) + 1)) x26 x27 x28 x33 x34 (wrap64 (x35 + 1))) else (ulpref03_Mul.l1 k x1 (x5.set ((wrap64 (x6 + x35)) : Int).toNat (IntKind.u64.wrap ((IntKind.u64.wrap ((rd x5 (wrap64 (x6 + x35))) + bt1506.1)) + x8))) x6 x7 (IntKind.u64.wrap (bt1506.2 + 1)) x26 x27 x28 x33 x34 (wrap64 (x35 + 1)))) else (if (IntKind.u64.wrap ((IntKind.u64.wrap ((rd x5 (wrap64 (x6 + x35))) + bt1506.1)) + x8)) < x8 then (ulpref03_Mul.l1 k x1 (x5.set ((wrap64 (x6 + x35)) : Int).toNat (IntKind.u64.wrap ((IntKind.u64.wrap ((rd x5 (wrap64 (x6 + x35))) + bt1506.1)) + x8))) x6 x7 (IntKind.u64.wrap (bt1506.2 + 1)) x26 x27 x28 x33 x34 (wrap64 (x35 + 1))) else (ulpref03_Mul.l1 k x1 (x5.set ((wrap64 (x6 + x35)) : Int).toNat (IntKind.u64.wrap ((IntKind.u64.wrap ((rd x5 (wrap64 (x6 + x35))) + bt1506.1)) + x8))) x6 x7 bt1506.2 x26 x27 x28 x33 x34 (wrap64 (x35 + 1))))) else (none)) else (none))) else (none)) else (none)) else (if 0 ≤ (wrap64 (x6 + (x1.length : Int))) then (if (wrap64 (x6 + (x1.length : Int))) < (x5.length : Int) then (ulpref03_Mul.l0 k x1 (x5.set ((wrap64 (x6 + (x1.length : Int))) : Int).toNat x8) x26 x27 (wrap64 (x28 + 1))) else (none)) else (none))
end
def ulpref03_Mul.f (k : Nat) (l0 : List Int) (l1 : List Int) : Option (List Int) := (ulpref03_Norm.f k l0).bind fun t1491 => ((ulpref03_Norm.f k l1).bind fun t1494 => (if 0 ≤ (wrap64 ((wrap64 ((t1491.length : Int) + (t1494.length : Int))) + 1)) then (if (wrap64 ((wrap64 ((t1491.length : Int) + (t1494.length : Int))) + 1) : Int).toNat ≤ 35184372088832 then (ulpref03_Mul.l0 k t1494 (List.replicate (wrap64 ((wrap64 ((t1491.length : Int) + (t1494.length : Int))) + 1) : Int).toNat 0) t1491 (t1491.length : Int) 0) else (none)) else (none)))
set_option maxHeartbeats 8000000 in
set_option maxRecDepth 100000 in
theorem ulpref03_Mul.calls (k : Nat) (A0 : Option Addr) (c0 : Nat) (l0 : List Int) (A1 : Option Addr) (c1 : Nat) (l1 : List Int) (r : List Int) (w : World) (hr0 : Kd.C (Kd.int .u64) w A0 l0.length l0) (hc0 : l0.length ≤ c0) (hr1 : Kd.C (Kd.int .u64) w A1 l1.length l1) (hc1 : l1.length ≤ c1) (h : ulpref03_Mul.f k l0 l1 = some r) :
  Calls Tryd.prog 132 #[.slice A0 l0.length c0, .slice A1 l1.length c1] w fun e w' => ∃ v0_ : Value, e = .returned (v0_) ∧ Kd.R (Kd.int .u64) 43 w' w.heap.size (fun _ => True) v0_ r ∧ Below w.heap.size w w' := by
 have HR0 := zA hr0
 have HC0 := zA hc0
 clear hr0 hc0
 have HR1 := zA hr1
 have HC1 := zA hc1
 clear hr1 hc1
 have HB := zA (Below.refl w.heap.size w)
 have H : ((ulpref03_Norm.f k l0).bind fun t1491 => ((ulpref03_Norm.f k l1).bind fun t1494 => (if 0 ≤ (wrap64 ((wrap64 ((t1491.length : Int) + (t1494.length : Int))) + 1)) then (if (wrap64 ((wrap64 ((t1491.length : Int) + (t1494.length : Int))) + 1) : Int).toNat ≤ 35184372088832 then (ulpref03_Mul.l0 k t1494 (List.replicate (wrap64 ((wrap64 ((t1491.length : Int) + (t1494.length : Int))) + 1) : Int).toNat 0) t1491 (t1491.length : Int) 0) else (none)) else (none)))) = some r := h
 clear h
 obtain ⟨t1491, A3, H⟩ := zh H
 obtain ⟨t1494, A4, H⟩ := zh H
 obtain ⟨ji5, hji5⟩ : ∃ j_ : Int, (wrap64 ((wrap64 ((t1491.length : Int) + (t1494.length : Int))) + 1)) = j_ := ⟨_, rfl⟩
 replace H : (if 0 ≤ (ji5) then (if (ji5 : Int).toNat ≤ 35184372088832 then (ulpref03_Mul.l0 k t1494 (List.replicate (ji5 : Int).toNat 0) t1491 (t1491.length : Int) 0) else (none)) else (none)) = some r := zQ hji5 H
 (try rw [hji5] at A3)
 (try rw [hji5] at A4)
 have hji5w : (IntKind.i64.wrap ((wrap64 ((t1491.length : Int) + (t1494.length : Int))) + 1)) = ji5 := (i64_w _).trans hji5
 replace H := dn H
 obtain ⟨c6, H⟩ := H
 have c6b0 := eq_true c6
 have c6b1 := decide_eq_true c6
 clear c6
 replace H := dn H
 obtain ⟨c7, H⟩ := H
 have c7b0 := eq_true c7
 have c7b1 := decide_eq_true c7
 clear c7
 obtain ⟨y1497, hy1497⟩ : ∃ y_ : List Int, y_ = (List.replicate (ji5 : Int).toNat 0) := ⟨_, rfl⟩
 replace H : (ulpref03_Mul.l0 k t1494 y1497 t1491 (t1491.length : Int) 0) = some r := zR hy1497 H
 have Ny1497 := zA hy1497
 clear hy1497
 have H' := zA H
 clear H
 go_enter Tryd.func132, Tryd.ntmps132
 go_wp2_with (first | ((with_reducible refine zG 74 rfl ?_); refine zL (some 16) rfl rfl Tryd.func74 #[.slice A0 l0.length c0] rfl ?_; (with_reducible refine (ulpref03_Norm.calls k _ _ l0 t1491 _ ?side1 ?side2 A3.out).mono ?_); (case side1 => exact zk HR0.out); (case side2 => exact HC0.out); rintro e w8 ⟨v1492, rfl, ho0, hb⟩; refine ⟨_, rfl, ?_⟩; have HO1493 := zA (R_lower ho0 (below_size bq)); replace HB := ze hb; (try clear ho0)) | ((with_reducible refine zG 74 rfl ?_); refine zL (some 18) rfl rfl Tryd.func74 #[.slice A1 l1.length c1] rfl ?_; (with_reducible refine (ulpref03_Norm.calls k _ _ l1 t1494 _ ?side1 ?side2 A4.out).mono ?_); (case side1 => exact zk (C_below HR1.out HB.out)); (case side2 => exact HC1.out); rintro e w9 ⟨v1495, rfl, ho0, hb⟩; refine ⟨_, rfl, ?_⟩; have HO1496 := zA (R_lower (R_new' ho0 (R_lt (ru HO1493.out))) (below_size bq)); replace HO1493 := zA (R_elder' (ru HO1493.out) (R_base ho0) hb); replace HB := ze hb; (try clear ho0); obtain ⟨Ao10, co10, eo10⟩ := R_slice HO1493.out; subst eo10; obtain ⟨Ao11, co11, eo11⟩ := R_slice HO1496.out; subst eo11) | ((with_reducible refine zD 25 rfl ?_); refine R_make (Kd.int .u64) _ 43 rfl (N := 25) rfl 23 _ _ rfl ji5 rfl rfl Tryd.underlying23 (.int .u64 0) 8 info43 rfl (by decide) (by omega) 0 (ok := fun _ => True) (okp := fun _ => True) rfl (fun _ hk => hk) trivial (od) (Nat.le_trans (Nat.mul_le_mul_right _ (od : ji5.toNat ≤ 35184372088832)) (by omega)) (Below.refl _ _) (Nat.le_refl _) ?_; intro v1498 w12 ho13 hb hg_ hnew_; clear hg_ hnew_; (first | rw [← Ny1497.out] at ho13 | (simp only [Int.reduceToNat] at ho13; rw [← Ny1497.out] at ho13)); have HO1499 := zA (R_lower (R_new' (R_new' ho13 (R_lt (ru HO1493.out))) (R_lt (ru HO1496.out))) (below_size bq)); replace HO1493 := zA (R_elder' (ru HO1493.out) (R_base ho13) hb); replace HO1496 := zA (R_elder' (ru HO1496.out) (R_base ho13) hb); replace HB := ze hb; clear hb ho13))
 go_loopg [28] k (fun kq v28 w' => ∃ (x5_1 : List Int) (x28_1 : Int), v28 = .int .i64 x28_1 ∧ Aside0 (ulpref03_Mul.l0 kq t1494 x5_1 t1491 (t1491.length : Int) x28_1 = some r) ∧ Aside0 (kq ≤ k) ∧ Aside0 (Kd.R (Kd.int .u64) 43 w' w.heap.size (fun k_ => some k_ ≠ (v1498 : Value).ownBlock ∧ some k_ ≠ ((.slice Ao10 t1491.length co10) : Value).ownBlock) (.slice Ao11 t1494.length co11) t1494) ∧ Aside0 (Kd.R (Kd.int .u64) 43 w' w.heap.size (fun k_ => some k_ ≠ ((.slice Ao11 t1494.length co11) : Value).ownBlock ∧ some k_ ≠ ((.slice Ao10 t1491.length co10) : Value).ownBlock) v1498 x5_1) ∧ Aside0 (Kd.R (Kd.int .u64) 43 w' w.heap.size (fun k_ => some k_ ≠ ((.slice Ao11 t1494.length co11) : Value).ownBlock ∧ some k_ ≠ (v1498 : Value).ownBlock) (.slice Ao10 t1491.length co10) t1491) ∧ Aside0 (Below w.heap.size w w'))
 case atStart => exact ⟨(y1497), (0), zi, H', ⟨Nat.le_refl _⟩, ⟨by (with_reducible repeat (first | apply R_alloc | apply R_drewN | apply R_drew)); (first | exact R_mono HO1496.out (fun _ hk => ⟨hk.2, hk.1.2⟩) | exact HO1496.out | exact R_mono HO1496.out (fun _ hk => zo hk))⟩, ⟨by (with_reducible repeat (first | apply R_alloc | apply R_drewN | apply R_drew)); (first | exact R_mono HO1499.out (fun _ hk => ⟨hk.2, hk.1.2⟩) | exact HO1499.out | exact R_mono HO1499.out (fun _ hk => zo hk))⟩, ⟨by (with_reducible repeat (first | apply R_alloc | apply R_drewN | apply R_drew)); (first | exact R_mono HO1493.out (fun _ hk => ⟨hk.1.2, hk.2⟩) | exact HO1493.out | exact R_mono HO1493.out (fun _ hk => zo hk))⟩, ⟨bq⟩⟩
 case round =>
  clear H'
  try clear c1
  try clear c6
  try clear c6b0
  try clear c6b1
  try clear c7
  try clear c7b0
  try clear c7b1
  obtain ⟨x5_1, x28_1, rfl, HA, HK1, HO_1, HO_5, HO_26, HB⟩ := hrel
  cases gk with
  | zero => exact absurd HA.out (by simp [ulpref03_Mul.l0])
  | succ k1 =>
   have H := HA.out
   clear HA
   simp only [ulpref03_Mul.l0] at H
   by_cases c14 : x28_1 < (t1491.length : Int)
   ·rw [if_pos c14] at H
    have c14b0 := decide_eq_true c14
    clear c14
    replace H := dn H
    obtain ⟨c15, H⟩ := H
    have c15b0 := decide_eq_true c15
    clear c15
    replace H := dn H
    obtain ⟨c16, H⟩ := H
    have c16b0 := decide_eq_true c16
    clear c16
    have H' := zA H
    clear H
    have p1503 : 0 ≤ (x28_1 : Int) := od
    have q1503 : x28_1 < (t1491.length : Int) := od
    obtain ⟨ad1503, e1503, hx1503_0⟩ := Kd.at_int (R_reads' HO_26.out).2.2 x28_1 p1503 q1503
    cases e1503
    replace p1503 := eq_true p1503
    replace q1503 := eq_true q1503
    go_wp2
    go_loopg [8, 35] k1 (fun kq v8 v35 w' => ∃ (x5_2 : List Int) (x8_2 : Int) (x35_2 : Int), v8 = .int .u64 x8_2 ∧ v35 = .int .i64 x35_2 ∧ Aside0 (ulpref03_Mul.l1 kq t1494 x5_2 x28_1 (rd t1491 x28_1) x8_2 t1491 (t1491.length : Int) x28_1 t1494 (t1494.length : Int) x35_2 = some r) ∧ Aside0 (kq ≤ k1) ∧ Aside0 (Kd.R (Kd.int .u64) 43 w' w.heap.size (fun k_ => some k_ ≠ (v1498 : Value).ownBlock ∧ some k_ ≠ ((.slice (some ad1503) t1491.length co10) : Value).ownBlock) (.slice Ao11 t1494.length co11) t1494) ∧ Aside0 (Kd.R (Kd.int .u64) 43 w' w.heap.size (fun k_ => some k_ ≠ ((.slice Ao11 t1494.length co11) : Value).ownBlock ∧ some k_ ≠ ((.slice (some ad1503) t1491.length co10) : Value).ownBlock ∧ some k_ ≠ ((.slice Ao11 t1494.length co11) : Value).ownBlock) v1498 x5_2) ∧ Aside0 (Kd.R (Kd.int .u64) 43 w' w.heap.size (fun k_ => some k_ ≠ ((.slice Ao11 t1494.length co11) : Value).ownBlock ∧ some k_ ≠ (v1498 : Value).ownBlock ∧ some k_ ≠ ((.slice Ao11 t1494.length co11) : Value).ownBlock) (.slice (some ad1503) t1491.length co10) t1491) ∧ Aside0 (Kd.R (Kd.int .u64) 43 w' w.heap.size (fun k_ => some k_ ≠ (v1498 : Value).ownBlock ∧ some k_ ≠ ((.slice (some ad1503) t1491.length co10) : Value).ownBlock) (.slice Ao11 t1494.length co11) t1494) ∧ Aside0 (Below w.heap.size w w'))
    case atStart => exact ⟨(x5_1), (0), (0), zi, zi, H', ⟨Nat.le_refl _⟩, ⟨ru HO_1.out⟩, ⟨by (with_reducible repeat (first | apply R_alloc | apply R_drewN | apply R_drew)); (first | exact R_mono HO_5.out (fun _ hk => ⟨hk.1, ⟨hk.2, hk.1⟩⟩) | exact HO_5.out | exact R_mono HO_5.out (fun _ hk => zo hk))⟩, ⟨by (with_reducible repeat (first | apply R_alloc | apply R_drewN | apply R_drew)); (first | exact R_mono HO_26.out (fun _ hk => ⟨hk.1, ⟨hk.2, hk.1⟩⟩) | exact HO_26.out | exact R_mono HO_26.out (fun _ hk => zo hk))⟩, ⟨ru HO_1.out⟩, ⟨bq⟩⟩
    case round =>
     clear H'
     try clear c1
     try clear c6
     try clear c6b0
     try clear c6b1
     try clear c7
     try clear c7b0
     try clear c7b1
     try clear c14
     try clear c14b0
     try clear c15
     try clear c15b0
     try clear c16
     try clear c16b0
     try clear hx1503_0
     try clear p1503
     try clear q1503
     obtain ⟨x5_2, x8_2, x35_2, rfl, rfl, HA, HK2, HO_1, HO_5, HO_26, HO_33, HB⟩ := hrel
     cases gk with
     | zero => exact absurd HA.out (by simp [ulpref03_Mul.l1])
     | succ k2 =>
      have H := HA.out
      clear HA
      simp only [ulpref03_Mul.l1] at H
      by_cases c17 : x35_2 < (t1494.length : Int)
      ·rw [if_pos c17] at H
       have c17b0 := decide_eq_true c17
       clear c17
       replace H := dn H
       obtain ⟨c18, H⟩ := H
       have c18b0 := decide_eq_true c18
       clear c18
       replace H := dn H
       obtain ⟨c19, H⟩ := H
       have c19b0 := decide_eq_true c19
       clear c19
       obtain ⟨⟨t1506, t1507⟩, A20, H⟩ := zh H
       (try dsimp only at H)
       obtain ⟨ji21, hji21⟩ : ∃ j_ : Int, (wrap64 (x28_1 + x35_2)) = j_ := ⟨_, rfl⟩
       replace H : (if 0 ≤ (ji21) then (if (ji21) < (x5_2.length : Int) then (if (IntKind.u64.wrap ((rd x5_2 (ji21)) + t1506)) < t1506 then (if (IntKind.u64.wrap ((IntKind.u64.wrap ((rd x5_2 (ji21)) + t1506)) + x8_2)) < x8_2 then (ulpref03_Mul.l1 k2 t1494 (x5_2.set ((ji21) : Int).toNat (IntKind.u64.wrap ((IntKind.u64.wrap ((rd x5_2 (ji21)) + t1506)) + x8_2))) x28_1 (rd t1491 x28_1) (IntKind.u64.wrap ((IntKind.u64.wrap (t1507 + 1)) + 1)) t1491 (t1491.length : Int) x28_1 t1494 (t1494.length : Int) (wrap64 (x35_2 + 1))) else (ulpref03_Mul.l1 k2 t1494 (x5_2.set ((ji21) : Int).toNat (IntKind.u64.wrap ((IntKind.u64.wrap ((rd x5_2 (ji21)) + t1506)) + x8_2))) x28_1 (rd t1491 x28_1) (IntKind.u64.wrap (t1507 + 1)) t1491 (t1491.length : Int) x28_1 t1494 (t1494.length : Int) (wrap64 (x35_2 + 1)))) else (if (IntKind.u64.wrap ((IntKind.u64.wrap ((rd x5_2 (ji21)) + t1506)) + x8_2)) < x8_2 then (ulpref03_Mul.l1 k2 t1494 (x5_2.set ((ji21) : Int).toNat (IntKind.u64.wrap ((IntKind.u64.wrap ((rd x5_2 (ji21)) + t1506)) + x8_2))) x28_1 (rd t1491 x28_1) (IntKind.u64.wrap (t1507 + 1)) t1491 (t1491.length : Int) x28_1 t1494 (t1494.length : Int) (wrap64 (x35_2 + 1))) else (ulpref03_Mul.l1 k2 t1494 (x5_2.set ((ji21) : Int).toNat (IntKind.u64.wrap ((IntKind.u64.wrap ((rd x5_2 (ji21)) + t1506)) + x8_2))) x28_1 (rd t1491 x28_1) t1507 t1491 (t1491.length : Int) x28_1 t1494 (t1494.length : Int) (wrap64 (x35_2 + 1))))) else (none)) else (none)) = some r := zQ hji21 H
       (try rw [hji21] at A20)
       have hji21w : (IntKind.i64.wrap (x28_1 + x35_2)) = ji21 := (i64_w _).trans hji21
       replace H := dn H
       obtain ⟨c22, H⟩ := H
       have c22b0 := decide_eq_true c22
       clear c22
       replace H := dn H
       obtain ⟨c23, H⟩ := H
       have c23b0 := decide_eq_true c23
       clear c23
       by_cases c24 : (IntKind.u64.wrap ((rd x5_2 (ji21)) + t1506)) < t1506
       ·rw [if_pos c24] at H
        have c24b0 : decide ((IntKind.u64.wrap ((rd x5_2 (ji21)) + t1506)) < t1506) = true := decide_eq_true c24
        clear c24
        by_cases c25 : (IntKind.u64.wrap ((IntKind.u64.wrap ((rd x5_2 (ji21)) + t1506)) + x8_2)) < x8_2
        ·rw [if_pos c25] at H
         have c25b0 : decide ((IntKind.u64.wrap ((IntKind.u64.wrap ((rd x5_2 (ji21)) + t1506)) + x8_2)) < x8_2) = true := decide_eq_true c25
         clear c25
         obtain ⟨y1509, hy1509⟩ : ∃ y_ : List Int, y_ = (x5_2.set ((ji21) : Int).toNat (IntKind.u64.wrap ((IntKind.u64.wrap ((rd x5_2 (ji21)) + t1506)) + x8_2))) := ⟨_, rfl⟩
         replace H : (ulpref03_Mul.l1 k2 t1494 y1509 x28_1 (rd t1491 x28_1) (IntKind.u64.wrap ((IntKind.u64.wrap (t1507 + 1)) + 1)) t1491 (t1491.length : Int) x28_1 t1494 (t1494.length : Int) (wrap64 (x35_2 + 1))) = some r := zR hy1509 H
         have Ny1509 := zA hy1509
         clear hy1509
         have H' := zA H
         clear H
         have p1505 : 0 ≤ (x35_2 : Int) := od
         have q1505 : x35_2 < (t1494.length : Int) := od
         obtain ⟨ad1505, e1505, hx1505_0⟩ := Kd.at_int (R_reads' HO_33.out).2.2 x35_2 p1505 q1505
         cases e1505
         replace p1505 := eq_true p1505
         replace q1505 := eq_true q1505
         go_wp2_with (first | ((with_reducible refine zG 141 rfl ?_); refine zL (some 43) rfl rfl Tryd.func141 #[.int .u64 (rd t1491 x28_1), .int .u64 (rd t1494 x35_2)] rfl ?_; (with_reducible refine (ulpref03_times.calls (rd t1491 x28_1) (rd t1494 x35_2) t1506 t1507 _ A20.out).mono ?_); rintro e w' ⟨rfl, ⟨nd, rfl⟩⟩; refine ⟨_, rfl, ?_⟩; (try (rw [drewN_self wr]; generalize hq_ : World.drewN wr _ = wr; have n0_ : Aside0 (Kd.R (Kd.int .u64) 43 wr w.heap.size (fun k_ => some k_ ≠ (.slice (some ad1503) t1491.length co10 : Value).ownBlock ∧ some k_ ≠ (v1498 : Value).ownBlock) (.slice (some ad1505) t1494.length co11) t1494) := ⟨by rw [← hq_]; exact (by (with_reducible repeat (first | apply R_alloc | apply R_drewN | apply R_drew)); (first | exact R_mono HO_1.out (fun _ hk => ⟨hk.2, hk.1⟩) | exact HO_1.out | exact R_mono HO_1.out (fun _ hk => zo hk)))⟩; have n1_ : Aside0 (Kd.R (Kd.int .u64) 43 wr w.heap.size (fun k_ => some k_ ≠ (.slice (some ad1505) t1494.length co11 : Value).ownBlock ∧ some k_ ≠ (.slice (some ad1505) t1494.length co11 : Value).ownBlock ∧ some k_ ≠ (v1498 : Value).ownBlock) (.slice (some ad1503) t1491.length co10) t1491) := ⟨by rw [← hq_]; exact (by (with_reducible repeat (first | apply R_alloc | apply R_drewN | apply R_drew)); (first | exact R_mono HO_26.out (fun _ hk => ⟨hk.1, ⟨hk.2.2, hk.2.1⟩⟩) | exact HO_26.out | exact R_mono HO_26.out (fun _ hk => zo hk)))⟩; have n2_ : Aside0 (Kd.R (Kd.int .u64) 43 wr w.heap.size (fun k_ => some k_ ≠ (.slice (some ad1503) t1491.length co10 : Value).ownBlock ∧ some k_ ≠ (v1498 : Value).ownBlock) (.slice (some ad1505) t1494.length co11) t1494) := ⟨by rw [← hq_]; exact (by (with_reducible repeat (first | apply R_alloc | apply R_drewN | apply R_drew)); (first | exact R_mono HO_33.out (fun _ hk => ⟨hk.2, hk.1⟩) | exact HO_33.out | exact R_mono HO_33.out (fun _ hk => zo hk)))⟩; have n3_ : Aside0 (Kd.R (Kd.int .u64) 43 wr w.heap.size (fun k_ => some k_ ≠ (.slice (some ad1505) t1494.length co11 : Value).ownBlock ∧ some k_ ≠ (.slice (some ad1503) t1491.length co10 : Value).ownBlock ∧ some k_ ≠ (.slice (some ad1505) t1494.length co11 : Value).ownBlock) v1498 x5_2) := ⟨by rw [← hq_]; exact (ru HO_5.out)⟩; have n4_ : Aside0 (Below w.heap.size w wr) := ⟨by rw [← hq_]; exact bq⟩; clear HO_1 HO_26 HO_33 HO_5 HB hq_; have HO_1 := n0_; have HO_26 := n1_; have HO_33 := n2_; have HO_5 := n3_; have HB := n4_; clear n0_ n1_ n2_ n3_ n4_)); obtain ⟨Ao27, co27, eo27⟩ := R_slice HO_5.out; subst eo27; have p1508 : 0 ≤ ((ji21) : Int) := od; have q1508 : (ji21) < (x5_2.length : Int) := od; obtain ⟨ad1508, e1508, hx1508_0⟩ := Kd.at_int (R_reads' HO_5.out).2.2 (ji21) p1508 q1508; cases e1508; replace p1508 := eq_true p1508; replace q1508 := eq_true q1508; have p26 : 0 ≤ ((ji21) : Int) := od; have q26 : ((ji21) : Int) < ((x5_2.length : Int) : Int) := od; obtain ⟨go26, co26, eo26, gb26, gl26, cl26, HG26⟩ := R_form HO_5.out (by omega); (first | cases eo26 | (injection eo26 with ea_ en_ ec_; (first | subst ea_ | (injection ea_ with ea_; subst ea_)); subst ec_; clear en_)); have GB26 := zA gb26; have GG26 := zA HG26; clear gb26 gl26 HG26; (first | simp only [add_plain] at hx1508_0 | skip); obtain ⟨hx26_0, hf26_0⟩ := R_celln 0 HO_5.out ((ji21) : Int) p26 q26; replace p26 := eq_true p26; replace q26 := eq_true q26; obtain ⟨hy28_, hz28_⟩ := R_celln 0 HO_5.out ((ji21) : Int) (od) (od); have HP28 := R_putg HO_5.out ((ji21) : Int) (IntKind.u64.wrap ((IntKind.u64.wrap ((rd x5_2 (ji21)) + t1506)) + x8_2))) | ((with_reducible refine gate_store (t := 43) (p := 72) rfl ?_); refine store_event (t := 43) (p := 72) (v := ?vo_w29) (w1 := (wr.setCell ⟨go26, ((ji21) : Int).toNat, none⟩ (.int .u64 (IntKind.u64.wrap ((IntKind.u64.wrap ((rd x5_2 (ji21)) + t1506)) + x8_2))))) ?hg ?ho ?hn ?hr ?_; (case ho => rfl); (case hg => rfl); (case hn => rfl); (case hr => first | (go_simp; done) | (go_simp; rfl)); intro w29 hw; have hg : wr.grownBy w29 (some go26) := (by rw [hw]; exact HP28.2); have hp_ : Kd.R (Kd.int .u64) 43 w29 w.heap.size (fun k_ => some k_ ≠ (.slice (some ad1505) t1494.length co11 : Value).ownBlock ∧ some k_ ≠ (.slice (some ad1503) t1491.length co10 : Value).ownBlock ∧ some k_ ≠ (.slice (some ad1505) t1494.length co11 : Value).ownBlock) (.slice (some ⟨go26, 0, none⟩) x5_2.length co27) y1509 := (by rw [hw, Ny1509.out]; exact HP28.1); clear HP28; replace HO_1 := zA (R_after (v := (.slice (some ⟨go26, 0, none⟩) x5_2.length co27)) (v1 := (.slice (some ⟨go26, 0, none⟩) x5_2.length co27)) (ok := (fun k_ => some k_ ≠ (.slice (some ad1503) t1491.length co10 : Value).ownBlock)) (by (with_reducible repeat (first | apply R_alloc | apply R_drewN | apply R_drew)); (first | exact R_mono HO_1.out (fun _ hk => ⟨hk.2, hk.1⟩) | exact HO_1.out | exact R_mono HO_1.out (fun _ hk => zo hk))) hg (.inl rfl)); replace HO_5 := zA (hp_); replace HO_26 := zA (R_after (v := (.slice (some ⟨go26, 0, none⟩) x5_2.length co27)) (v1 := (.slice (some ⟨go26, 0, none⟩) x5_2.length co27)) (ok := (fun k_ => some k_ ≠ (.slice (some ad1505) t1494.length co11 : Value).ownBlock ∧ some k_ ≠ (.slice (some ad1505) t1494.length co11 : Value).ownBlock)) (by (with_reducible repeat (first | apply R_alloc | apply R_drewN | apply R_drew)); (first | exact R_mono HO_26.out (fun _ hk => ⟨⟨hk.1, hk.2.2⟩, hk.2.1⟩) | exact HO_26.out | exact R_mono HO_26.out (fun _ hk => zo hk))) hg (.inl rfl)); replace HO_33 := zA (R_after (v := (.slice (some ⟨go26, 0, none⟩) x5_2.length co27)) (v1 := (.slice (some ⟨go26, 0, none⟩) x5_2.length co27)) (ok := (fun k_ => some k_ ≠ (.slice (some ad1503) t1491.length co10 : Value).ownBlock)) (by (with_reducible repeat (first | apply R_alloc | apply R_drewN | apply R_drew)); (first | exact R_mono HO_33.out (fun _ hk => ⟨hk.2, hk.1⟩) | exact HO_33.out | exact R_mono HO_33.out (fun _ hk => zo hk))) hg (.inl rfl)); replace HB := zA ((by rw [hw]; exact below_set (HB.out) GB26.out : Below w.heap.size w w29)); clear hg hw hp_))
         go_roundg k2
         case measure => have := HK1.out; have := HK2.out; omega
         case rel => exact ⟨(y1509), (IntKind.u64.wrap ((IntKind.u64.wrap (t1507 + 1)) + 1)), (wrap64 (x35_2 + 1)), zi, zi, (by first | exact H' | (simp only [hji5, hji21]; exact H') | (simp only [hji5, hji21] at H' ⊢; exact H')), ⟨by have := HK1.out; have := HK2.out; omega⟩, ⟨by (with_reducible repeat (first | apply R_alloc | apply R_drewN | apply R_drew)); (first | exact R_mono HO_1.out (fun _ hk => ⟨hk.2, hk.1⟩) | exact HO_1.out | exact R_mono HO_1.out (fun _ hk => zo hk))⟩, ⟨ru HO_5.out⟩, ⟨by (with_reducible repeat (first | apply R_alloc | apply R_drewN | apply R_drew)); (first | exact R_mono HO_26.out (fun _ hk => ⟨hk.1.1, ⟨hk.2, hk.1.2⟩⟩) | exact HO_26.out | exact R_mono HO_26.out (fun _ hk => zo hk))⟩, ⟨by (with_reducible repeat (first | apply R_alloc | apply R_drewN | apply R_drew)); (first | exact R_mono HO_33.out (fun _ hk => ⟨hk.2, hk.1⟩) | exact HO_33.out | exact R_mono HO_33.out (fun _ hk => zo hk))⟩, ⟨bq⟩⟩
        rw [if_neg c25] at H
        have c25b0 : decide ((IntKind.u64.wrap ((IntKind.u64.wrap ((rd x5_2 (ji21)) + t1506)) + x8_2)) < x8_2) = false := decide_eq_false c25
        clear c25
        obtain ⟨y1510, hy1510⟩ : ∃ y_ : List Int, y_ = (x5_2.set ((ji21) : Int).toNat (IntKind.u64.wrap ((IntKind.u64.wrap ((rd x5_2 (ji21)) + t1506)) + x8_2))) := ⟨_, rfl⟩
        replace H : (ulpref03_Mul.l1 k2 t1494 y1510 x28_1 (rd t1491 x28_1) (IntKind.u64.wrap (t1507 + 1)) t1491 (t1491.length : Int) x28_1 t1494 (t1494.length : Int) (wrap64 (x35_2 + 1))) = some r := zR hy1510 H
        have Ny1510 := zA hy1510
        clear hy1510
        have H' := zA H
        clear H
        have p1505 : 0 ≤ (x35_2 : Int) := od
        have q1505 : x35_2 < (t1494.length : Int) := od
        obtain ⟨ad1505, e1505, hx1505_0⟩ := Kd.at_int (R_reads' HO_33.out).2.2 x35_2 p1505 q1505
        cases e1505
        replace p1505 := eq_true p1505
        replace q1505 := eq_true q1505
        go_wp2_with (first | ((with_reducible refine zG 141 rfl ?_); refine zL (some 43) rfl rfl Tryd.func141 #[.int .u64 (rd t1491 x28_1), .int .u64 (rd t1494 x35_2)] rfl ?_; (with_reducible refine (ulpref03_times.calls (rd t1491 x28_1) (rd t1494 x35_2) t1506 t1507 _ A20.out).mono ?_); rintro e w' ⟨rfl, ⟨nd, rfl⟩⟩; refine ⟨_, rfl, ?_⟩; (try (rw [drewN_self wr]; generalize hq_ : World.drewN wr _ = wr; have n0_ : Aside0 (Kd.R (Kd.int .u64) 43 wr w.heap.size (fun k_ => some k_ ≠ (.slice (some ad1503) t1491.length co10 : Value).ownBlock ∧ some k_ ≠ (v1498 : Value).ownBlock) (.slice (some ad1505) t1494.length co11) t1494) := ⟨by rw [← hq_]; exact (by (with_reducible repeat (first | apply R_alloc | apply R_drewN | apply R_drew)); (first | exact R_mono HO_1.out (fun _ hk => ⟨hk.2, hk.1⟩) | exact HO_1.out | exact R_mono HO_1.out (fun _ hk => zo hk)))⟩; have n1_ : Aside0 (Kd.R (Kd.int .u64) 43 wr w.heap.size (fun k_ => some k_ ≠ (.slice (some ad1505) t1494.length co11 : Value).ownBlock ∧ some k_ ≠ (.slice (some ad1505) t1494.length co11 : Value).ownBlock ∧ some k_ ≠ (v1498 : Value).ownBlock) (.slice (some ad1503) t1491.length co10) t1491) := ⟨by rw [← hq_]; exact (by (with_reducible repeat (first | apply R_alloc | apply R_drewN | apply R_drew)); (first | exact R_mono HO_26.out (fun _ hk => ⟨hk.1, ⟨hk.2.2, hk.2.1⟩⟩) | exact HO_26.out | exact R_mono HO_26.out (fun _ hk => zo hk)))⟩; have n2_ : Aside0 (Kd.R (Kd.int .u64) 43 wr w.heap.size (fun k_ => some k_ ≠ (.slice (some ad1503) t1491.length co10 : Value).ownBlock ∧ some k_ ≠ (v1498 : Value).ownBlock) (.slice (some ad1505) t1494.length co11) t1494) := ⟨by rw [← hq_]; exact (by (with_reducible repeat (first | apply R_alloc | apply R_drewN | apply R_drew)); (first | exact R_mono HO_33.out (fun _ hk => ⟨hk.2, hk.1⟩) | exact HO_33.out | exact R_mono HO_33.out (fun _ hk => zo hk)))⟩; have n3_ : Aside0 (Kd.R (Kd.int .u64) 43 wr w.heap.size (fun k_ => some k_ ≠ (.slice (some ad1505) t1494.length co11 : Value).ownBlock ∧ some k_ ≠ (.slice (some ad1503) t1491.length co10 : Value).ownBlock ∧ some k_ ≠ (.slice (some ad1505) t1494.length co11 : Value).ownBlock) v1498 x5_2) := ⟨by rw [← hq_]; exact (ru HO_5.out)⟩; have n4_ : Aside0 (Below w.heap.size w wr) := ⟨by rw [← hq_]; exact bq⟩; clear HO_1 HO_26 HO_33 HO_5 HB hq_; have HO_1 := n0_; have HO_26 := n1_; have HO_33 := n2_; have HO_5 := n3_; have HB := n4_; clear n0_ n1_ n2_ n3_ n4_)); obtain ⟨Ao31, co31, eo31⟩ := R_slice HO_5.out; subst eo31; have p1508 : 0 ≤ ((ji21) : Int) := od; have q1508 : (ji21) < (x5_2.length : Int) := od; obtain ⟨ad1508, e1508, hx1508_0⟩ := Kd.at_int (R_reads' HO_5.out).2.2 (ji21) p1508 q1508; cases e1508; replace p1508 := eq_true p1508; replace q1508 := eq_true q1508; have p30 : 0 ≤ ((ji21) : Int) := od; have q30 : ((ji21) : Int) < ((x5_2.length : Int) : Int) := od; obtain ⟨go30, co30, eo30, gb30, gl30, cl30, HG30⟩ := R_form HO_5.out (by omega); (first | cases eo30 | (injection eo30 with ea_ en_ ec_; (first | subst ea_ | (injection ea_ with ea_; subst ea_)); subst ec_; clear en_)); have GB30 := zA gb30; have GG30 := zA HG30; clear gb30 gl30 HG30; (first | simp only [add_plain] at hx1508_0 | skip); obtain ⟨hx30_0, hf30_0⟩ := R_celln 0 HO_5.out ((ji21) : Int) p30 q30; replace p30 := eq_true p30; replace q30 := eq_true q30; obtain ⟨hy32_, hz32_⟩ := R_celln 0 HO_5.out ((ji21) : Int) (od) (od); have HP32 := R_putg HO_5.out ((ji21) : Int) (IntKind.u64.wrap ((IntKind.u64.wrap ((rd x5_2 (ji21)) + t1506)) + x8_2))) | ((with_reducible refine gate_store (t := 43) (p := 72) rfl ?_); refine store_event (t := 43) (p := 72) (v := ?vo_w33) (w1 := (wr.setCell ⟨go30, ((ji21) : Int).toNat, none⟩ (.int .u64 (IntKind.u64.wrap ((IntKind.u64.wrap ((rd x5_2 (ji21)) + t1506)) + x8_2))))) ?hg ?ho ?hn ?hr ?_; (case ho => rfl); (case hg => rfl); (case hn => rfl); (case hr => first | (go_simp; done) | (go_simp; rfl)); intro w33 hw; have hg : wr.grownBy w33 (some go30) := (by rw [hw]; exact HP32.2); have hp_ : Kd.R (Kd.int .u64) 43 w33 w.heap.size (fun k_ => some k_ ≠ (.slice (some ad1505) t1494.length co11 : Value).ownBlock ∧ some k_ ≠ (.slice (some ad1503) t1491.length co10 : Value).ownBlock ∧ some k_ ≠ (.slice (some ad1505) t1494.length co11 : Value).ownBlock) (.slice (some ⟨go30, 0, none⟩) x5_2.length co31) y1510 := (by rw [hw, Ny1510.out]; exact HP32.1); clear HP32; replace HO_1 := zA (R_after (v := (.slice (some ⟨go30, 0, none⟩) x5_2.length co31)) (v1 := (.slice (some ⟨go30, 0, none⟩) x5_2.length co31)) (ok := (fun k_ => some k_ ≠ (.slice (some ad1503) t1491.length co10 : Value).ownBlock)) (by (with_reducible repeat (first | apply R_alloc | apply R_drewN | apply R_drew)); (first | exact R_mono HO_1.out (fun _ hk => ⟨hk.2, hk.1⟩) | exact HO_1.out | exact R_mono HO_1.out (fun _ hk => zo hk))) hg (.inl rfl)); replace HO_5 := zA (hp_); replace HO_26 := zA (R_after (v := (.slice (some ⟨go30, 0, none⟩) x5_2.length co31)) (v1 := (.slice (some ⟨go30, 0, none⟩) x5_2.length co31)) (ok := (fun k_ => some k_ ≠ (.slice (some ad1505) t1494.length co11 : Value).ownBlock ∧ some k_ ≠ (.slice (some ad1505) t1494.length co11 : Value).ownBlock)) (by (with_reducible repeat (first | apply R_alloc | apply R_drewN | apply R_drew)); (first | exact R_mono HO_26.out (fun _ hk => ⟨⟨hk.1, hk.2.2⟩, hk.2.1⟩) | exact HO_26.out | exact R_mono HO_26.out (fun _ hk => zo hk))) hg (.inl rfl)); replace HO_33 := zA (R_after (v := (.slice (some ⟨go30, 0, none⟩) x5_2.length co31)) (v1 := (.slice (some ⟨go30, 0, none⟩) x5_2.length co31)) (ok := (fun k_ => some k_ ≠ (.slice (some ad1503) t1491.length co10 : Value).ownBlock)) (by (with_reducible repeat (first | apply R_alloc | apply R_drewN | apply R_drew)); (first | exact R_mono HO_33.out (fun _ hk => ⟨hk.2, hk.1⟩) | exact HO_33.out | exact R_mono HO_33.out (fun _ hk => zo hk))) hg (.inl rfl)); replace HB := zA ((by rw [hw]; exact below_set (HB.out) GB30.out : Below w.heap.size w w33)); clear hg hw hp_))
        go_roundg k2
        case measure => have := HK1.out; have := HK2.out; omega
        case rel => exact ⟨(y1510), (IntKind.u64.wrap (t1507 + 1)), (wrap64 (x35_2 + 1)), zi, zi, (by first | exact H' | (simp only [hji5, hji21]; exact H') | (simp only [hji5, hji21] at H' ⊢; exact H')), ⟨by have := HK1.out; have := HK2.out; omega⟩, ⟨by (with_reducible repeat (first | apply R_alloc | apply R_drewN | apply R_drew)); (first | exact R_mono HO_1.out (fun _ hk => ⟨hk.2, hk.1⟩) | exact HO_1.out | exact R_mono HO_1.out (fun _ hk => zo hk))⟩, ⟨ru HO_5.out⟩, ⟨by (with_reducible repeat (first | apply R_alloc | apply R_drewN | apply R_drew)); (first | exact R_mono HO_26.out (fun _ hk => ⟨hk.1.1, ⟨hk.2, hk.1.2⟩⟩) | exact HO_26.out | exact R_mono HO_26.out (fun _ hk => zo hk))⟩, ⟨by (with_reducible repeat (first | apply R_alloc | apply R_drewN | apply R_drew)); (first | exact R_mono HO_33.out (fun _ hk => ⟨hk.2, hk.1⟩) | exact HO_33.out | exact R_mono HO_33.out (fun _ hk => zo hk))⟩, ⟨bq⟩⟩
       rw [if_neg c24] at H
       have c24b0 : decide ((IntKind.u64.wrap ((rd x5_2 (ji21)) + t1506)) < t1506) = false := decide_eq_false c24
       clear c24
       by_cases c34 : (IntKind.u64.wrap ((IntKind.u64.wrap ((rd x5_2 (ji21)) + t1506)) + x8_2)) < x8_2
       ·rw [if_pos c34] at H
        have c34b0 : decide ((IntKind.u64.wrap ((IntKind.u64.wrap ((rd x5_2 (ji21)) + t1506)) + x8_2)) < x8_2) = true := decide_eq_true c34
        clear c34
        obtain ⟨y1511, hy1511⟩ : ∃ y_ : List Int, y_ = (x5_2.set ((ji21) : Int).toNat (IntKind.u64.wrap ((IntKind.u64.wrap ((rd x5_2 (ji21)) + t1506)) + x8_2))) := ⟨_, rfl⟩
        replace H : (ulpref03_Mul.l1 k2 t1494 y1511 x28_1 (rd t1491 x28_1) (IntKind.u64.wrap (t1507 + 1)) t1491 (t1491.length : Int) x28_1 t1494 (t1494.length : Int) (wrap64 (x35_2 + 1))) = some r := zR hy1511 H
        have Ny1511 := zA hy1511
        clear hy1511
        have H' := zA H
        clear H
        have p1505 : 0 ≤ (x35_2 : Int) := od
        have q1505 : x35_2 < (t1494.length : Int) := od
        obtain ⟨ad1505, e1505, hx1505_0⟩ := Kd.at_int (R_reads' HO_33.out).2.2 x35_2 p1505 q1505
        cases e1505
        replace p1505 := eq_true p1505
        replace q1505 := eq_true q1505
        go_wp2_with (first | ((with_reducible refine zG 141 rfl ?_); refine zL (some 43) rfl rfl Tryd.func141 #[.int .u64 (rd t1491 x28_1), .int .u64 (rd t1494 x35_2)] rfl ?_; (with_reducible refine (ulpref03_times.calls (rd t1491 x28_1) (rd t1494 x35_2) t1506 t1507 _ A20.out).mono ?_); rintro e w' ⟨rfl, ⟨nd, rfl⟩⟩; refine ⟨_, rfl, ?_⟩; (try (rw [drewN_self wr]; generalize hq_ : World.drewN wr _ = wr; have n0_ : Aside0 (Kd.R (Kd.int .u64) 43 wr w.heap.size (fun k_ => some k_ ≠ (.slice (some ad1503) t1491.length co10 : Value).ownBlock ∧ some k_ ≠ (v1498 : Value).ownBlock) (.slice (some ad1505) t1494.length co11) t1494) := ⟨by rw [← hq_]; exact (by (with_reducible repeat (first | apply R_alloc | apply R_drewN | apply R_drew)); (first | exact R_mono HO_1.out (fun _ hk => ⟨hk.2, hk.1⟩) | exact HO_1.out | exact R_mono HO_1.out (fun _ hk => zo hk)))⟩; have n1_ : Aside0 (Kd.R (Kd.int .u64) 43 wr w.heap.size (fun k_ => some k_ ≠ (.slice (some ad1505) t1494.length co11 : Value).ownBlock ∧ some k_ ≠ (.slice (some ad1505) t1494.length co11 : Value).ownBlock ∧ some k_ ≠ (v1498 : Value).ownBlock) (.slice (some ad1503) t1491.length co10) t1491) := ⟨by rw [← hq_]; exact (by (with_reducible repeat (first | apply R_alloc | apply R_drewN | apply R_drew)); (first | exact R_mono HO_26.out (fun _ hk => ⟨hk.1, ⟨hk.2.2, hk.2.1⟩⟩) | exact HO_26.out | exact R_mono HO_26.out (fun _ hk => zo hk)))⟩; have n2_ : Aside0 (Kd.R (Kd.int .u64) 43 wr w.heap.size (fun k_ => some k_ ≠ (.slice (some ad1503) t1491.length co10 : Value).ownBlock ∧ some k_ ≠ (v1498 : Value).ownBlock) (.slice (some ad1505) t1494.length co11) t1494) := ⟨by rw [← hq_]; exact (by (with_reducible repeat (first | apply R_alloc | apply R_drewN | apply R_drew)); (first | exact R_mono HO_33.out (fun _ hk => ⟨hk.2, hk.1⟩) | exact HO_33.out | exact R_mono HO_33.out (fun _ hk => zo hk)))⟩; have n3_ : Aside0 (Kd.R (Kd.int .u64) 43 wr w.heap.size (fun k_ => some k_ ≠ (.slice (some ad1505) t1494.length co11 : Value).ownBlock ∧ some k_ ≠ (.slice (some ad1503) t1491.length co10 : Value).ownBlock ∧ some k_ ≠ (.slice (some ad1505) t1494.length co11 : Value).ownBlock) v1498 x5_2) := ⟨by rw [← hq_]; exact (ru HO_5.out)⟩; have n4_ : Aside0 (Below w.heap.size w wr) := ⟨by rw [← hq_]; exact bq⟩; clear HO_1 HO_26 HO_33 HO_5 HB hq_; have HO_1 := n0_; have HO_26 := n1_; have HO_33 := n2_; have HO_5 := n3_; have HB := n4_; clear n0_ n1_ n2_ n3_ n4_)); obtain ⟨Ao36, co36, eo36⟩ := R_slice HO_5.out; subst eo36; have p1508 : 0 ≤ ((ji21) : Int) := od; have q1508 : (ji21) < (x5_2.length : Int) := od; obtain ⟨ad1508, e1508, hx1508_0⟩ := Kd.at_int (R_reads' HO_5.out).2.2 (ji21) p1508 q1508; cases e1508; replace p1508 := eq_true p1508; replace q1508 := eq_true q1508; have p35 : 0 ≤ ((ji21) : Int) := od; have q35 : ((ji21) : Int) < ((x5_2.length : Int) : Int) := od; obtain ⟨go35, co35, eo35, gb35, gl35, cl35, HG35⟩ := R_form HO_5.out (by omega); (first | cases eo35 | (injection eo35 with ea_ en_ ec_; (first | subst ea_ | (injection ea_ with ea_; subst ea_)); subst ec_; clear en_)); have GB35 := zA gb35; have GG35 := zA HG35; clear gb35 gl35 HG35; (first | simp only [add_plain] at hx1508_0 | skip); obtain ⟨hx35_0, hf35_0⟩ := R_celln 0 HO_5.out ((ji21) : Int) p35 q35; replace p35 := eq_true p35; replace q35 := eq_true q35; obtain ⟨hy37_, hz37_⟩ := R_celln 0 HO_5.out ((ji21) : Int) (od) (od); have HP37 := R_putg HO_5.out ((ji21) : Int) (IntKind.u64.wrap ((IntKind.u64.wrap ((rd x5_2 (ji21)) + t1506)) + x8_2))) | ((with_reducible refine gate_store (t := 43) (p := 72) rfl ?_); refine store_event (t := 43) (p := 72) (v := ?vo_w38) (w1 := (wr.setCell ⟨go35, ((ji21) : Int).toNat, none⟩ (.int .u64 (IntKind.u64.wrap ((IntKind.u64.wrap ((rd x5_2 (ji21)) + t1506)) + x8_2))))) ?hg ?ho ?hn ?hr ?_; (case ho => rfl); (case hg => rfl); (case hn => rfl); (case hr => first | (go_simp; done) | (go_simp; rfl)); intro w38 hw; have hg : wr.grownBy w38 (some go35) := (by rw [hw]; exact HP37.2); have hp_ : Kd.R (Kd.int .u64) 43 w38 w.heap.size (fun k_ => some k_ ≠ (.slice (some ad1505) t1494.length co11 : Value).ownBlock ∧ some k_ ≠ (.slice (some ad1503) t1491.length co10 : Value).ownBlock ∧ some k_ ≠ (.slice (some ad1505) t1494.length co11 : Value).ownBlock) (.slice (some ⟨go35, 0, none⟩) x5_2.length co36) y1511 := (by rw [hw, Ny1511.out]; exact HP37.1); clear HP37; replace HO_1 := zA (R_after (v := (.slice (some ⟨go35, 0, none⟩) x5_2.length co36)) (v1 := (.slice (some ⟨go35, 0, none⟩) x5_2.length co36)) (ok := (fun k_ => some k_ ≠ (.slice (some ad1503) t1491.length co10 : Value).ownBlock)) (by (with_reducible repeat (first | apply R_alloc | apply R_drewN | apply R_drew)); (first | exact R_mono HO_1.out (fun _ hk => ⟨hk.2, hk.1⟩) | exact HO_1.out | exact R_mono HO_1.out (fun _ hk => zo hk))) hg (.inl rfl)); replace HO_5 := zA (hp_); replace HO_26 := zA (R_after (v := (.slice (some ⟨go35, 0, none⟩) x5_2.length co36)) (v1 := (.slice (some ⟨go35, 0, none⟩) x5_2.length co36)) (ok := (fun k_ => some k_ ≠ (.slice (some ad1505) t1494.length co11 : Value).ownBlock ∧ some k_ ≠ (.slice (some ad1505) t1494.length co11 : Value).ownBlock)) (by (with_reducible repeat (first | apply R_alloc | apply R_drewN | apply R_drew)); (first | exact R_mono HO_26.out (fun _ hk => ⟨⟨hk.1, hk.2.2⟩, hk.2.1⟩) | exact HO_26.out | exact R_mono HO_26.out (fun _ hk => zo hk))) hg (.inl rfl)); replace HO_33 := zA (R_after (v := (.slice (some ⟨go35, 0, none⟩) x5_2.length co36)) (v1 := (.slice (some ⟨go35, 0, none⟩) x5_2.length co36)) (ok := (fun k_ => some k_ ≠ (.slice (some ad1503) t1491.length co10 : Value).ownBlock)) (by (with_reducible repeat (first | apply R_alloc | apply R_drewN | apply R_drew)); (first | exact R_mono HO_33.out (fun _ hk => ⟨hk.2, hk.1⟩) | exact HO_33.out | exact R_mono HO_33.out (fun _ hk => zo hk))) hg (.inl rfl)); replace HB := zA ((by rw [hw]; exact below_set (HB.out) GB35.out : Below w.heap.size w w38)); clear hg hw hp_))
        go_roundg k2
        case measure => have := HK1.out; have := HK2.out; omega
        case rel => exact ⟨(y1511), (IntKind.u64.wrap (t1507 + 1)), (wrap64 (x35_2 + 1)), zi, zi, (by first | exact H' | (simp only [hji5, hji21]; exact H') | (simp only [hji5, hji21] at H' ⊢; exact H')), ⟨by have := HK1.out; have := HK2.out; omega⟩, ⟨by (with_reducible repeat (first | apply R_alloc | apply R_drewN | apply R_drew)); (first | exact R_mono HO_1.out (fun _ hk => ⟨hk.2, hk.1⟩) | exact HO_1.out | exact R_mono HO_1.out (fun _ hk => zo hk))⟩, ⟨ru HO_5.out⟩, ⟨by (with_reducible repeat (first | apply R_alloc | apply R_drewN | apply R_drew)); (first | exact R_mono HO_26.out (fun _ hk => ⟨hk.1.1, ⟨hk.2, hk.1.2⟩⟩) | exact HO_26.out | exact R_mono HO_26.out (fun _ hk => zo hk))⟩, ⟨by (with_reducible repeat (first | apply R_alloc | apply R_drewN | apply R_drew)); (first | exact R_mono HO_33.out (fun _ hk => ⟨hk.2, hk.1⟩) | exact HO_33.out | exact R_mono HO_33.out (fun _ hk => zo hk))⟩, ⟨bq⟩⟩
       rw [if_neg c34] at H
       have c34b0 : decide ((IntKind.u64.wrap ((IntKind.u64.wrap ((rd x5_2 (ji21)) + t1506)) + x8_2)) < x8_2) = false := decide_eq_false c34
       clear c34
       obtain ⟨y1512, hy1512⟩ : ∃ y_ : List Int, y_ = (x5_2.set ((ji21) : Int).toNat (IntKind.u64.wrap ((IntKind.u64.wrap ((rd x5_2 (ji21)) + t1506)) + x8_2))) := ⟨_, rfl⟩
       replace H : (ulpref03_Mul.l1 k2 t1494 y1512 x28_1 (rd t1491 x28_1) t1507 t1491 (t1491.length : Int) x28_1 t1494 (t1494.length : Int) (wrap64 (x35_2 + 1))) = some r := zR hy1512 H
       have Ny1512 := zA hy1512
       clear hy1512
       have H' := zA H
       clear H
       have p1505 : 0 ≤ (x35_2 : Int) := od
       have q1505 : x35_2 < (t1494.length : Int) := od
       obtain ⟨ad1505, e1505, hx1505_0⟩ := Kd.at_int (R_reads' HO_33.out).2.2 x35_2 p1505 q1505
       cases e1505
       replace p1505 := eq_true p1505
       replace q1505 := eq_true q1505
       go_wp2_with (first | ((with_reducible refine zG 141 rfl ?_); refine zL (some 43) rfl rfl Tryd.func141 #[.int .u64 (rd t1491 x28_1), .int .u64 (rd t1494 x35_2)] rfl ?_; (with_reducible refine (ulpref03_times.calls (rd t1491 x28_1) (rd t1494 x35_2) t1506 t1507 _ A20.out).mono ?_); rintro e w' ⟨rfl, ⟨nd, rfl⟩⟩; refine ⟨_, rfl, ?_⟩; (try (rw [drewN_self wr]; generalize hq_ : World.drewN wr _ = wr; have n0_ : Aside0 (Kd.R (Kd.int .u64) 43 wr w.heap.size (fun k_ => some k_ ≠ (.slice (some ad1503) t1491.length co10 : Value).ownBlock ∧ some k_ ≠ (v1498 : Value).ownBlock) (.slice (some ad1505) t1494.length co11) t1494) := ⟨by rw [← hq_]; exact (by (with_reducible repeat (first | apply R_alloc | apply R_drewN | apply R_drew)); (first | exact R_mono HO_1.out (fun _ hk => ⟨hk.2, hk.1⟩) | exact HO_1.out | exact R_mono HO_1.out (fun _ hk => zo hk)))⟩; have n1_ : Aside0 (Kd.R (Kd.int .u64) 43 wr w.heap.size (fun k_ => some k_ ≠ (.slice (some ad1505) t1494.length co11 : Value).ownBlock ∧ some k_ ≠ (.slice (some ad1505) t1494.length co11 : Value).ownBlock ∧ some k_ ≠ (v1498 : Value).ownBlock) (.slice (some ad1503) t1491.length co10) t1491) := ⟨by rw [← hq_]; exact (by (with_reducible repeat (first | apply R_alloc | apply R_drewN | apply R_drew)); (first | exact R_mono HO_26.out (fun _ hk => ⟨hk.1, ⟨hk.2.2, hk.2.1⟩⟩) | exact HO_26.out | exact R_mono HO_26.out (fun _ hk => zo hk)))⟩; have n2_ : Aside0 (Kd.R (Kd.int .u64) 43 wr w.heap.size (fun k_ => some k_ ≠ (.slice (some ad1503) t1491.length co10 : Value).ownBlock ∧ some k_ ≠ (v1498 : Value).ownBlock) (.slice (some ad1505) t1494.length co11) t1494) := ⟨by rw [← hq_]; exact (by (with_reducible repeat (first | apply R_alloc | apply R_drewN | apply R_drew)); (first | exact R_mono HO_33.out (fun _ hk => ⟨hk.2, hk.1⟩) | exact HO_33.out | exact R_mono HO_33.out (fun _ hk => zo hk)))⟩; have n3_ : Aside0 (Kd.R (Kd.int .u64) 43 wr w.heap.size (fun k_ => some k_ ≠ (.slice (some ad1505) t1494.length co11 : Value).ownBlock ∧ some k_ ≠ (.slice (some ad1503) t1491.length co10 : Value).ownBlock ∧ some k_ ≠ (.slice (some ad1505) t1494.length co11 : Value).ownBlock) v1498 x5_2) := ⟨by rw [← hq_]; exact (ru HO_5.out)⟩; have n4_ : Aside0 (Below w.heap.size w wr) := ⟨by rw [← hq_]; exact bq⟩; clear HO_1 HO_26 HO_33 HO_5 HB hq_; have HO_1 := n0_; have HO_26 := n1_; have HO_33 := n2_; have HO_5 := n3_; have HB := n4_; clear n0_ n1_ n2_ n3_ n4_)); obtain ⟨Ao40, co40, eo40⟩ := R_slice HO_5.out; subst eo40; have p1508 : 0 ≤ ((ji21) : Int) := od; have q1508 : (ji21) < (x5_2.length : Int) := od; obtain ⟨ad1508, e1508, hx1508_0⟩ := Kd.at_int (R_reads' HO_5.out).2.2 (ji21) p1508 q1508; cases e1508; replace p1508 := eq_true p1508; replace q1508 := eq_true q1508; have p39 : 0 ≤ ((ji21) : Int) := od; have q39 : ((ji21) : Int) < ((x5_2.length : Int) : Int) := od; obtain ⟨go39, co39, eo39, gb39, gl39, cl39, HG39⟩ := R_form HO_5.out (by omega); (first | cases eo39 | (injection eo39 with ea_ en_ ec_; (first | subst ea_ | (injection ea_ with ea_; subst ea_)); subst ec_; clear en_)); have GB39 := zA gb39; have GG39 := zA HG39; clear gb39 gl39 HG39; (first | simp only [add_plain] at hx1508_0 | skip); obtain ⟨hx39_0, hf39_0⟩ := R_celln 0 HO_5.out ((ji21) : Int) p39 q39; replace p39 := eq_true p39; replace q39 := eq_true q39; obtain ⟨hy41_, hz41_⟩ := R_celln 0 HO_5.out ((ji21) : Int) (od) (od); have HP41 := R_putg HO_5.out ((ji21) : Int) (IntKind.u64.wrap ((IntKind.u64.wrap ((rd x5_2 (ji21)) + t1506)) + x8_2))) | ((with_reducible refine gate_store (t := 43) (p := 72) rfl ?_); refine store_event (t := 43) (p := 72) (v := ?vo_w42) (w1 := (wr.setCell ⟨go39, ((ji21) : Int).toNat, none⟩ (.int .u64 (IntKind.u64.wrap ((IntKind.u64.wrap ((rd x5_2 (ji21)) + t1506)) + x8_2))))) ?hg ?ho ?hn ?hr ?_; (case ho => rfl); (case hg => rfl); (case hn => rfl); (case hr => first | (go_simp; done) | (go_simp; rfl)); intro w42 hw; have hg : wr.grownBy w42 (some go39) := (by rw [hw]; exact HP41.2); have hp_ : Kd.R (Kd.int .u64) 43 w42 w.heap.size (fun k_ => some k_ ≠ (.slice (some ad1505) t1494.length co11 : Value).ownBlock ∧ some k_ ≠ (.slice (some ad1503) t1491.length co10 : Value).ownBlock ∧ some k_ ≠ (.slice (some ad1505) t1494.length co11 : Value).ownBlock) (.slice (some ⟨go39, 0, none⟩) x5_2.length co40) y1512 := (by rw [hw, Ny1512.out]; exact HP41.1); clear HP41; replace HO_1 := zA (R_after (v := (.slice (some ⟨go39, 0, none⟩) x5_2.length co40)) (v1 := (.slice (some ⟨go39, 0, none⟩) x5_2.length co40)) (ok := (fun k_ => some k_ ≠ (.slice (some ad1503) t1491.length co10 : Value).ownBlock)) (by (with_reducible repeat (first | apply R_alloc | apply R_drewN | apply R_drew)); (first | exact R_mono HO_1.out (fun _ hk => ⟨hk.2, hk.1⟩) | exact HO_1.out | exact R_mono HO_1.out (fun _ hk => zo hk))) hg (.inl rfl)); replace HO_5 := zA (hp_); replace HO_26 := zA (R_after (v := (.slice (some ⟨go39, 0, none⟩) x5_2.length co40)) (v1 := (.slice (some ⟨go39, 0, none⟩) x5_2.length co40)) (ok := (fun k_ => some k_ ≠ (.slice (some ad1505) t1494.length co11 : Value).ownBlock ∧ some k_ ≠ (.slice (some ad1505) t1494.length co11 : Value).ownBlock)) (by (with_reducible repeat (first | apply R_alloc | apply R_drewN | apply R_drew)); (first | exact R_mono HO_26.out (fun _ hk => ⟨⟨hk.1, hk.2.2⟩, hk.2.1⟩) | exact HO_26.out | exact R_mono HO_26.out (fun _ hk => zo hk))) hg (.inl rfl)); replace HO_33 := zA (R_after (v := (.slice (some ⟨go39, 0, none⟩) x5_2.length co40)) (v1 := (.slice (some ⟨go39, 0, none⟩) x5_2.length co40)) (ok := (fun k_ => some k_ ≠ (.slice (some ad1503) t1491.length co10 : Value).ownBlock)) (by (with_reducible repeat (first | apply R_alloc | apply R_drewN | apply R_drew)); (first | exact R_mono HO_33.out (fun _ hk => ⟨hk.2, hk.1⟩) | exact HO_33.out | exact R_mono HO_33.out (fun _ hk => zo hk))) hg (.inl rfl)); replace HB := zA ((by rw [hw]; exact below_set (HB.out) GB39.out : Below w.heap.size w w42)); clear hg hw hp_))
       go_roundg k2
       case measure => have := HK1.out; have := HK2.out; omega
       case rel => exact ⟨(y1512), (t1507), (wrap64 (x35_2 + 1)), zi, zi, (by first | exact H' | (simp only [hji5, hji21]; exact H') | (simp only [hji5, hji21] at H' ⊢; exact H')), ⟨by have := HK1.out; have := HK2.out; omega⟩, ⟨by (with_reducible repeat (first | apply R_alloc | apply R_drewN | apply R_drew)); (first | exact R_mono HO_1.out (fun _ hk => ⟨hk.2, hk.1⟩) | exact HO_1.out | exact R_mono HO_1.out (fun _ hk => zo hk))⟩, ⟨ru HO_5.out⟩, ⟨by (with_reducible repeat (first | apply R_alloc | apply R_drewN | apply R_drew)); (first | exact R_mono HO_26.out (fun _ hk => ⟨hk.1.1, ⟨hk.2, hk.1.2⟩⟩) | exact HO_26.out | exact R_mono HO_26.out (fun _ hk => zo hk))⟩, ⟨by (with_reducible repeat (first | apply R_alloc | apply R_drewN | apply R_drew)); (first | exact R_mono HO_33.out (fun _ hk => ⟨hk.2, hk.1⟩) | exact HO_33.out | exact R_mono HO_33.out (fun _ hk => zo hk))⟩, ⟨bq⟩⟩
      rw [if_neg c17] at H
      have c17b0 := decide_eq_false c17
      clear c17
      obtain ⟨ji43, hji43⟩ : ∃ j_ : Int, (wrap64 (x28_1 + (t1494.length : Int))) = j_ := ⟨_, rfl⟩
      replace H : (if 0 ≤ (ji43) then (if (ji43) < (x5_2.length : Int) then (ulpref03_Mul.l0 k2 t1494 (x5_2.set ((ji43) : Int).toNat x8_2) t1491 (t1491.length : Int) (wrap64 (x28_1 + 1))) else (none)) else (none)) = some r := zQ hji43 H
      have hji43w : (IntKind.i64.wrap (x28_1 + (t1494.length : Int))) = ji43 := (i64_w _).trans hji43
      replace H := dn H
      obtain ⟨c44, H⟩ := H
      have c44b0 := decide_eq_true c44
      clear c44
      replace H := dn H
      obtain ⟨c45, H⟩ := H
      have c45b0 := decide_eq_true c45
      clear c45
      obtain ⟨y1504, hy1504⟩ : ∃ y_ : List Int, y_ = (x5_2.set ((ji43) : Int).toNat x8_2) := ⟨_, rfl⟩
      replace H : (ulpref03_Mul.l0 k2 t1494 y1504 t1491 (t1491.length : Int) (wrap64 (x28_1 + 1))) = some r := zR hy1504 H
      have Ny1504 := zA hy1504
      clear hy1504
      have H' := zA H
      clear H
      have p46 : 0 ≤ ((ji43) : Int) := od
      have q46 : ((ji43) : Int) < ((x5_2.length : Int) : Int) := od
      obtain ⟨go46, co46, eo46, gb46, gl46, cl46, HG46⟩ := R_form HO_5.out (by omega)
      (first | cases eo46 | (injection eo46 with ea_ en_ ec_; (first | subst ea_ | (injection ea_ with ea_; subst ea_)); subst ec_; clear en_))
      have GB46 := zA gb46
      have GG46 := zA HG46
      clear gb46 gl46 HG46
      obtain ⟨hx46_0, hf46_0⟩ := R_celln 0 HO_5.out ((ji43) : Int) p46 q46
      replace p46 := eq_true p46
      replace q46 := eq_true q46
      have HP47 := R_putg HO_5.out ((ji43) : Int) x8_2
      go_wp2_with (first | ((with_reducible refine gate_store (t := 43) (p := 81) rfl ?_); refine store_event (t := 43) (p := 81) (v := ?vo_w48) (w1 := (wr.setCell ⟨go46, ((ji43) : Int).toNat, none⟩ (.int .u64 x8_2))) ?hg ?ho ?hn ?hr ?_; (case ho => rfl); (case hg => rfl); (case hn => rfl); (case hr => first | (go_simp; done) | (go_simp; rfl)); intro w48 hw; have hg : wr.grownBy w48 (some go46) := (by rw [hw]; exact HP47.2); have hp_ : Kd.R (Kd.int .u64) 43 w48 w.heap.size (fun k_ => some k_ ≠ (.slice Ao11 t1494.length co11 : Value).ownBlock ∧ some k_ ≠ (.slice (some ad1503) t1491.length co10 : Value).ownBlock ∧ some k_ ≠ (.slice Ao11 t1494.length co11 : Value).ownBlock) (.slice (some ⟨go46, 0, none⟩) x5_2.length co46) y1504 := (by rw [hw, Ny1504.out]; exact HP47.1); clear HP47; replace HO_1 := zA (R_after (v := (.slice (some ⟨go46, 0, none⟩) x5_2.length co46)) (v1 := (.slice (some ⟨go46, 0, none⟩) x5_2.length co46)) (ok := (fun k_ => some k_ ≠ (.slice (some ad1503) t1491.length co10 : Value).ownBlock)) (by (with_reducible repeat (first | apply R_alloc | apply R_drewN | apply R_drew)); (first | exact R_mono HO_1.out (fun _ hk => ⟨hk.2, hk.1⟩) | exact HO_1.out | exact R_mono HO_1.out (fun _ hk => zo hk))) hg (.inl rfl)); replace HO_5 := zA (hp_); replace HO_26 := zA (R_after (v := (.slice (some ⟨go46, 0, none⟩) x5_2.length co46)) (v1 := (.slice (some ⟨go46, 0, none⟩) x5_2.length co46)) (ok := (fun k_ => some k_ ≠ (.slice Ao11 t1494.length co11 : Value).ownBlock ∧ some k_ ≠ (.slice Ao11 t1494.length co11 : Value).ownBlock)) (by (with_reducible repeat (first | apply R_alloc | apply R_drewN | apply R_drew)); (first | exact R_mono HO_26.out (fun _ hk => ⟨⟨hk.1, hk.2.2⟩, hk.2.1⟩) | exact HO_26.out | exact R_mono HO_26.out (fun _ hk => zo hk))) hg (.inl rfl)); replace HO_33 := zA (R_after (v := (.slice (some ⟨go46, 0, none⟩) x5_2.length co46)) (v1 := (.slice (some ⟨go46, 0, none⟩) x5_2.length co46)) (ok := (fun k_ => some k_ ≠ (.slice (some ad1503) t1491.length co10 : Value).ownBlock)) (by (with_reducible repeat (first | apply R_alloc | apply R_drewN | apply R_drew)); (first | exact R_mono HO_33.out (fun _ hk => ⟨hk.2, hk.1⟩) | exact HO_33.out | exact R_mono HO_33.out (fun _ hk => zo hk))) hg (.inl rfl)); replace HB := zA ((by rw [hw]; exact below_set (HB.out) GB46.out : Below w.heap.size w w48)); clear hg hw hp_))
      go_roundg k2
      case measure => have := HK1.out; have := HK2.out; omega
      case rel => exact ⟨(y1504), (wrap64 (x28_1 + 1)), zi, (by first | exact H' | (simp only [hji5, hji43]; exact H') | (simp only [hji5, hji43] at H' ⊢; exact H')), ⟨by have := HK1.out; have := HK2.out; omega⟩, ⟨by (with_reducible repeat (first | apply R_alloc | apply R_drewN | apply R_drew)); (first | exact R_mono HO_1.out (fun _ hk => ⟨hk.2, hk.1⟩) | exact HO_1.out | exact R_mono HO_1.out (fun _ hk => zo hk))⟩, ⟨by (with_reducible repeat (first | apply R_alloc | apply R_drewN | apply R_drew)); (first | exact R_mono HO_5.out (fun _ hk => ⟨hk.1, hk.2.1⟩) | exact HO_5.out | exact R_mono HO_5.out (fun _ hk => zo hk))⟩, ⟨by (with_reducible repeat (first | apply R_alloc | apply R_drewN | apply R_drew)); (first | exact R_mono HO_26.out (fun _ hk => ⟨hk.1.1, hk.2⟩) | exact HO_26.out | exact R_mono HO_26.out (fun _ hk => zo hk))⟩, ⟨bq⟩⟩
   rw [if_neg c14] at H
   have c14b0 := decide_eq_false c14
   clear c14
   obtain ⟨t1500, A49, H⟩ := zh H
   obtain rfl := Option.some.inj H
   obtain ⟨Ao50, co50, eo50⟩ := R_slice HO_5.out
   subst eo50
   go_wp2_with (first | ((with_reducible refine zG 74 rfl ?_); refine zL (some 84) rfl rfl Tryd.func74 #[.slice Ao50 x5_1.length co50] rfl ?_; (with_reducible refine (ulpref03_Norm.calls k1 _ _ x5_1 t1500 _ ?side1 ?side2 A49.out).mono ?_); (case side1 => exact zk (R_reads' HO_5.out).2.2); (case side2 => exact (R_reads' HO_5.out).2.1); rintro e w51 ⟨v1501, rfl, ho0, hb⟩; refine ⟨_, rfl, ?_⟩; have HO1502 := zA (R_lower (R_new' (R_new' (R_new' ho0 (R_lt (ru HO_1.out))) (R_lt (ru HO_5.out))) (R_lt (ru HO_26.out))) (below_size bq)); replace HO_1 := zA (R_elder' (ru HO_1.out) (R_base ho0) hb); replace HO_5 := zA (R_elder' (ru HO_5.out) (R_base ho0) hb); replace HO_26 := zA (R_elder' (ru HO_26.out) (R_base ho0) hb); replace HB := ze hb; (try clear ho0)))
   go_ret
   exact ⟨_, by first | rfl | (simp [errW_none, errW_some] <;> rfl) | (simp only [← hji5]; first | rfl | (simp [errW_none, errW_some] <;> rfl)) | (simp [*, errW_none, errW_some] <;> rfl), ru (R_mono HO1502.out (fun _ hk => trivial)), bq⟩
end Go.Proofs.YtemfckibdojbbaaDoor.PAll
