/- Printed functions, merged by a program of this session. -/
import Derived.Test.YtemfckibdojbbaaDoorXDyadShiftsP0
import Derived.Test.YtemfckibdojbbaaDoorXDyadShiftsP13
import Derived.Test.YtemfckibdojbbaaDoorXDyadShiftsP2
import Derived.Laws.StructEq
import Derived.Test.YtemfckibdojbbaaDoorXDyadShiftsSh
namespace Go.Proofs.YtemfckibdojbbaaDoor.PAll
open Go.RowKit Go.Proofs.YtemfckibdojbbaaDoorW.PrintWords Go.Proofs.YtemfckibdojbbaaDoorW.PrintLast Go.Proofs.YtemfckibdojbbaaDoorW.PrintMore Go.Proofs.YtemfckibdojbbaaDoorW.PrintWords.Kd
attribute [local go_sem] max2_int min2_int max_two min_two max_three min_three max_four min_four   -- for this text's walks alone
set_option linter.unusedVariables false
set_option linter.unusedSimpArgs false
attribute [local go_sem] ext135 ext136
mutual
def limbs_Mul.l0 : Nat → List Int → List Int → List Int → Int → Int → Option (List Int)
 | 0, _, _, _, _, _ => none
 | k + 1, x1, x5, x24, x25, x26 => if x26 < x25 then (if 0 ≤ x26 then (if x26 < (x24.length : Int) then (limbs_Mul.l1 k x1 x5 x26 (rd x24 x26) 0 x24 x25 x26 x1 (x1.length : Int) 0) else (none)) else (none)) else ((limbs_Trim.f k x5).bind fun t1454 => (some t1454))
def limbs_Mul.l1 : Nat → List Int → List Int → Int → Int → Int → List Int → Int → Int → List Int → Int → Int → Option (List Int)
 | 0, _, _, _, _, _, _, _, _, _, _, _ => none
 | k + 1, x1, x5, x6, x7, x8, x24, x25, x26, x31, x32, x33 => if x33 < x32 then (if 0 ≤ x33 then (if x33 < (x31.length : Int) then ((bits_Mul64.f x7 (rd x31 x33)).bind fun bt1459 => (if 0 ≤ (wrap64 (x6 + x33)) then (if (wrap64 (x6 + x33)) < (x5.length : Int) then (limbs_Mul.l1 k x1 (x5.set ((wrap64 (x6 + x33)) : Int).toNat (add64s (rd x5 (wrap64 (x6 + x33))) (add64s bt1459.2 x8 0) 0)) x6 x7 (IntKind.u64.wrap ((IntKind.u64.wrap (bt1459.1 + (add64c bt1459.2 x8 0))) + (add64c (rd x5 (wrap64 (x6 + x33))) (add64s bt1459.2 x8 0) 0))) x24 x25 x26 x31 x32 (wrap64 (x33 + 1))) else (none)) else (none))) else (none)) else (none)) else (if 0 ≤ (wrap64 (x6 + (x1.length : Int))) then (if (wrap64 (x6 + (x1.length : Int))) < (x5.length : Int) then (limbs_Mul.l0 k x1 (x5.set ((wrap64 (x6 + (x1.length : Int))) : Int).toNat x8) x24 x25 (wrap64 (x26 + 1))) else (none)) else (none))
end
def limbs_Mul.f (k : Nat) (l0 : List Int) (l1 : List Int) : Option (List Int) := (limbs_Trim.f k l0).bind fun t1445 => ((limbs_Trim.f k l1).bind fun t1448 => (if 0 ≤ (wrap64 ((t1445.length : Int) + (t1448.length : Int))) then (if (wrap64 ((t1445.length : Int) + (t1448.length : Int)) : Int).toNat ≤ 35184372088832 then (limbs_Mul.l0 k t1448 (List.replicate (wrap64 ((t1445.length : Int) + (t1448.length : Int)) : Int).toNat 0) t1445 (t1445.length : Int) 0) else (none)) else (none)))
set_option maxHeartbeats 8000000 in
set_option maxRecDepth 100000 in
theorem limbs_Mul.calls (k : Nat) (P0_ : Nat → Prop) (A0 : Option Addr) (c0 : Nat) (l0 : List Int) (P1_ : Nat → Prop) (A1 : Option Addr) (c1 : Nat) (l1 : List Int) (r : List Int) (w : World) (hs0 : Kd.V (Kd.int .u64) 43 w w.heap.size (fun k_ => P0_ k_) (.slice A0 l0.length c0) l0) (hs1 : Kd.V (Kd.int .u64) 43 w w.heap.size (fun k_ => P1_ k_) (.slice A1 l1.length c1) l1) (h : limbs_Mul.f k l0 l1 = some r) :
  Calls Tryd.prog 131 #[.slice A0 l0.length c0, .slice A1 l1.length c1] w fun e w' => ∃ v0_ : Value, e = .returned (v0_) ∧ Kd.V (Kd.int .u64) 43 w' w.heap.size (fun k_ => ((P0_ k_ ∨ P1_ k_) ∨ w.heap.size ≤ k_)) v0_ r ∧ Below w.heap.size w w' := by
 have HO0 := zA (show Kd.V (Kd.int .u64) 43 w w.heap.size (fun k_ => ((P0_ k_ ∨ P1_ k_) ∨ w.heap.size ≤ k_)) (.slice A0 l0.length c0) l0 from V_mono hs0 (fun k_ hk => .inl (.inl hk)))
 have HO1 := zA (show Kd.V (Kd.int .u64) 43 w w.heap.size (fun k_ => ((P0_ k_ ∨ P1_ k_) ∨ w.heap.size ≤ k_)) (.slice A1 l1.length c1) l1 from V_mono hs1 (fun k_ hk => .inl (.inr hk)))
 have HB := zA (Below.refl w.heap.size w)
 have H : ((limbs_Trim.f k l0).bind fun t1445 => ((limbs_Trim.f k l1).bind fun t1448 => (if 0 ≤ (wrap64 ((t1445.length : Int) + (t1448.length : Int))) then (if (wrap64 ((t1445.length : Int) + (t1448.length : Int)) : Int).toNat ≤ 35184372088832 then (limbs_Mul.l0 k t1448 (List.replicate (wrap64 ((t1445.length : Int) + (t1448.length : Int)) : Int).toNat 0) t1445 (t1445.length : Int) 0) else (none)) else (none)))) = some r := h
 clear h
 obtain ⟨t1445, A3, H⟩ := zh H
 obtain ⟨t1448, A4, H⟩ := zh H
 obtain ⟨ji5, hji5⟩ : ∃ j_ : Int, (wrap64 ((t1445.length : Int) + (t1448.length : Int))) = j_ := ⟨_, rfl⟩
 replace H : (if 0 ≤ (ji5) then (if (ji5 : Int).toNat ≤ 35184372088832 then (limbs_Mul.l0 k t1448 (List.replicate (ji5 : Int).toNat 0) t1445 (t1445.length : Int) 0) else (none)) else (none)) = some r := zQ hji5 H
 (try rw [hji5] at A3)
 (try rw [hji5] at A4)
 have hji5w : (IntKind.i64.wrap ((t1445.length : Int) + (t1448.length : Int))) = ji5 := (i64_w _).trans hji5
 replace H := dn H
 obtain ⟨c6, H⟩ := H
 have c6b0 := eq_true c6
 have c6b1 := decide_eq_true c6
 clear c6
 replace H := dn H
 obtain ⟨c7, H⟩ := H
 have c7b0 := eq_true c7
 have c7b1 := decide_eq_true c7
 clear c7
 obtain ⟨y1451, hy1451⟩ : ∃ y_ : List Int, y_ = (List.replicate (ji5 : Int).toNat 0) := ⟨_, rfl⟩
 replace H : (limbs_Mul.l0 k t1448 y1451 t1445 (t1445.length : Int) 0) = some r := zR hy1451 H
 have Ny1451 := zA hy1451
 clear hy1451
 have H' := zA H
 clear H
 go_enter Tryd.func131, Tryd.ntmps131
 go_wp2_with (first | ((with_reducible refine zG 122 rfl ?_); refine zL (some 15) rfl rfl Tryd.func122 #[.slice A0 l0.length c0] rfl ?_; (with_reducible refine (limbs_Trim.calls k (fun k_ => ((P0_ k_ ∨ P1_ k_) ∨ w.heap.size ≤ k_)) _ _ l0 t1445 _ ?side1 A3.out).mono ?_); (case side1 => exact HO0.out); rintro e w8 ⟨v1446, rfl, ho0, hb⟩; refine ⟨_, rfl, ?_⟩; replace HO0 := zA (V_below (vu HO0.out) hb); replace HO1 := zA (V_below (vu HO1.out) hb); have HO1447 := zA (V_lower (V_mono (ok' := fun k_ => ((P0_ k_ ∨ P1_ k_) ∨ w.heap.size ≤ k_)) ho0 (fun k_ hk_ => Or.elim hk_ (fun hs_ => hs_) (fun hn_ => (.inr (Nat.le_trans (below_size bq) hn_))))) (below_size bq)); replace HB := ze hb; (try clear ho0)) | ((with_reducible refine zG 122 rfl ?_); refine zL (some 17) rfl rfl Tryd.func122 #[.slice A1 l1.length c1] rfl ?_; (with_reducible refine (limbs_Trim.calls k (fun k_ => ((P0_ k_ ∨ P1_ k_) ∨ w.heap.size ≤ k_)) _ _ l1 t1448 _ ?side1 A4.out).mono ?_); (case side1 => exact HO1.out); rintro e w9 ⟨v1449, rfl, ho0, hb⟩; refine ⟨_, rfl, ?_⟩; replace HO0 := zA (V_below (vu HO0.out) hb); replace HO1 := zA (V_below (vu HO1.out) hb); replace HO1447 := zA (V_below (vu HO1447.out) hb); have HO1450 := zA (V_lower (V_mono (ok' := fun k_ => ((P0_ k_ ∨ P1_ k_) ∨ w.heap.size ≤ k_)) ho0 (fun k_ hk_ => Or.elim hk_ (fun hs_ => hs_) (fun hn_ => (.inr (Nat.le_trans (below_size bq) hn_))))) (below_size bq)); replace HB := ze hb; (try clear ho0); obtain ⟨Ao10, co10, eo10⟩ := V_slice HO1447.out; subst eo10; obtain ⟨Ao11, co11, eo11⟩ := V_slice HO1450.out; subst eo11) | ((with_reducible refine zD 23 rfl ?_); refine R_make (Kd.int .u64) _ 43 rfl (N := 23) rfl 22 _ _ rfl ji5 rfl rfl Tryd.underlying22 (.int .u64 0) 8 info43 rfl (by decide) (by omega) 0 (ok := fun _ => True) (okp := fun _ => True) rfl (fun _ hk => hk) trivial (od) (Nat.le_trans (Nat.mul_le_mul_right _ (od : ji5.toNat ≤ 35184372088832)) (by omega)) (Below.refl _ _) (Nat.le_refl _) ?_; intro v1452 w12 ho13 hb hg_ hnew_; clear hg_ hnew_; (first | rw [← Ny1451.out] at ho13 | (simp only [Int.reduceToNat] at ho13; rw [← Ny1451.out] at ho13)); replace HO0 := zA (V_elder' (vu HO0.out) (R_base ho13) hb); replace HO1 := zA (V_elder' (vu HO1.out) (R_base ho13) hb); replace HO1447 := zA (V_elder' (vu HO1447.out) (R_base ho13) hb); replace HO1450 := zA (V_elder' (vu HO1450.out) (R_base ho13) hb); have HO1453 := zA (R_lower (R_newM (M := fun k_ => (w.heap.size ≤ k_)) ho13 (below_size bq) (fun k_ h_ => h_)) (below_size bq)); replace HB := ze hb; clear hb ho13))
 go_loopg [26] k (fun kq v26 w' => ∃ (x5_1 : List Int) (x26_1 : Int), v26 = .int .i64 x26_1 ∧ Aside0 (limbs_Mul.l0 kq t1448 x5_1 t1445 (t1445.length : Int) x26_1 = some r) ∧ Aside0 (kq ≤ k) ∧ Aside0 (Kd.V (Kd.int .u64) 43 w' w.heap.size (fun k_ => ((P0_ k_ ∨ P1_ k_) ∨ w.heap.size ≤ k_) ∧ some k_ ≠ (v1452 : Value).ownBlock) (.slice Ao11 t1448.length co11) t1448) ∧ Aside0 (Kd.R (Kd.int .u64) 43 w' w.heap.size (fun k_ => (w.heap.size ≤ k_)) v1452 x5_1) ∧ Aside0 (Kd.V (Kd.int .u64) 43 w' w.heap.size (fun k_ => ((P0_ k_ ∨ P1_ k_) ∨ w.heap.size ≤ k_) ∧ some k_ ≠ (v1452 : Value).ownBlock) (.slice Ao10 t1445.length co10) t1445) ∧ Aside0 (Below w.heap.size w w'))
 case atStart => exact ⟨(y1451), (0), zi, H', ⟨Nat.le_refl _⟩, ⟨vu HO1450.out⟩, ⟨ru (R_mono HO1453.out (fun _ hk => hk.1))⟩, ⟨vu HO1447.out⟩, ⟨bq⟩⟩
 case round =>
  clear H'
  try clear c1
  try clear c6
  try clear c6b0
  try clear c6b1
  try clear c7
  try clear c7b0
  try clear c7b1
  obtain ⟨x5_1, x26_1, rfl, HA, HK1, HO_1, HO_5, HO_24, HB⟩ := hrel
  cases gk with
  | zero => exact absurd HA.out (by simp [limbs_Mul.l0])
  | succ k1 =>
   have H := HA.out
   clear HA
   simp only [limbs_Mul.l0] at H
   by_cases c14 : x26_1 < (t1445.length : Int)
   ·rw [if_pos c14] at H
    have c14b0 := decide_eq_true c14
    clear c14
    replace H := dn H
    obtain ⟨c15, H⟩ := H
    have c15b0 := decide_eq_true c15
    clear c15
    replace H := dn H
    obtain ⟨c16, H⟩ := H
    have c16b0 := decide_eq_true c16
    clear c16
    have H' := zA H
    clear H
    have p1457 : 0 ≤ (x26_1 : Int) := od
    have q1457 : x26_1 < (t1445.length : Int) := od
    obtain ⟨ad1457, e1457, hx1457_0⟩ := Kd.at_int (V_reads' HO_24.out).2.2 x26_1 p1457 q1457
    cases e1457
    replace p1457 := eq_true p1457
    replace q1457 := eq_true q1457
    go_wp2
    go_loopg [8, 33] k1 (fun kq v8 v33 w' => ∃ (x5_2 : List Int) (x8_2 : Int) (x33_2 : Int), v8 = .int .u64 x8_2 ∧ v33 = .int .i64 x33_2 ∧ Aside0 (limbs_Mul.l1 kq t1448 x5_2 x26_1 (rd t1445 x26_1) x8_2 t1445 (t1445.length : Int) x26_1 t1448 (t1448.length : Int) x33_2 = some r) ∧ Aside0 (kq ≤ k1) ∧ Aside0 (Kd.V (Kd.int .u64) 43 w' w.heap.size (fun k_ => ((P0_ k_ ∨ P1_ k_) ∨ w.heap.size ≤ k_) ∧ some k_ ≠ (v1452 : Value).ownBlock) (.slice Ao11 t1448.length co11) t1448) ∧ Aside0 (Kd.R (Kd.int .u64) 43 w' w.heap.size (fun k_ => (w.heap.size ≤ k_)) v1452 x5_2) ∧ Aside0 (Kd.V (Kd.int .u64) 43 w' w.heap.size (fun k_ => ((P0_ k_ ∨ P1_ k_) ∨ w.heap.size ≤ k_) ∧ some k_ ≠ (v1452 : Value).ownBlock) (.slice (some ad1457) t1445.length co10) t1445) ∧ Aside0 (Kd.V (Kd.int .u64) 43 w' w.heap.size (fun k_ => ((P0_ k_ ∨ P1_ k_) ∨ w.heap.size ≤ k_) ∧ some k_ ≠ (v1452 : Value).ownBlock) (.slice Ao11 t1448.length co11) t1448) ∧ Aside0 (Below w.heap.size w w'))
    case atStart => exact ⟨(x5_1), (0), (0), zi, zi, H', ⟨Nat.le_refl _⟩, ⟨vu HO_1.out⟩, ⟨ru HO_5.out⟩, ⟨vu HO_24.out⟩, ⟨vu HO_1.out⟩, ⟨bq⟩⟩
    case round =>
     clear H'
     try clear c1
     try clear c6
     try clear c6b0
     try clear c6b1
     try clear c7
     try clear c7b0
     try clear c7b1
     try clear c14
     try clear c14b0
     try clear c15
     try clear c15b0
     try clear c16
     try clear c16b0
     try clear hx1457_0
     try clear p1457
     try clear q1457
     obtain ⟨x5_2, x8_2, x33_2, rfl, rfl, HA, HK2, HO_1, HO_5, HO_24, HO_31, HB⟩ := hrel
     cases gk with
     | zero => exact absurd HA.out (by simp [limbs_Mul.l1])
     | succ k2 =>
      have H := HA.out
      clear HA
      simp only [limbs_Mul.l1] at H
      by_cases c17 : x33_2 < (t1448.length : Int)
      ·rw [if_pos c17] at H
       have c17b0 := decide_eq_true c17
       clear c17
       replace H := dn H
       obtain ⟨c18, H⟩ := H
       have c18b0 := decide_eq_true c18
       clear c18
       replace H := dn H
       obtain ⟨c19, H⟩ := H
       have c19b0 := decide_eq_true c19
       clear c19
       obtain ⟨⟨t1459, t1460⟩, A20, H⟩ := zh H
       (try dsimp only at H)
       obtain ⟨ji21, hji21⟩ : ∃ j_ : Int, (wrap64 (x26_1 + x33_2)) = j_ := ⟨_, rfl⟩
       replace H : (if 0 ≤ (ji21) then (if (ji21) < (x5_2.length : Int) then (limbs_Mul.l1 k2 t1448 (x5_2.set ((ji21) : Int).toNat (add64s (rd x5_2 (ji21)) (add64s t1460 x8_2 0) 0)) x26_1 (rd t1445 x26_1) (IntKind.u64.wrap ((IntKind.u64.wrap (t1459 + (add64c t1460 x8_2 0))) + (add64c (rd x5_2 (ji21)) (add64s t1460 x8_2 0) 0))) t1445 (t1445.length : Int) x26_1 t1448 (t1448.length : Int) (wrap64 (x33_2 + 1))) else (none)) else (none)) = some r := zQ hji21 H
       (try rw [hji21] at A20)
       have hji21w : (IntKind.i64.wrap (x26_1 + x33_2)) = ji21 := (i64_w _).trans hji21
       replace H := dn H
       obtain ⟨c22, H⟩ := H
       have c22b0 := decide_eq_true c22
       clear c22
       replace H := dn H
       obtain ⟨c23, H⟩ := H
       have c23b0 := decide_eq_true c23
       clear c23
       obtain ⟨y1462, hy1462⟩ : ∃ y_ : List Int, y_ = (x5_2.set ((ji21) : Int).toNat (add64s (rd x5_2 (ji21)) (add64s t1460 x8_2 0) 0)) := ⟨_, rfl⟩
       replace H : (limbs_Mul.l1 k2 t1448 y1462 x26_1 (rd t1445 x26_1) (IntKind.u64.wrap ((IntKind.u64.wrap (t1459 + (add64c t1460 x8_2 0))) + (add64c (rd x5_2 (ji21)) (add64s t1460 x8_2 0) 0))) t1445 (t1445.length : Int) x26_1 t1448 (t1448.length : Int) (wrap64 (x33_2 + 1))) = some r := zR hy1462 H
       have Ny1462 := zA hy1462
       clear hy1462
       have H' := zA H
       clear H
       have p1458 : 0 ≤ (x33_2 : Int) := od
       have q1458 : x33_2 < (t1448.length : Int) := od
       obtain ⟨ad1458, e1458, hx1458_0⟩ := Kd.at_int (V_reads' HO_31.out).2.2 x33_2 p1458 q1458
       cases e1458
       replace p1458 := eq_true p1458
       replace q1458 := eq_true q1458
       go_wp2_with (first | ((with_reducible refine zG 140 rfl ?_); refine zL (some 41) rfl rfl Tryd.func140 #[.int .u64 (rd t1445 x26_1), .int .u64 (rd t1448 x33_2)] rfl ?_; (with_reducible refine (bits_Mul64.calls (rd t1445 x26_1) (rd t1448 x33_2) t1459 t1460 _ A20.out).mono ?_); rintro e w' ⟨rfl, ⟨nd, rfl⟩⟩; refine ⟨_, rfl, ?_⟩; (try (rw [drewN_self wr]; generalize hq_ : World.drewN wr _ = wr; have n0_ : Aside0 (Kd.V (Kd.int .u64) 43 wr w.heap.size (fun k_ => ((P0_ k_ ∨ P1_ k_) ∨ w.heap.size ≤ k_) ∧ some k_ ≠ (v1452 : Value).ownBlock) (.slice (some ad1458) t1448.length co11) t1448) := ⟨by rw [← hq_]; exact (vu HO_1.out)⟩; have n1_ : Aside0 (Kd.V (Kd.int .u64) 43 wr w.heap.size (fun k_ => ((P0_ k_ ∨ P1_ k_) ∨ w.heap.size ≤ k_) ∧ some k_ ≠ (v1452 : Value).ownBlock) (.slice (some ad1457) t1445.length co10) t1445) := ⟨by rw [← hq_]; exact (vu HO_24.out)⟩; have n2_ : Aside0 (Kd.V (Kd.int .u64) 43 wr w.heap.size (fun k_ => ((P0_ k_ ∨ P1_ k_) ∨ w.heap.size ≤ k_) ∧ some k_ ≠ (v1452 : Value).ownBlock) (.slice (some ad1458) t1448.length co11) t1448) := ⟨by rw [← hq_]; exact (vu HO_31.out)⟩; have n3_ : Aside0 (Kd.R (Kd.int .u64) 43 wr w.heap.size (fun k_ => (w.heap.size ≤ k_)) v1452 x5_2) := ⟨by rw [← hq_]; exact (ru HO_5.out)⟩; have n4_ : Aside0 (Below w.heap.size w wr) := ⟨by rw [← hq_]; exact bq⟩; clear HO_1 HO_24 HO_31 HO_5 HB hq_; have HO_1 := n0_; have HO_24 := n1_; have HO_31 := n2_; have HO_5 := n3_; have HB := n4_; clear n0_ n1_ n2_ n3_ n4_)); obtain ⟨Ao25, co25, eo25⟩ := R_slice HO_5.out; subst eo25; have p1461 : 0 ≤ ((ji21) : Int) := od; have q1461 : (ji21) < (x5_2.length : Int) := od; obtain ⟨ad1461, e1461, hx1461_0⟩ := Kd.at_int (R_reads' HO_5.out).2.2 (ji21) p1461 q1461; cases e1461; replace p1461 := eq_true p1461; replace q1461 := eq_true q1461; have p24 : 0 ≤ ((ji21) : Int) := od; have q24 : ((ji21) : Int) < ((x5_2.length : Int) : Int) := od; obtain ⟨go24, co24, eo24, gb24, gl24, cl24, HG24⟩ := R_form HO_5.out (by omega); (first | cases eo24 | (injection eo24 with ea_ en_ ec_; (first | subst ea_ | (injection ea_ with ea_; subst ea_)); subst ec_; clear en_)); have GB24 := zA gb24; have GG24 := zA HG24; clear gb24 gl24 HG24; (first | simp only [add_plain] at hx1461_0 | skip); obtain ⟨hx24_0, hf24_0⟩ := R_celln 0 HO_5.out ((ji21) : Int) p24 q24; replace p24 := eq_true p24; replace q24 := eq_true q24; obtain ⟨hy26_, hz26_⟩ := R_celln 0 HO_5.out ((ji21) : Int) (od) (od); have HP26 := R_putg HO_5.out ((ji21) : Int) (add64s (rd x5_2 (ji21)) (add64s t1460 x8_2 0) 0)) | ((with_reducible refine gate_store (t := 43) (p := 68) rfl ?_); refine store_event (t := 43) (p := 68) (v := ?vo_w27) (w1 := (wr.setCell ⟨go24, ((ji21) : Int).toNat, none⟩ (.int .u64 (add64s (rd x5_2 (ji21)) (add64s t1460 x8_2 0) 0)))) ?hg ?ho ?hn ?hr ?_; (case ho => rfl); (case hg => rfl); (case hn => rfl); (case hr => first | (go_simp; done) | (go_simp; rfl)); intro w27 hw; have hg : wr.grownBy w27 (some go24) := (by rw [hw]; exact HP26.2); have hp_ : Kd.R (Kd.int .u64) 43 w27 w.heap.size (fun k_ => (w.heap.size ≤ k_)) (.slice (some ⟨go24, 0, none⟩) x5_2.length co25) y1462 := (by rw [hw, Ny1462.out]; exact HP26.1); clear HP26; replace HO_1 := zA (V_afterv (v := (.slice (some ⟨go24, 0, none⟩) x5_2.length co25)) (v1 := (.slice (some ⟨go24, 0, none⟩) x5_2.length co25)) (ok := (fun k_ => ((P0_ k_ ∨ P1_ k_) ∨ w.heap.size ≤ k_))) (vu HO_1.out) hg (.inl rfl)); replace HO_5 := zA (hp_); replace HO_24 := zA (V_afterv (v := (.slice (some ⟨go24, 0, none⟩) x5_2.length co25)) (v1 := (.slice (some ⟨go24, 0, none⟩) x5_2.length co25)) (ok := (fun k_ => ((P0_ k_ ∨ P1_ k_) ∨ w.heap.size ≤ k_))) (vu HO_24.out) hg (.inl rfl)); replace HO_31 := zA (V_afterv (v := (.slice (some ⟨go24, 0, none⟩) x5_2.length co25)) (v1 := (.slice (some ⟨go24, 0, none⟩) x5_2.length co25)) (ok := (fun k_ => ((P0_ k_ ∨ P1_ k_) ∨ w.heap.size ≤ k_))) (vu HO_31.out) hg (.inl rfl)); replace HB := zA ((by rw [hw]; exact below_set (HB.out) GB24.out : Below w.heap.size w w27)); clear hg hw hp_))
       go_roundg k2
       case measure => have := HK1.out; have := HK2.out; omega
       case rel => exact ⟨(y1462), (IntKind.u64.wrap ((IntKind.u64.wrap (t1459 + (add64c t1460 x8_2 0))) + (add64c (rd x5_2 (ji21)) (add64s t1460 x8_2 0) 0))), (wrap64 (x33_2 + 1)), (by first | rfl | (simp; done) | (simp only [← hji21] <;> (first | rfl | simp)) | (simp [*]; done)), zi, (by first | exact H' | (simp only [hji5, hji21]; exact H') | (simp only [hji5, hji21] at H' ⊢; exact H')), ⟨by have := HK1.out; have := HK2.out; omega⟩, ⟨vu HO_1.out⟩, ⟨ru HO_5.out⟩, ⟨vu HO_24.out⟩, ⟨vu HO_31.out⟩, ⟨bq⟩⟩
      rw [if_neg c17] at H
      have c17b0 := decide_eq_false c17
      clear c17
      obtain ⟨ji28, hji28⟩ : ∃ j_ : Int, (wrap64 (x26_1 + (t1448.length : Int))) = j_ := ⟨_, rfl⟩
      replace H : (if 0 ≤ (ji28) then (if (ji28) < (x5_2.length : Int) then (limbs_Mul.l0 k2 t1448 (x5_2.set ((ji28) : Int).toNat x8_2) t1445 (t1445.length : Int) (wrap64 (x26_1 + 1))) else (none)) else (none)) = some r := zQ hji28 H
      have hji28w : (IntKind.i64.wrap (x26_1 + (t1448.length : Int))) = ji28 := (i64_w _).trans hji28
      replace H := dn H
      obtain ⟨c29, H⟩ := H
      have c29b0 := decide_eq_true c29
      clear c29
      replace H := dn H
      obtain ⟨c30, H⟩ := H
      have c30b0 := decide_eq_true c30
      clear c30
      obtain ⟨y1463, hy1463⟩ : ∃ y_ : List Int, y_ = (x5_2.set ((ji28) : Int).toNat x8_2) := ⟨_, rfl⟩
      replace H : (limbs_Mul.l0 k2 t1448 y1463 t1445 (t1445.length : Int) (wrap64 (x26_1 + 1))) = some r := zR hy1463 H
      have Ny1463 := zA hy1463
      clear hy1463
      have H' := zA H
      clear H
      have p31 : 0 ≤ ((ji28) : Int) := od
      have q31 : ((ji28) : Int) < ((x5_2.length : Int) : Int) := od
      obtain ⟨go31, co31, eo31, gb31, gl31, cl31, HG31⟩ := R_form HO_5.out (by omega)
      (first | cases eo31 | (injection eo31 with ea_ en_ ec_; (first | subst ea_ | (injection ea_ with ea_; subst ea_)); subst ec_; clear en_))
      have GB31 := zA gb31
      have GG31 := zA HG31
      clear gb31 gl31 HG31
      obtain ⟨hx31_0, hf31_0⟩ := R_celln 0 HO_5.out ((ji28) : Int) p31 q31
      replace p31 := eq_true p31
      replace q31 := eq_true q31
      have HP32 := R_putg HO_5.out ((ji28) : Int) x8_2
      go_wp2_with (first | ((with_reducible refine gate_store (t := 43) (p := 79) rfl ?_); refine store_event (t := 43) (p := 79) (v := ?vo_w33) (w1 := (wr.setCell ⟨go31, ((ji28) : Int).toNat, none⟩ (.int .u64 x8_2))) ?hg ?ho ?hn ?hr ?_; (case ho => rfl); (case hg => rfl); (case hn => rfl); (case hr => first | (go_simp; done) | (go_simp; rfl)); intro w33 hw; have hg : wr.grownBy w33 (some go31) := (by rw [hw]; exact HP32.2); have hp_ : Kd.R (Kd.int .u64) 43 w33 w.heap.size (fun k_ => (w.heap.size ≤ k_)) (.slice (some ⟨go31, 0, none⟩) x5_2.length co31) y1463 := (by rw [hw, Ny1463.out]; exact HP32.1); clear HP32; replace HO_1 := zA (V_afterv (v := (.slice (some ⟨go31, 0, none⟩) x5_2.length co31)) (v1 := (.slice (some ⟨go31, 0, none⟩) x5_2.length co31)) (ok := (fun k_ => ((P0_ k_ ∨ P1_ k_) ∨ w.heap.size ≤ k_))) (vu HO_1.out) hg (.inl rfl)); replace HO_5 := zA (hp_); replace HO_24 := zA (V_afterv (v := (.slice (some ⟨go31, 0, none⟩) x5_2.length co31)) (v1 := (.slice (some ⟨go31, 0, none⟩) x5_2.length co31)) (ok := (fun k_ => ((P0_ k_ ∨ P1_ k_) ∨ w.heap.size ≤ k_))) (vu HO_24.out) hg (.inl rfl)); replace HO_31 := zA (V_afterv (v := (.slice (some ⟨go31, 0, none⟩) x5_2.length co31)) (v1 := (.slice (some ⟨go31, 0, none⟩) x5_2.length co31)) (ok := (fun k_ => ((P0_ k_ ∨ P1_ k_) ∨ w.heap.size ≤ k_))) (vu HO_31.out) hg (.inl rfl)); replace HB := zA ((by rw [hw]; exact below_set (HB.out) GB31.out : Below w.heap.size w w33)); clear hg hw hp_))
      go_roundg k2
      case measure => have := HK1.out; have := HK2.out; omega
      case rel => exact ⟨(y1463), (wrap64 (x26_1 + 1)), zi, (by first | exact H' | (simp only [hji5, hji28]; exact H') | (simp only [hji5, hji28] at H' ⊢; exact H')), ⟨by have := HK1.out; have := HK2.out; omega⟩, ⟨vu HO_1.out⟩, ⟨ru HO_5.out⟩, ⟨vu HO_24.out⟩, ⟨bq⟩⟩
   rw [if_neg c14] at H
   have c14b0 := decide_eq_false c14
   clear c14
   obtain ⟨t1454, A34, H⟩ := zh H
   obtain rfl := Option.some.inj H
   obtain ⟨Ao35, co35, eo35⟩ := R_slice HO_5.out
   subst eo35
   go_wp2_with (first | ((with_reducible refine zG 122 rfl ?_); refine zL (some 82) rfl rfl Tryd.func122 #[.slice Ao35 x5_1.length co35] rfl ?_; (with_reducible refine (limbs_Trim.calls k1 (fun k_ => some k_ = (.slice Ao35 x5_1.length co35 : Value).ownBlock) _ _ x5_1 t1454 _ ?side1 A34.out).mono ?_); (case side1 => exact R_V (R_tight rfl (HO_5.out))); rintro e w36 ⟨v1455, rfl, ho0, hb⟩; refine ⟨_, rfl, ?_⟩; replace HO_1 := zA (V_below (vu HO_1.out) hb); replace HO_24 := zA (V_below (vu HO_24.out) hb); have HO1456 := zA (V_lower (V_mono (ok' := fun k_ => ((P0_ k_ ∨ P1_ k_) ∨ w.heap.size ≤ k_)) ho0 (fun k_ hk_ => Or.elim hk_ (fun hs_ => (.inr (((HO_5.out).1 k_ hs_.symm)))) (fun hn_ => (.inr (Nat.le_trans (below_size bq) hn_))))) (below_size bq)); replace HO_5 := zA (R_below (ru HO_5.out) hb); replace HB := ze hb; (try clear ho0)))
   go_ret
   exact ⟨_, by first | rfl | (simp [errW_none, errW_some] <;> rfl) | (simp only [← hji5]; first | rfl | (simp [errW_none, errW_some] <;> rfl)) | (simp [*, errW_none, errW_some] <;> rfl), vu HO1456.out, bq⟩
def raw_Mul.f (k : Nat) (a0_0 : Bool) (l0_1 : List Int) (a0_2 : Int) (a1_0 : Bool) (l1_1 : List Int) (a1_2 : Int) : Option (Bool × List Int × Int) := (limbs_Mul.f k l0_1 l1_1).bind fun t1467 => ((raw_Form.f k (a0_0 != a1_0) t1467 (wrap64 (a0_2 + a1_2))).bind fun bt1470 => (some (bt1470.1, bt1470.2.1, bt1470.2.2)))
def raw_Mul.T1 : Bool × List (List Nat × List Nat) := (true, [([], []), ([0], [0]), ([], []), ([2], [2]), ([1, 3], [1, 3]), ([], []), ([5], [5]), ([], []), ([7], [7]), ([6, 8], [6, 8]), ([], []), ([10], [10]), ([], []), ([12], [12]), ([11, 13], [11, 13]), ([4, 9, 14, 9], [4, 9, 14]), ([15, 15, 0, 1, 2, 3, 4, 5, 6, 7, 8, 9, 10, 11, 12, 13, 14, 15], [15])])
def raw_Mul.B1 : List Nat := [0, 1, 0, 4, 15, 0, 32, 0, 128, 480, 0, 1024, 0, 4096, 15360, 32767, 65535]
theorem raw_Mul.tab1 : rtab .any (opsOf Tryd.f107 1) = raw_Mul.T1 := by kernel_rfl
theorem raw_Mul.bits1 : waitsOk raw_Mul.T1.2 raw_Mul.B1 = true := by kernel_rfl
set_option maxHeartbeats 8000000 in
set_option maxRecDepth 100000 in
theorem raw_Mul.calls (k : Nat) (a0_0 : Bool) (P0_1_ : Nat → Prop) (A0_1 : Option Addr) (c0_1 : Nat) (l0_1 : List Int) (a0_2 : Int) (a1_0 : Bool) (P1_1_ : Nat → Prop) (A1_1 : Option Addr) (c1_1 : Nat) (l1_1 : List Int) (a1_2 : Int) (r1 : Bool) (r2 : List Int) (r3 : Int) (w : World) (hs0_1 : Kd.V (Kd.int .u64) 43 w w.heap.size (fun k_ => P0_1_ k_) (.slice A0_1 l0_1.length c0_1) l0_1) (hs1_1 : Kd.V (Kd.int .u64) 43 w w.heap.size (fun k_ => P1_1_ k_) (.slice A1_1 l1_1.length c1_1) l1_1) (hT : Laid w) (h : raw_Mul.f k a0_0 l0_1 a0_2 a1_0 l1_1 a1_2 = some (r1, r2, r3)) :
  Calls Tryd.prog 107 #[.agg #[.bool a0_0, .slice A0_1 l0_1.length c0_1, .int .i64 a0_2], .agg #[.bool a1_0, .slice A1_1 l1_1.length c1_1, .int .i64 a1_2]] w fun e w' => ∃ v1_ : Value, e = .returned (.agg #[.bool r1, v1_, .int .i64 r3]) ∧ Kd.V (Kd.int .u64) 43 w' w.heap.size (fun k_ => ((P0_1_ k_ ∨ P1_1_ k_) ∨ w.heap.size ≤ k_)) v1_ r2 ∧ Below w.heap.size w w' := by
 have hu25 := Tryd.underlying25
 have HO0_1 := zA (show Kd.V (Kd.int .u64) 43 w w.heap.size (fun k_ => ((P0_1_ k_ ∨ P1_1_ k_) ∨ w.heap.size ≤ k_)) (.slice A0_1 l0_1.length c0_1) l0_1 from V_mono hs0_1 (fun k_ hk => .inl (.inl hk)))
 have HO1_1 := zA (show Kd.V (Kd.int .u64) 43 w w.heap.size (fun k_ => ((P0_1_ k_ ∨ P1_1_ k_) ∨ w.heap.size ≤ k_)) (.slice A1_1 l1_1.length c1_1) l1_1 from V_mono hs1_1 (fun k_ hk => .inl (.inr hk)))
 have HB := zA (Below.refl w.heap.size w)
 have H : ((limbs_Mul.f k l0_1 l1_1).bind fun t1467 => ((raw_Form.f k (a0_0 != a1_0) t1467 (wrap64 (a0_2 + a1_2))).bind fun bt1470 => (some (bt1470.1, bt1470.2.1, bt1470.2.2)))) = some (r1, r2, r3) := h
 clear h
 obtain ⟨t1467, A3, H⟩ := zh H
 obtain ⟨⟨t1470, t1471, t1474⟩, A4, H⟩ := zh H
 (try dsimp only at H)
 simp only [Option.some.injEq, Prod.mk.injEq] at H
 obtain ⟨rfl, rfl, rfl⟩ := H
 go_enter Tryd.func107, Tryd.ntmps107
 try go_wp2_with (first | ((with_reducible refine zD 2 rfl ?_); refine zn (N := 2) (cs := #[.bool a0_0, .slice A0_1 l0_1.length c0_1, .int .i64 a0_2]) (t := 25) rfl rfl ?_; intro gb1464 hg w5 hbox hb; replace HO0_1 := zA (V_below (V_elderB (vu HO0_1.out) gb1464 (Nat.le_of_eq hg.symm)) hb); replace HO1_1 := zA (V_below (V_elderB (vu HO1_1.out) gb1464 (Nat.le_of_eq hg.symm)) hb); have BK1464 := zA (hbox); have GW1464 := zw hg; replace HB := ze hb; clear hb hbox hg) | ((with_reducible refine zD 3 rfl ?_); refine zn (N := 3) (cs := #[.bool a1_0, .slice A1_1 l1_1.length c1_1, .int .i64 a1_2]) (t := 25) rfl rfl ?_; intro gb1465 hg w6 hbox hb; replace HO0_1 := zA (V_below (V_elderB (vu HO0_1.out) gb1465 (Nat.le_of_eq hg.symm)) hb); replace HO1_1 := zA (V_below (V_elderB (vu HO1_1.out) gb1465 (Nat.le_of_eq hg.symm)) hb); have BK1465 := zA (hbox); have GW1465 := zx hg; replace HB := zf hb; have NB1464_1465 := zl BK1464 hg; have NB1465_1464 := zg BK1464 hg; replace BK1464 := zb BK1464 hb; clear hb hbox hg) | ((with_reducible refine zD 4 rfl ?_); refine zn (N := 4) (cs := #[.bool false, .slice none 0 0, .int .i64 0]) (t := 25) rfl rfl ?_; intro gb1466 hg w7 hbox hb; replace HO0_1 := zA (V_below (V_elderB (vu HO0_1.out) gb1466 (Nat.le_of_eq hg.symm)) hb); replace HO1_1 := zA (V_below (V_elderB (vu HO1_1.out) gb1466 (Nat.le_of_eq hg.symm)) hb); have BK1466 := zA (hbox); have GW1466 := zx hg; replace HB := zf hb; have NB1464_1466 := zl BK1464 hg; have NB1466_1464 := zg BK1464 hg; replace BK1464 := zb BK1464 hb; have NB1465_1466 := zl BK1465 hg; have NB1466_1465 := zg BK1465 hg; replace BK1465 := zb BK1465 hb; clear hb hbox hg))
 replace HO0_1 := zA (V_drew HO0_1.out)
 replace HO1_1 := zA (V_drew HO1_1.out)
 replace BK1464 := zA (blk_drew BK1464.out)
 replace BK1465 := zA (blk_drew BK1465.out)
 replace BK1466 := zA (blk_drew BK1466.out)
 replace HB := zA (below_drew1 HB.out)
 refine start_ (n := 17) (S := fun w' => z4 w' gb1464 (.bool a0_0) (.slice A0_1 l0_1.length c0_1) (.int .i64 a0_2) (z3 w' gb1465 (.bool a1_0) (.slice A1_1 l1_1.length c1_1) (.int .i64 a1_2))) (ds := []) #[false, false, false, false, false, false, false, false, false, false, false, false, false, false, false, false, false] (by kernel_rfl) rfl rfl (za BK1464 (zz BK1465)) (fun hHeld => ?_); refine with_tabW raw_Mul.tab1 raw_Mul.bits1 (fun HT_ HW_ => ?_)
 generalize w7.drew = w8 at HO0_1 HO1_1 BK1464 BK1465 BK1466 HB hHeld ⊢
 refine pure_ (i := 0) (N := some 5) (v := ?_) (a' := ?_) #[true, false, false, false, false, false, false, false, false, false, false, false, false, false, false, false, false] rfl rfl (any_of HT_.out (by kernel_rfl)) (fun _ _ _ h => h) (Or.inl ⟨by rfl, ?_⟩) ?_ ?_
 rotate_left
 ·intro w'
  go_simp
  with_reducible rfl
 rotate_left
 ·exact zq
 refine pure_ (i := 2) (N := some 7) (v := ?_) (a' := ?_) #[true, false, true, false, false, false, false, false, false, false, false, false, false, false, false, false, false] rfl rfl (any_of HT_.out (by kernel_rfl)) (fun _ _ _ h => h) (Or.inl ⟨by rfl, ?_⟩) ?_ ?_
 rotate_left
 ·intro w'
  go_simp
  with_reducible rfl
 rotate_left
 ·exact zq
 refine pure_ (i := 5) (N := some 10) (v := ?_) (a' := ?_) #[true, false, true, false, false, true, false, false, false, false, false, false, false, false, false, false, false] rfl rfl (any_of HT_.out (by kernel_rfl)) (fun _ _ _ h => h) (Or.inl ⟨by rfl, ?_⟩) ?_ ?_
 rotate_left
 ·intro w'
  go_simp
  with_reducible rfl
 rotate_left
 ·exact zq
 refine pure_ (i := 7) (N := some 12) (v := ?_) (a' := ?_) #[true, false, true, false, false, true, false, true, false, false, false, false, false, false, false, false, false] rfl rfl (any_of HT_.out (by kernel_rfl)) (fun _ _ _ h => h) (Or.inl ⟨by rfl, ?_⟩) ?_ ?_
 rotate_left
 ·intro w'
  go_simp
  with_reducible rfl
 rotate_left
 ·exact zq
 refine pure_ (i := 10) (N := some 15) (v := ?_) (a' := ?_) #[true, false, true, false, false, true, false, true, false, false, true, false, false, false, false, false, false] rfl rfl (any_of HT_.out (by kernel_rfl)) (fun _ _ _ h => h) (Or.inl ⟨by rfl, ?_⟩) ?_ ?_
 rotate_left
 ·intro w'
  go_simp
  with_reducible rfl
 rotate_left
 ·exact zq
 refine pure_ (i := 12) (N := some 17) (v := ?_) (a' := ?_) #[true, false, true, false, false, true, false, true, false, false, true, false, true, false, false, false, false] rfl rfl (any_of HT_.out (by kernel_rfl)) (fun _ _ _ h => h) (Or.inl ⟨by rfl, ?_⟩) ?_ ?_
 rotate_left
 ·intro w'
  go_simp
  with_reducible rfl
 rotate_left
 ·exact zq
 refine take_ (i := 1) (N := some 6) (v := ?_) (a' := ?_) #[true, true, true, false, false, true, false, true, false, false, true, false, true, false, false, false, false] rfl rfl (take_ofW HT_.out HW_.out (by kernel_rfl)) (fun _ _ _ h => h) (Or.inl ⟨by rfl, ?_⟩) hHeld ?_ ?_
 rotate_left
 ·rintro w' ⟨s0, s1, s2, s3, s4, s5⟩
  go_simp
  with_reducible rfl
 rotate_left
 ·exact zq
 refine take_ (i := 3) (N := some 8) (v := ?_) (a' := ?_) #[true, true, true, true, false, true, false, true, false, false, true, false, true, false, false, false, false] rfl rfl (take_ofW HT_.out HW_.out (by kernel_rfl)) (fun _ _ _ h => h) (Or.inl ⟨by rfl, ?_⟩) hHeld ?_ ?_
 rotate_left
 ·rintro w' ⟨s0, s1, s2, s3, s4, s5⟩
  go_simp
  with_reducible rfl
 rotate_left
 ·exact zq
 refine pure_ (i := 4) (N := some 9) (v := ?_) (a' := ?_) #[true, true, true, true, true, true, false, true, false, false, true, false, true, false, false, false, false] rfl rfl (any_of HT_.out (by kernel_rfl)) (fun _ _ _ h => h) (Or.inl ⟨by rfl, ?_⟩) ?_ ?_
 rotate_left
 ·intro w'
  go_simp
  with_reducible rfl
 rotate_left
 ·exact zq
 refine take_ (i := 6) (N := some 11) (v := ?_) (a' := ?_) #[true, true, true, true, true, true, true, true, false, false, true, false, true, false, false, false, false] rfl rfl (take_ofW HT_.out HW_.out (by kernel_rfl)) (fun _ _ _ h => h) (Or.inl ⟨by rfl, ?_⟩) hHeld ?_ ?_
 rotate_left
 ·rintro w' ⟨s0, s1, s2, s3, s4, s5⟩
  go_simp
  with_reducible rfl
 rotate_left
 ·exact zq
 refine take_ (i := 8) (N := some 13) (v := ?_) (a' := ?_) #[true, true, true, true, true, true, true, true, true, false, true, false, true, false, false, false, false] rfl rfl (take_ofW HT_.out HW_.out (by kernel_rfl)) (fun _ _ _ h => h) (Or.inl ⟨by rfl, ?_⟩) hHeld ?_ ?_
 rotate_left
 ·rintro w' ⟨s0, s1, s2, s3, s4, s5⟩
  go_simp
  with_reducible rfl
 rotate_left
 ·exact zq
 refine take_ (i := 11) (N := some 16) (v := ?_) (a' := ?_) #[true, true, true, true, true, true, true, true, true, false, true, true, true, false, false, false, false] rfl rfl (take_ofW HT_.out HW_.out (by kernel_rfl)) (fun _ _ _ h => h) (Or.inl ⟨by rfl, ?_⟩) hHeld ?_ ?_
 rotate_left
 ·rintro w' ⟨s0, s1, s2, s3, s4, s5⟩
  go_simp
  with_reducible rfl
 rotate_left
 ·exact zq
 refine take_ (i := 13) (N := some 18) (v := ?_) (a' := ?_) #[true, true, true, true, true, true, true, true, true, false, true, true, true, true, false, false, false] rfl rfl (take_ofW HT_.out HW_.out (by kernel_rfl)) (fun _ _ _ h => h) (Or.inl ⟨by rfl, ?_⟩) hHeld ?_ ?_
 rotate_left
 ·rintro w' ⟨s0, s1, s2, s3, s4, s5⟩
  go_simp
  with_reducible rfl
 rotate_left
 ·exact zq
 refine pure_ (i := 14) (N := some 19) (v := ?_) (a' := ?_) #[true, true, true, true, true, true, true, true, true, false, true, true, true, true, true, false, false] rfl rfl (any_of HT_.out (by kernel_rfl)) (fun _ _ _ h => h) (Or.inl ⟨by rfl, ?_⟩) ?_ ?_
 rotate_left
 ·intro w'
  go_simp
  with_reducible rfl
 rotate_left
 ·exact zq
 refine one_ (i := 9) (N := some 14) #[true, true, true, true, true, true, true, true, true, true, true, true, true, true, true, false, false] rfl rfl (one_of HT_.out (by kernel_rfl)) (by decide) (fun K hK => ?_)
 refine goes_ Tryd.func131 (by kernel_rfl) rfl #[.slice A0_1 l0_1.length c0_1, .slice A1_1 l1_1.length c1_1] (by rfl) rfl rfl ga ?_
 with_reducible refine (limbs_Mul.calls k (fun k_ => (((((P0_1_ k_ ∨ P1_1_ k_) ∨ w.heap.size ≤ k_) ∧ k_ ≠ gb1464) ∧ k_ ≠ gb1465) ∧ k_ ≠ gb1466)) _ _ l0_1 (fun k_ => (((((P0_1_ k_ ∨ P1_1_ k_) ∨ w.heap.size ≤ k_) ∧ k_ ≠ gb1464) ∧ k_ ≠ gb1465) ∧ k_ ≠ gb1466)) _ _ l1_1 t1467 _ ?side1 ?side2 A3.out).mono ?_
 (case side1 => exact HO0_1.out)
 (case side2 => exact HO1_1.out)
 rintro e w9 ⟨v1468, rfl, ho0, hb⟩
 refine ⟨_, rfl, ?_⟩
 replace HO0_1 := zA (V_below (vu HO0_1.out) hb)
 replace HO1_1 := zA (V_below (vu HO1_1.out) hb)
 have HO1469 := zA (V_lower (V_mono (ok' := fun k_ => ((P0_1_ k_ ∨ P1_1_ k_) ∨ w.heap.size ≤ k_) ∧ k_ ≠ gb1464 ∧ k_ ≠ gb1465 ∧ k_ ≠ gb1466) ho0 (fun k_ hk_ => ⟨Or.elim hk_ (fun hs_ => Or.elim hs_ (fun hs_ => hs_.1.1.1) (fun hs_ => hs_.1.1.1)) (fun hn_ => (.inr (Nat.le_trans (below_size zs) hn_))), Or.elim hk_ (fun hs_ => Or.elim hs_ (fun hs_ => hs_.1.1.2) (fun hs_ => hs_.1.1.2)) (fun hn_ => (zj BK1464 k_ hn_)), Or.elim hk_ (fun hs_ => Or.elim hs_ (fun hs_ => hs_.1.2) (fun hs_ => hs_.1.2)) (fun hn_ => (zj BK1465 k_ hn_)), Or.elim hk_ (fun hs_ => Or.elim hs_ (fun hs_ => hs_.2) (fun hs_ => hs_.2)) (fun hn_ => (zj BK1466 k_ hn_))⟩)) (below_size zs))
 replace BK1464 := zb BK1464 hb
 replace BK1465 := zb BK1465 hb
 replace BK1466 := zb BK1466 hb
 replace HB := zf hb
 (try clear hb)
 (try clear hb2)
 (try clear hk)
 (try clear hi)
 (try clear ho0)
 obtain ⟨Ao10, co10, eo10⟩ := V_slice HO1469.out
 (first | subst eo10 | (injection eo10 with f1_ f2_ f3_; have f4_ := f1_.symm; have f5_ := f3_.symm; clear f1_ f2_ f3_; subst f4_; subst f5_))
 refine hK.out _ _ (za BK1464 (zz BK1465)) (fun hHeld => ?_)
 clear hK K
 refine norm_ (a' := ?_) ?_ ?_
 rotate_left
 ·show Act.put _ (some 14) _ = _
  simp only [Act.put, List.setIfInBounds_toArray, List.set_cons_zero, List.set_cons_succ, i64_w, i32_w]
  rfl
 refine one_ (i := 15) (N := some 20) #[true, true, true, true, true, true, true, true, true, true, true, true, true, true, true, true, false] rfl rfl (one_of HT_.out (by kernel_rfl)) (by decide) (fun K hK => ?_)
 refine goes_ Tryd.func91 (by kernel_rfl) rfl #[.bool (a0_0 != a1_0), .slice Ao10 t1467.length co10, .int .i64 (wrap64 (a0_2 + a1_2))] (by rfl) rfl rfl ga ?_
 with_reducible refine (raw_Form.calls k (a0_0 != a1_0) (fun k_ => (((P0_1_ k_ ∨ P1_1_ k_) ∨ w.heap.size ≤ k_) ∧ (k_ ≠ gb1464 ∧ (k_ ≠ gb1465 ∧ k_ ≠ gb1466)))) _ _ t1467 (wrap64 (a0_2 + a1_2)) t1470 t1471 t1474 _ ?side1 (laid_below hT zs) A4.out).mono ?_
 (case side1 => exact HO1469.out)
 rintro e w11 ⟨v1472, rfl, ho0, hb⟩
 refine ⟨_, rfl, ?_⟩
 replace HO0_1 := zA (V_below (vu HO0_1.out) hb)
 replace HO1_1 := zA (V_below (vu HO1_1.out) hb)
 replace HO1469 := zA (V_below (vu HO1469.out) hb)
 have HO1473 := zA (V_lower (V_mono (ok' := fun k_ => ((P0_1_ k_ ∨ P1_1_ k_) ∨ w.heap.size ≤ k_) ∧ k_ ≠ gb1464 ∧ k_ ≠ gb1465 ∧ k_ ≠ gb1466) ho0 (fun k_ hk_ => ⟨Or.elim hk_ (fun hs_ => hs_.1) (fun hn_ => (.inr (Nat.le_trans (below_size zs) hn_))), Or.elim hk_ (fun hs_ => hs_.2.1) (fun hn_ => (zj BK1464 k_ hn_)), Or.elim hk_ (fun hs_ => hs_.2.2.1) (fun hn_ => (zj BK1465 k_ hn_)), Or.elim hk_ (fun hs_ => hs_.2.2.2) (fun hn_ => (zj BK1466 k_ hn_))⟩)) (below_size zs))
 replace BK1464 := zb BK1464 hb
 replace BK1465 := zb BK1465 hb
 replace BK1466 := zb BK1466 hb
 replace HB := zf hb
 (try clear hb)
 (try clear hb2)
 (try clear hk)
 (try clear hi)
 (try clear ho0)
 obtain ⟨Ao13, co13, eo13⟩ := V_slice HO1473.out
 (first | subst eo13 | (injection eo13 with f1_ f2_ f3_; have f4_ := f1_.symm; have f5_ := f3_.symm; clear f1_ f2_ f3_; subst f4_; subst f5_))
 refine hK.out _ _ (za BK1464 (zz BK1465)) (fun hHeld => ?_)
 clear hK K
 refine norm_ (a' := ?_) ?_ ?_
 rotate_left
 ·show Act.put _ (some 20) _ = _
  simp only [Act.put, List.setIfInBounds_toArray, List.set_cons_zero, List.set_cons_succ, i64_w, i32_w]
  rfl
 refine one_ (i := 16) (N := none) #[true, true, true, true, true, true, true, true, true, true, true, true, true, true, true, true, true] rfl rfl (one_of HT_.out (by kernel_rfl)) (by decide) (fun K hK => ?_)
 have hs12 : w11.cell? ⟨gb1466, 0, none⟩ = some (.bool false) := (blk_cell BK1466.out 0).trans rfl
 have hfs12 := blk_frozen BK1466.out 0
 have hns12_0 := NB1464_1466.out
 have hns12_1 := NB1465_1466.out
 have hms12_0 := NB1466_1464.out
 have hms12_1 := NB1466_1465.out
 have hs14 : w11.cell? ⟨gb1466, 1, none⟩ = some (.slice none 0 0) := (blk_cell BK1466.out 1).trans rfl
 have hfs14 := blk_frozen BK1466.out 1
 have hns14_0 := NB1464_1466.out
 have hns14_1 := NB1465_1466.out
 have hms14_0 := NB1466_1464.out
 have hms14_1 := NB1466_1465.out
 have hs15 : w11.cell? ⟨gb1466, 2, none⟩ = some (.int .i64 0) := (blk_cell BK1466.out 2).trans rfl
 have hfs15 := blk_frozen BK1466.out 2
 have hns15_0 := NB1464_1466.out
 have hns15_1 := NB1465_1466.out
 have hms15_0 := NB1466_1464.out
 have hms15_1 := NB1466_1465.out
 refine skip_ (w1 := ?_) (by rfl) rfl ?_ ?_
 rotate_left
 ·go_simp
  rfl
 refine hK.out _ _ ⟨((cell_far (p := ⟨gb1466, _, none⟩) NB1464_1466.out _).trans (((cell_far (p := ⟨gb1466, _, none⟩) NB1464_1466.out _).trans (((cell_far (p := ⟨gb1466, _, none⟩) NB1464_1466.out _).trans (hHeld.1)))))), ((cell_far (p := ⟨gb1466, _, none⟩) NB1464_1466.out _).trans (((cell_far (p := ⟨gb1466, _, none⟩) NB1464_1466.out _).trans (((cell_far (p := ⟨gb1466, _, none⟩) NB1464_1466.out _).trans (hHeld.2.1)))))), ((cell_far (p := ⟨gb1466, _, none⟩) NB1464_1466.out _).trans (((cell_far (p := ⟨gb1466, _, none⟩) NB1464_1466.out _).trans (((cell_far (p := ⟨gb1466, _, none⟩) NB1464_1466.out _).trans (hHeld.2.2.1)))))), ((cell_far (p := ⟨gb1466, _, none⟩) NB1465_1466.out _).trans (((cell_far (p := ⟨gb1466, _, none⟩) NB1465_1466.out _).trans (((cell_far (p := ⟨gb1466, _, none⟩) NB1465_1466.out _).trans (hHeld.2.2.2.1)))))), ((cell_far (p := ⟨gb1466, _, none⟩) NB1465_1466.out _).trans (((cell_far (p := ⟨gb1466, _, none⟩) NB1465_1466.out _).trans (((cell_far (p := ⟨gb1466, _, none⟩) NB1465_1466.out _).trans (hHeld.2.2.2.2.1)))))), ((cell_far (p := ⟨gb1466, _, none⟩) NB1465_1466.out _).trans (((cell_far (p := ⟨gb1466, _, none⟩) NB1465_1466.out _).trans (((cell_far (p := ⟨gb1466, _, none⟩) NB1465_1466.out _).trans (hHeld.2.2.2.2.2))))))⟩ (fun hHeld => ?_)
 clear hK K
 refine done_ (done_of HT_.out (by kernel_rfl)) ?_
 try go_wp2
 refine bodyPost_ret (results_cell_row rfl _ _ gb1466 25 #[.bool t1470, .slice Ao13 t1471.length co13, .int .i64 t1474] (0, 0) _ rfl (zy BK1466) Tryd.underlying25 rfl (by kernel_rfl)) rfl ?_
 exact ⟨_, er, vu (V_mono (zv gb1466 (V_mono HO1473.out (fun k_ hk => (⟨hk, hk.2.2.2⟩ : _ ∧ k_ ≠ gb1466))) (fun _ hk => hk.2) _ _ _) (fun _ hk => hk.1.1)), zs⟩
end Go.Proofs.YtemfckibdojbbaaDoor.PAll
