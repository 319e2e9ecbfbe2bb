/- Printed functions, merged by a program of this session. -/
import Derived.Test.YtdbhednhhmbooaaXNatOwnP0
import Derived.Test.YtdbhednhhmbooaaXNatOwnP9
import Derived.Test.YtdbhednhhmbooaaXNatOwnP11
import Derived.Laws.StructEq
import Derived.Test.YtdbhednhhmbooaaXNatOwnSh
namespace Go.Proofs.Ytdbhednhhmbooaa.PAll
open Go.RowKit Go.Proofs.YtdbhednhhmbooaaW.PrintWords Go.Proofs.YtdbhednhhmbooaaW.PrintLast Go.Proofs.YtdbhednhhmbooaaW.PrintMore
attribute [local go_sem] max2_int min2_int max_two min_two max_three min_three max_four min_four   -- for this text's walks alone
set_option linter.unusedVariables false
set_option linter.unusedSimpArgs false
attribute [local go_sem] ext65 ext71
mutual
def ulpref03_Shr.l0 : Nat → List Int → Int → Bool → List Int → Int → Int → Option (List Int × Bool)
 | 0, _, _, _, _, _, _ => none
 | k + 1, x0, x1, x6, x24, x25, x26 => if x26 < x25 then (if 0 ≤ x26 then (if x26 < (x24.length : Int) then (if x6 = true then (ulpref03_Shr.l0 k x0 x1 true x24 x25 (wrap64 (x26 + 1))) else (ulpref03_Shr.l0 k x0 x1 ((rd x24 x26) != 0) x24 x25 (wrap64 (x26 + 1)))) else (none)) else (none)) else (ulpref03_Shr.l1 k x0 x1 x6 (IntKind.u64.wrap (Int.tmod x1 64)) ([] : List Int) (wrap64 (Int.tdiv x1 64)))
def ulpref03_Shr.l1 : Nat → List Int → Int → Bool → Int → List Int → Int → Option (List Int × Bool)
 | 0, _, _, _, _, _, _ => none
 | k + 1, x0, x1, x6, x9, x10, x11 => if x11 < (x0.length : Int) then (if 0 ≤ x11 then (if 0 ≤ x9 then (if x9 > 0 then ((ulpref03_word.f x0 (wrap64 (x11 + 1))).bind fun t554 => (if 0 ≤ (IntKind.u64.wrap (64 - x9)) then (if x10.length < 17592186044416 then (ulpref03_Shr.l1 k x0 x1 x6 x9 (x10 ++ [Go.bits .or .u64 (shr .u64 (rd x0 x11) x9) (shl .u64 t554 (IntKind.u64.wrap (64 - x9)))]) (wrap64 (x11 + 1))) else (none)) else (none))) else (if x10.length < 17592186044416 then (ulpref03_Shr.l1 k x0 x1 x6 x9 (x10 ++ [shr .u64 (rd x0 x11) x9]) (wrap64 (x11 + 1))) else (none))) else (none)) else (none)) else (if x9 > 0 then (if x6 = true then ((ulpref03_Norm.f k x10).bind fun t561 => (some (t561, true))) else (if 0 ≤ (wrap64 (Int.tdiv x1 64)) then (if (wrap64 (Int.tdiv x1 64)) < (x0.length : Int) then (if 0 ≤ (IntKind.u64.wrap (64 - x9)) then ((ulpref03_Norm.f k x10).bind fun t565 => (some (t565, ((shl .u64 (rd x0 (wrap64 (Int.tdiv x1 64))) (IntKind.u64.wrap (64 - x9))) != 0)))) else (none)) else (none)) else (none))) else ((ulpref03_Norm.f k x10).bind fun t568 => (some (t568, x6))))
end
def ulpref03_Shr.f (k : Nat) (l0 : List Int) (a1 : Int) : Option (List Int × Bool) := if a1 ≥ (wrap64 (64 * (l0.length : Int))) then ((ulpref03_Len.f k l0).bind fun t550 => (some (([] : List Int), decide (t550 > 0)))) else (if 0 ≤ (wrap64 (Int.tdiv a1 64)) then (if (wrap64 (Int.tdiv a1 64)) ≤ (l0.length : Int) then (ulpref03_Shr.l0 k l0 a1 false (l0.take ((wrap64 (Int.tdiv a1 64)) : Int).toNat) (max (wrap64 (Int.tdiv a1 64)) 0) 0) else (none)) else (none))
set_option maxHeartbeats 8000000 in
set_option maxRecDepth 100000 in
theorem ulpref03_Shr.calls (k : Nat) (A0 : Option Addr) (c0 : Nat) (l0 : List Int) (a1 : Int) (r1 : List Int) (r2 : Bool) (w : World) (hr0 : Kd.C (Kd.int .u64) w A0 l0.length l0) (hc0 : l0.length ≤ c0) (h : ulpref03_Shr.f k l0 a1 = some (r1, r2)) :
  Calls Try.prog 53 #[.slice A0 l0.length c0, .int .i64 a1] w fun e w' => ∃ v0_ : Value, e = .returned (.tuple #[v0_, .bool r2]) ∧ Kd.R (Kd.int .u64) 47 w' w.heap.size (fun _ => True) v0_ r1 ∧ Below w.heap.size w w' := by
 have HR0 := Aside0.mk hr0
 have HC0 := Aside0.mk hc0
 clear hr0 hc0
 have HB := Aside0.mk (Below.refl w.heap.size w)
 have H : (if a1 ≥ (wrap64 (64 * (l0.length : Int))) then ((ulpref03_Len.f k l0).bind fun t550 => (some (([] : List Int), decide (t550 > 0)))) else (if 0 ≤ (wrap64 (Int.tdiv a1 64)) then (if (wrap64 (Int.tdiv a1 64)) ≤ (l0.length : Int) then (ulpref03_Shr.l0 k l0 a1 false (l0.take ((wrap64 (Int.tdiv a1 64)) : Int).toNat) (max (wrap64 (Int.tdiv a1 64)) 0) 0) else (none)) else (none))) = some (r1, r2) := h
 clear h
 by_cases c3 : a1 ≥ (wrap64 (64 * (l0.length : Int)))
 ·rw [if_pos c3] at H
  have c3b0 : decide ((wrap64 (64 * (l0.length : Int))) ≤ a1) = true := decide_eq_true c3
  clear c3
  replace H := Option.bind_eq_some_iff.mp H
  obtain ⟨t550, A40, H⟩ := H
  (try dsimp only at H)
  have A4 := Aside0.mk A40
  clear A40
  simp only [Option.some.injEq, Prod.mk.injEq] at H
  obtain ⟨rfl, rfl⟩ := H
  go_enter Try.func53, Try.ntmps53
  go_wp2_with (first | ((with_reducible refine gate_callee (f := 46) rfl ?_); refine goesL_ (some 19) rfl rfl Try.func46 (by kernel_rfl) rfl #[.slice A0 l0.length c0] rfl ga ?_; (with_reducible refine (ulpref03_Len.calls k _ _ l0 t550 _ ?side1 ?side2 A4.out).mono ?_); (case side1 => repeat (first | exact HR0.out | (with_reducible refine Kd.C_alloc ?_ _) | (with_reducible refine Kd.C_drewN ?_ _) | (with_reducible refine Kd.C_drew ?_))); (case side2 => exact HC0.out); rintro e w5 ⟨rfl, hb⟩; refine ⟨_, rfl, ?_⟩; have n0_ := Aside0.mk (below_step bq hb); clear HB; have HB := n0_; clear n0_; (try clear hb); (try clear hb2); (try clear hk); (try clear hi)))
  go_ret2
  exact ⟨_, er, by first | exact Kd.R_nil _ _ _ _ _ | exact Kd.N_nil _ _ _ _ _ | exact Kd.V_nil _ _ _ _ _ | exact Kd.Q_nil _ _ _ _ _ | exact Kd.S_nil _ _ _ _ _, bq⟩
 ·rw [if_neg c3] at H
  have c3b0 : decide ((wrap64 (64 * (l0.length : Int))) ≤ a1) = false := decide_eq_false c3
  clear c3
  obtain ⟨ji6, hji6⟩ : ∃ j_ : Int, (wrap64 (Int.tdiv a1 64)) = j_ := ⟨_, rfl⟩
  replace H : (if 0 ≤ (ji6) then (if (ji6) ≤ (l0.length : Int) then (ulpref03_Shr.l0 k l0 a1 false (l0.take ((ji6) : Int).toNat) (max (ji6) 0) 0) else (none)) else (none)) = some (r1, r2) := by first | (rw [hji6] at H; exact H) | (simp only [hji6] at H ⊢; exact H)
  have hji6w : (IntKind.i64.wrap (Int.tdiv a1 64)) = ji6 := (i64_w _).trans hji6
  replace H := dn H
  obtain ⟨c7, H⟩ := H
  have c7b0 := eq_true c7
  have c7b1 : decide (0 ≤ (ji6)) = true := decide_eq_true c7
  clear c7
  replace H := dn H
  obtain ⟨c8, H⟩ := H
  have c8b0 := eq_true c8
  have c8b1 : decide ((ji6) ≤ (l0.length : Int)) = true := decide_eq_true c8
  clear c8
  have H' := Aside0.mk H
  clear H
  obtain ⟨i09, hi09, _, hsz9, _⟩ := info_parts info47
  obtain ⟨hcut9, hA9, hC9⟩ := print_take_of (P := Try.prog) (Value.int .u64) 0 23 47 .i64 Try.underlying23 hi09 hsz9 A0 c0 l0 (ji6) (od) (od) HC0.out
  have HR551 := Aside0.mk (Kd.C_of_reads (h1 := fun _ => rfl) (hA9 _ (Kd.reads_of_C HR0.out)))
  have HC551 := Aside0.mk hC9
  clear hA9 hC9 hi09 hsz9
  go_enter Try.func53, Try.ntmps53
  go_wp2
  go_loopg [6, 26] k (fun kq v6 v26 w' => ∃ (x6_1 : Bool) (x26_1 : Int), v6 = .bool x6_1 ∧ v26 = .int .i64 x26_1 ∧ Aside0 (ulpref03_Shr.l0 kq l0 a1 x6_1 (l0.take ((ji6) : Int).toNat) (max (ji6) 0) x26_1 = some (r1, r2)) ∧ Aside0 (kq ≤ k) ∧ Aside0 (Below w.heap.size w w'))
  case atStart => exact ⟨(false), (0), (by first | rfl | (simp; done) | (simp [*]; done)), (by first | rfl | (simp; done) | (simp [*]; done)), H', ⟨Nat.le_refl _⟩, ⟨bq⟩⟩
  case round =>
   clear H'
   try clear p2
   try clear c3
   try clear c3b0
   try clear c4
   try clear c5
   try clear p6
   try clear c7
   try clear c7b0
   try clear c7b1
   try clear c8
   try clear c8b0
   try clear c8b1
   obtain ⟨x6_1, x26_1, rfl, rfl, HA, HK1, HB⟩ := hrel
   cases gk with
   | zero => exact absurd HA.out (by simp [ulpref03_Shr.l0])
   | succ k1 =>
    have H := HA.out
    clear HA
    simp only [ulpref03_Shr.l0] at H
    by_cases c10 : x26_1 < (max (ji6) 0)
    ·rw [if_pos c10] at H
     have c10b0 : decide (x26_1 < (max (ji6) 0)) = true := decide_eq_true c10
     have c10bx : (x26_1 < (max (ji6) 0)) = True := eq_true c10
     clear c10
     replace H := dn H
     obtain ⟨c11, H⟩ := H
     have c11b0 : decide (0 ≤ x26_1) = true := decide_eq_true c11
     clear c11
     replace H := dn H
     obtain ⟨c12, H⟩ := H
     have c12b0 : decide (x26_1 < ((l0.take ((ji6) : Int).toNat).length : Int)) = true := decide_eq_true c12
     clear c12
     by_cases c13 : x6_1 = true
     ·subst c13
      rw [if_pos rfl] at H
      have H' := Aside0.mk H
      clear H
      have p552 : 0 ≤ (x26_1 : Int) := od
      have q552 : x26_1 < ((l0.take ((ji6) : Int).toNat).length : Int) := od
      obtain ⟨ad552, e552, hx552_0⟩ := Kd.at_int HR551.out x26_1 p552 q552
      cases e552
      replace hx552_0 := (HB.out.cell (World.block_lt_of_cell? w _ hx552_0)).trans hx552_0
      replace p552 := eq_true p552
      replace q552 := eq_true q552
      go_wp2
      go_roundg k1
      case measure => have := HK1.out; omega
      case rel => exact ⟨(true), (wrap64 (x26_1 + 1)), (by first | rfl | (simp; done) | (simp [*]; done)), (by first | rfl | (simp; done) | (simp [*]; done)), (by first | exact H' | (simp only [hji6]; exact H') | (simp only [hji6] at H' ⊢; exact H')), ⟨by have := HK1.out; omega⟩, ⟨bq⟩⟩
     ·replace c13 := Bool.eq_false_iff.mpr c13
      subst c13
      rw [if_neg (show ¬ (false = true) by decide)] at H
      have H' := Aside0.mk H
      clear H
      have p552 : 0 ≤ (x26_1 : Int) := od
      have q552 : x26_1 < ((l0.take ((ji6) : Int).toNat).length : Int) := od
      obtain ⟨ad552, e552, hx552_0⟩ := Kd.at_int HR551.out x26_1 p552 q552
      cases e552
      replace hx552_0 := (HB.out.cell (World.block_lt_of_cell? w _ hx552_0)).trans hx552_0
      replace p552 := eq_true p552
      replace q552 := eq_true q552
      go_wp2
      go_roundg k1
      case measure => have := HK1.out; omega
      case rel => exact ⟨(((rd (l0.take ((ji6) : Int).toNat) x26_1) != 0)), (wrap64 (x26_1 + 1)), (by first | rfl | (simp; done) | (simp only [← hji6] <;> (first | rfl | simp)) | (simp [*]; done)), (by first | rfl | (simp; done) | (simp [*]; done)), (by first | exact H' | (simp only [hji6]; exact H') | (simp only [hji6] at H' ⊢; exact H')), ⟨by have := HK1.out; omega⟩, ⟨bq⟩⟩
    ·rw [if_neg c10] at H
     have c10b0 : decide (x26_1 < (max (ji6) 0)) = false := decide_eq_false c10
     clear c10
     have H' := Aside0.mk H
     clear H
     go_wp2
     go_loopg [10, 11] k1 (fun kq v10 v11 w' => ∃ (x10_2 : List Int) (x11_2 : Int), v11 = .int .i64 x11_2 ∧ Aside0 (ulpref03_Shr.l1 kq l0 a1 x6_1 (IntKind.u64.wrap (Int.tmod a1 64)) x10_2 x11_2 = some (r1, r2)) ∧ Aside0 (kq ≤ k1) ∧ Aside0 (Kd.R (Kd.int .u64) 47 w' w.heap.size (fun _ => True) v10 x10_2) ∧ Aside0 (Below w.heap.size w w'))
     case atStart => exact ⟨(([] : List Int)), (wrap64 (Int.tdiv a1 64)), (by first | rfl | (simp; done) | (simp [*]; done)), H', ⟨Nat.le_refl _⟩, ⟨by first | exact Kd.R_nil _ _ _ _ _ | exact Kd.N_nil _ _ _ _ _ | exact Kd.V_nil _ _ _ _ _ | exact Kd.Q_nil _ _ _ _ _ | exact Kd.S_nil _ _ _ _ _⟩, ⟨bq⟩⟩
     case round =>
      clear H'
      try clear c1
      try clear p2
      try clear c3
      try clear c3b0
      try clear c4
      try clear c5
      try clear p5
      try clear q5
      try clear hx5
      try clear p6
      try clear c7
      try clear c7b0
      try clear c7b1
      try clear c8
      try clear c8b0
      try clear c8b1
      try clear c10
      try clear c10b0
      try clear c11
      try clear c11b0
      try clear c12
      try clear c12b0
      try clear c13
      try clear hx552_0
      try clear p2
      try clear p552
      try clear p6
      try clear q552
      obtain ⟨x10_2, x11_2, rfl, HA, HK2, HO_10, HB⟩ := hrel
      cases gk with
      | zero => exact absurd HA.out (by simp [ulpref03_Shr.l1])
      | succ k2 =>
       have H := HA.out
       clear HA
       simp only [ulpref03_Shr.l1] at H
       by_cases c14 : x11_2 < (l0.length : Int)
       ·rw [if_pos c14] at H
        have c14b0 : decide (x11_2 < (l0.length : Int)) = true := decide_eq_true c14
        clear c14
        replace H := dn H
        obtain ⟨c15, H⟩ := H
        have c15b0 : decide (0 ≤ x11_2) = true := decide_eq_true c15
        clear c15
        obtain ⟨ji16, hji16⟩ : ∃ j_ : Int, (IntKind.u64.wrap (Int.tmod a1 64)) = j_ := ⟨_, rfl⟩
        replace H : (if 0 ≤ (ji16) then (if (ji16) > 0 then ((ulpref03_word.f l0 (wrap64 (x11_2 + 1))).bind fun t554 => (if 0 ≤ (IntKind.u64.wrap (64 - (ji16))) then (if x10_2.length < 17592186044416 then (ulpref03_Shr.l1 k2 l0 a1 x6_1 (ji16) (x10_2 ++ [Go.bits .or .u64 (shr .u64 (rd l0 x11_2) (ji16)) (shl .u64 t554 (IntKind.u64.wrap (64 - (ji16))))]) (wrap64 (x11_2 + 1))) else (none)) else (none))) else (if x10_2.length < 17592186044416 then (ulpref03_Shr.l1 k2 l0 a1 x6_1 (ji16) (x10_2 ++ [shr .u64 (rd l0 x11_2) (ji16)]) (wrap64 (x11_2 + 1))) else (none))) else (none)) = some (r1, r2) := by first | (rw [hji16] at H; exact H) | (simp only [hji16] at H ⊢; exact H)
        replace H := dn H
        obtain ⟨c17, H⟩ := H
        have c17b0 := eq_true c17
        have c17b1 : decide (0 ≤ (ji16)) = true := decide_eq_true c17
        clear c17
        obtain ⟨ji18, hji18⟩ : ∃ j_ : Int, (shr .u64 (rd l0 x11_2) (ji16)) = j_ := ⟨_, rfl⟩
        replace H : (if (ji16) > 0 then ((ulpref03_word.f l0 (wrap64 (x11_2 + 1))).bind fun t554 => (if 0 ≤ (IntKind.u64.wrap (64 - (ji16))) then (if x10_2.length < 17592186044416 then (ulpref03_Shr.l1 k2 l0 a1 x6_1 (ji16) (x10_2 ++ [Go.bits .or .u64 (ji18) (shl .u64 t554 (IntKind.u64.wrap (64 - (ji16))))]) (wrap64 (x11_2 + 1))) else (none)) else (none))) else (if x10_2.length < 17592186044416 then (ulpref03_Shr.l1 k2 l0 a1 x6_1 (ji16) (x10_2 ++ [ji18]) (wrap64 (x11_2 + 1))) else (none))) = some (r1, r2) := by first | (rw [hji18] at H; exact H) | (simp only [hji18] at H ⊢; exact H)
        have hji18_ : ((rd l0 x11_2) / 2 ^ min (ji16).toNat 64) = ji18 := hji18
        have hji18z : (ji16) ≤ 64 → ((rd l0 x11_2) / 2 ^ (ji16).toNat) = ji18 := shr_small hji18
        by_cases c19 : (ji16) > 0
        ·rw [if_pos c19] at H
         have c19b0 : decide (0 < (ji16)) = true := decide_eq_true c19
         clear c19
         replace H := Option.bind_eq_some_iff.mp H
         obtain ⟨t554, A200, H⟩ := H
         (try dsimp only at H)
         have A20 := Aside0.mk A200
         clear A200
         obtain ⟨ji21, hji21⟩ : ∃ j_ : Int, (IntKind.u64.wrap (64 - (ji16))) = j_ := ⟨_, rfl⟩
         replace H : (if 0 ≤ (ji21) then (if x10_2.length < 17592186044416 then (ulpref03_Shr.l1 k2 l0 a1 x6_1 (ji16) (x10_2 ++ [Go.bits .or .u64 (ji18) (shl .u64 t554 (ji21))]) (wrap64 (x11_2 + 1))) else (none)) else (none)) = some (r1, r2) := by first | (rw [hji21] at H; exact H) | (simp only [hji21] at H ⊢; exact H)
         (try rw [hji21] at A20)
         replace H := dn H
         obtain ⟨c22, H⟩ := H
         have c22b0 := eq_true c22
         have c22b1 : decide (0 ≤ (ji21)) = true := decide_eq_true c22
         clear c22
         obtain ⟨ji23, hji23⟩ : ∃ j_ : Int, (shl .u64 t554 (ji21)) = j_ := ⟨_, rfl⟩
         replace H : (if x10_2.length < 17592186044416 then (ulpref03_Shr.l1 k2 l0 a1 x6_1 (ji16) (x10_2 ++ [Go.bits .or .u64 (ji18) (ji23)]) (wrap64 (x11_2 + 1))) else (none)) = some (r1, r2) := by first | (rw [hji23] at H; exact H) | (simp only [hji23] at H ⊢; exact H)
         (try rw [hji23] at A20)
         have hji23_ : (IntKind.u64.wrap (t554 * 2 ^ min (ji21).toNat 64)) = ji23 := hji23
         have hji23z : (ji21) ≤ 64 → (IntKind.u64.wrap (t554 * 2 ^ (ji21).toNat)) = ji23 := shl_small hji23
         replace H := dn H
         obtain ⟨c24, H⟩ := H
         have LMc24 := Aside0.mk c24
         clear c24
         obtain ⟨y555, hy555⟩ : ∃ y_ : List Int, y_ = (x10_2 ++ [Go.bits .or .u64 (ji18) (ji23)]) := ⟨_, rfl⟩
         replace H : (ulpref03_Shr.l1 k2 l0 a1 x6_1 (ji16) y555 (wrap64 (x11_2 + 1))) = some (r1, r2) := by first | (rw [hy555]; with_reducible exact H) | (have H2_ := (Option.bind_some _ _).symm.trans H; rw [hy555]; with_reducible exact H2_) | (have H2_ := (Option.bind_some _ _).symm.trans H; with_reducible exact H2_) | with_reducible exact H | (rw [hy555]; exact H) | exact H
         have Ny555 := Aside0.mk hy555
         clear hy555
         have H' := Aside0.mk H
         clear H
         have p553 : 0 ≤ (x11_2 : Int) := od
         have q553 : x11_2 < (l0.length : Int) := od
         obtain ⟨ad553, e553, hx553_0⟩ := Kd.at_int HR0.out x11_2 p553 q553
         cases e553
         replace hx553_0 := (HB.out.cell (World.block_lt_of_cell? w _ hx553_0)).trans hx553_0
         replace p553 := eq_true p553
         replace q553 := eq_true q553
         go_wp2_with (first | ((with_reducible refine gate_callee (f := 58) rfl ?_); refine goesL_ (some 59) rfl rfl Try.func58 (by kernel_rfl) rfl #[.slice (some ad553) l0.length c0, .int .i64 (wrap64 (x11_2 + 1))] rfl ga ?_; (with_reducible refine (ulpref03_word.calls _ _ l0 (wrap64 (x11_2 + 1)) t554 _ ?side1 ?side2 A20.out).mono ?_); (case side1 => repeat (first | exact (Kd.C_below HR0.out HB.out) | (with_reducible refine Kd.C_alloc ?_ _) | (with_reducible refine Kd.C_drewN ?_ _) | (with_reducible refine Kd.C_drew ?_))); (case side2 => exact HC0.out); rintro e w' ⟨rfl, ⟨nd, rfl⟩⟩; refine ⟨_, rfl, ?_⟩) | ((with_reducible refine gate_builtin (b := .append) (xs := #[.tmp 64, .tmp 66]) rfl ?_); at_builtin; refine Kd.R_append (Kd.int .u64) (w0 := w) w.heap.size rfl (.tmp 64) (.tmp 66) 23 47 (.int .u64 0) 8 rfl Try.underlying23 info47 rfl (by decide) (by omega) u10 x10_2 (Go.bits .or .u64 (ji18) (ji23)) [.int .u64 (Go.bits .or .u64 (ji18) (ji23))] (fun _ => True) (fun _ => False) rfl rfl ?aP (fun _ hk => hk.elim) ?aF ?aO ?aB ?aS ?aL ?_; (case aP => exact rfl); (case aB => exact bq); (case aF => exact (fun _ _ => trivial)); (case aO => exact (ru HO_10.out)); (case aS => exact (below_size bq)); (case aL => have := LMc24.out; omega); intro v556 w25 ho hb hg hat; rw [← Ny555.out] at ho; have n0_ := Aside0.mk (hb); have n1_ := Aside0.mk (ho); clear HB; clear HO_10; have HB := n0_; have HO557 := n1_; clear n0_ n1_; clear ho hb hg hat))
         (try simp only [← hji16, ← hji21])
         go_roundg k2
         case measure => have := HK1.out; have := HK2.out; omega
         case rel => exact ⟨(y555), (wrap64 (x11_2 + 1)), (by first | rfl | (simp; done) | (simp [*]; done)), (by first | exact H' | (simp only [hji6, hji16, hji18, hji21, hji23]; exact H') | (simp only [hji6, hji16, hji18, hji21, hji23] at H' ⊢; exact H')), ⟨by have := HK1.out; have := HK2.out; omega⟩, ⟨by (with_reducible repeat (first | apply Kd.R_alloc | apply Kd.R_drewN | apply Kd.R_drew)); exact HO557.out⟩, ⟨bq⟩⟩
        ·rw [if_neg c19] at H
         have c19b0 : decide (0 < (ji16)) = false := decide_eq_false c19
         clear c19
         replace H := dn H
         obtain ⟨c26, H⟩ := H
         have LMc26 := Aside0.mk c26
         clear c26
         obtain ⟨y558, hy558⟩ : ∃ y_ : List Int, y_ = (x10_2 ++ [ji18]) := ⟨_, rfl⟩
         replace H : (ulpref03_Shr.l1 k2 l0 a1 x6_1 (ji16) y558 (wrap64 (x11_2 + 1))) = some (r1, r2) := by first | (rw [hy558]; with_reducible exact H) | (have H2_ := (Option.bind_some _ _).symm.trans H; rw [hy558]; with_reducible exact H2_) | (have H2_ := (Option.bind_some _ _).symm.trans H; with_reducible exact H2_) | with_reducible exact H | (rw [hy558]; exact H) | exact H
         have Ny558 := Aside0.mk hy558
         clear hy558
         have H' := Aside0.mk H
         clear H
         have p553 : 0 ≤ (x11_2 : Int) := od
         have q553 : x11_2 < (l0.length : Int) := od
         obtain ⟨ad553, e553, hx553_0⟩ := Kd.at_int HR0.out x11_2 p553 q553
         cases e553
         replace hx553_0 := (HB.out.cell (World.block_lt_of_cell? w _ hx553_0)).trans hx553_0
         replace p553 := eq_true p553
         replace q553 := eq_true q553
         go_wp2_with (first | ((with_reducible refine gate_builtin (b := .append) (xs := #[.tmp 64, .tmp 66]) rfl ?_); at_builtin; refine Kd.R_append (Kd.int .u64) (w0 := w) w.heap.size rfl (.tmp 64) (.tmp 66) 23 47 (.int .u64 0) 8 rfl Try.underlying23 info47 rfl (by decide) (by omega) u10 x10_2 ji18 [.int .u64 ji18] (fun _ => True) (fun _ => False) rfl rfl ?aP (fun _ hk => hk.elim) ?aF ?aO ?aB ?aS ?aL ?_; (case aP => exact rfl); (case aB => exact bq); (case aF => exact (fun _ _ => trivial)); (case aO => exact (ru HO_10.out)); (case aS => exact (below_size bq)); (case aL => have := LMc26.out; omega); intro v559 w27 ho hb hg hat; rw [← Ny558.out] at ho; have n0_ := Aside0.mk (hb); have n1_ := Aside0.mk (ho); clear HB; clear HO_10; have HB := n0_; have HO560 := n1_; clear n0_ n1_; clear ho hb hg hat))
         (try simp only [← hji16])
         go_roundg k2
         case measure => have := HK1.out; have := HK2.out; omega
         case rel => exact ⟨(y558), (wrap64 (x11_2 + 1)), (by first | rfl | (simp; done) | (simp [*]; done)), (by first | exact H' | (simp only [hji6, hji16, hji18]; exact H') | (simp only [hji6, hji16, hji18] at H' ⊢; exact H')), ⟨by have := HK1.out; have := HK2.out; omega⟩, ⟨by (with_reducible repeat (first | apply Kd.R_alloc | apply Kd.R_drewN | apply Kd.R_drew)); exact HO560.out⟩, ⟨bq⟩⟩
       ·rw [if_neg c14] at H
        have c14b0 : decide (x11_2 < (l0.length : Int)) = false := decide_eq_false c14
        clear c14
        by_cases c28 : (IntKind.u64.wrap (Int.tmod a1 64)) > 0
        ·rw [if_pos c28] at H
         have c28b0 : decide (0 < (IntKind.u64.wrap (Int.tmod a1 64))) = true := decide_eq_true c28
         clear c28
         by_cases c29 : x6_1 = true
         ·subst c29
          rw [if_pos rfl] at H
          replace H := Option.bind_eq_some_iff.mp H
          obtain ⟨t561, A300, H⟩ := H
          (try dsimp only at H)
          have A30 := Aside0.mk A300
          clear A300
          simp only [Option.some.injEq, Prod.mk.injEq] at H
          obtain ⟨rfl, rfl⟩ := H
          obtain ⟨Ao31, co31, eo31⟩ := Kd.R_slice HO_10.out
          subst eo31
          go_wp2_with (first | ((with_reducible refine gate_callee (f := 41) rfl ?_); refine goesL_ (some 83) rfl rfl Try.func41 (by kernel_rfl) rfl #[.slice Ao31 x10_2.length co31] rfl ga ?_; (with_reducible refine (ulpref03_Norm.calls k2 _ _ x10_2 t561 _ ?side1 ?side2 A30.out).mono ?_); (case side1 => repeat (first | exact (Kd.R_reads' HO_10.out).2.2 | (with_reducible refine Kd.C_alloc ?_ _) | (with_reducible refine Kd.C_drewN ?_ _) | (with_reducible refine Kd.C_drew ?_))); (case side2 => exact (Kd.R_reads' HO_10.out).2.1); rintro e w32 ⟨v562, rfl, ho0, hb⟩; refine ⟨_, rfl, ?_⟩; have n0_ := Aside0.mk (Kd.R_elder' (ru HO_10.out) (Kd.R_base ho0) hb); have n1_ := Aside0.mk (Kd.R_lower (Kd.R_new' ho0 (Kd.R_lt (ru HO_10.out))) (below_size bq)); have n2_ := Aside0.mk (below_step bq hb); clear HO_10; clear HB; have HO_10 := n0_; have HO563 := n1_; have HB := n2_; clear n0_ n1_ n2_; (try clear hb); (try clear hb2); (try clear hk); (try clear hi); (try clear ho0)))
          go_ret2
          exact ⟨_, by first | rfl | (simp [errW_none, errW_some] <;> rfl) | (simp only [← hji6]; first | rfl | (simp [errW_none, errW_some] <;> rfl)) | (simp [*, errW_none, errW_some] <;> rfl), by (with_reducible repeat (first | apply Kd.R_alloc | apply Kd.R_drewN | apply Kd.R_drew)); exact Kd.R_mono HO563.out (fun _ hk => trivial), bq⟩
         ·replace c29 := Bool.eq_false_iff.mpr c29
          subst c29
          rw [if_neg (show ¬ (false = true) by decide)] at H
          obtain ⟨ji33, hji33⟩ : ∃ j_ : Int, (wrap64 (Int.tdiv a1 64)) = j_ := ⟨_, rfl⟩
          obtain rfl : ji6 = ji33 := hji6.symm.trans hji33
          replace H : (if 0 ≤ (ji6) then (if (ji6) < (l0.length : Int) then (if 0 ≤ (IntKind.u64.wrap (64 - (IntKind.u64.wrap (Int.tmod a1 64)))) then ((ulpref03_Norm.f k2 x10_2).bind fun t565 => (some (t565, ((shl .u64 (rd l0 (ji6)) (IntKind.u64.wrap (64 - (IntKind.u64.wrap (Int.tmod a1 64))))) != 0)))) else (none)) else (none)) else (none)) = some (r1, r2) := by first | (rw [hji33] at H; exact H) | (simp only [hji33] at H ⊢; exact H)
          have hji33w : (IntKind.i64.wrap (Int.tdiv a1 64)) = ji6 := (i64_w _).trans hji33
          replace H := dn H
          obtain ⟨c34, H⟩ := H
          have c34b0 : decide (0 ≤ (ji6)) = true := decide_eq_true c34
          clear c34
          replace H := dn H
          obtain ⟨c35, H⟩ := H
          have c35b0 : decide ((ji6) < (l0.length : Int)) = true := decide_eq_true c35
          clear c35
          obtain ⟨ji36, hji36⟩ : ∃ j_ : Int, (IntKind.u64.wrap (64 - (IntKind.u64.wrap (Int.tmod a1 64)))) = j_ := ⟨_, rfl⟩
          replace H : (if 0 ≤ (ji36) then ((ulpref03_Norm.f k2 x10_2).bind fun t565 => (some (t565, ((shl .u64 (rd l0 (ji6)) (ji36)) != 0)))) else (none)) = some (r1, r2) := by first | (rw [hji36] at H; exact H) | (simp only [hji36] at H ⊢; exact H)
          replace H := dn H
          obtain ⟨c37, H⟩ := H
          have c37b0 := eq_true c37
          have c37b1 : decide (0 ≤ (ji36)) = true := decide_eq_true c37
          clear c37
          obtain ⟨ji38, hji38⟩ : ∃ j_ : Int, (shl .u64 (rd l0 (ji6)) (ji36)) = j_ := ⟨_, rfl⟩
          replace H : ((ulpref03_Norm.f k2 x10_2).bind fun t565 => (some (t565, ((ji38) != 0)))) = some (r1, r2) := by first | (rw [hji38] at H; exact H) | (simp only [hji38] at H ⊢; exact H)
          have hji38_ : (IntKind.u64.wrap ((rd l0 (ji6)) * 2 ^ min (ji36).toNat 64)) = ji38 := hji38
          have hji38z : (ji36) ≤ 64 → (IntKind.u64.wrap ((rd l0 (ji6)) * 2 ^ (ji36).toNat)) = ji38 := shl_small hji38
          replace H := Option.bind_eq_some_iff.mp H
          obtain ⟨t565, A390, H⟩ := H
          (try dsimp only at H)
          have A39 := Aside0.mk A390
          clear A390
          simp only [Option.some.injEq, Prod.mk.injEq] at H
          obtain ⟨rfl, rfl⟩ := H
          have p564 : 0 ≤ ((ji6) : Int) := od
          have q564 : (ji6) < (l0.length : Int) := od
          obtain ⟨ad564, e564, hx564_0⟩ := Kd.at_int HR0.out (ji6) p564 q564
          cases e564
          replace hx564_0 := (HB.out.cell (World.block_lt_of_cell? w _ hx564_0)).trans hx564_0
          replace p564 := eq_true p564
          replace q564 := eq_true q564
          obtain ⟨Ao40, co40, eo40⟩ := Kd.R_slice HO_10.out
          subst eo40
          go_wp2_with (first | ((with_reducible refine gate_callee (f := 41) rfl ?_); refine goesL_ (some 83) rfl rfl Try.func41 (by kernel_rfl) rfl #[.slice Ao40 x10_2.length co40] rfl ga ?_; (with_reducible refine (ulpref03_Norm.calls k2 _ _ x10_2 t565 _ ?side1 ?side2 A39.out).mono ?_); (case side1 => repeat (first | exact (Kd.R_reads' HO_10.out).2.2 | (with_reducible refine Kd.C_alloc ?_ _) | (with_reducible refine Kd.C_drewN ?_ _) | (with_reducible refine Kd.C_drew ?_))); (case side2 => exact (Kd.R_reads' HO_10.out).2.1); rintro e w41 ⟨v566, rfl, ho0, hb⟩; refine ⟨_, rfl, ?_⟩; have n0_ := Aside0.mk (Kd.R_elder' (ru HO_10.out) (Kd.R_base ho0) hb); have n1_ := Aside0.mk (Kd.R_lower (Kd.R_new' ho0 (Kd.R_lt (ru HO_10.out))) (below_size bq)); have n2_ := Aside0.mk (below_step bq hb); clear HO_10; clear HB; have HO_10 := n0_; have HO567 := n1_; have HB := n2_; clear n0_ n1_ n2_; (try clear hb); (try clear hb2); (try clear hk); (try clear hi); (try clear ho0)))
          go_ret2
          exact ⟨_, by first | rfl | (simp [errW_none, errW_some] <;> rfl) | (simp only [← hji6, ← hji33, ← hji36, ← hji38]; first | rfl | (simp [errW_none, errW_some] <;> rfl)) | (simp [*, errW_none, errW_some] <;> rfl), by (with_reducible repeat (first | apply Kd.R_alloc | apply Kd.R_drewN | apply Kd.R_drew)); exact Kd.R_mono HO567.out (fun _ hk => trivial), bq⟩
        ·rw [if_neg c28] at H
         have c28b0 : decide (0 < (IntKind.u64.wrap (Int.tmod a1 64))) = false := decide_eq_false c28
         clear c28
         replace H := Option.bind_eq_some_iff.mp H
         obtain ⟨t568, A420, H⟩ := H
         (try dsimp only at H)
         have A42 := Aside0.mk A420
         clear A420
         simp only [Option.some.injEq, Prod.mk.injEq] at H
         obtain ⟨rfl, rfl⟩ := H
         obtain ⟨Ao43, co43, eo43⟩ := Kd.R_slice HO_10.out
         subst eo43
         go_wp2_with (first | ((with_reducible refine gate_callee (f := 41) rfl ?_); refine goesL_ (some 83) rfl rfl Try.func41 (by kernel_rfl) rfl #[.slice Ao43 x10_2.length co43] rfl ga ?_; (with_reducible refine (ulpref03_Norm.calls k2 _ _ x10_2 t568 _ ?side1 ?side2 A42.out).mono ?_); (case side1 => repeat (first | exact (Kd.R_reads' HO_10.out).2.2 | (with_reducible refine Kd.C_alloc ?_ _) | (with_reducible refine Kd.C_drewN ?_ _) | (with_reducible refine Kd.C_drew ?_))); (case side2 => exact (Kd.R_reads' HO_10.out).2.1); rintro e w44 ⟨v569, rfl, ho0, hb⟩; refine ⟨_, rfl, ?_⟩; have n0_ := Aside0.mk (Kd.R_elder' (ru HO_10.out) (Kd.R_base ho0) hb); have n1_ := Aside0.mk (Kd.R_lower (Kd.R_new' ho0 (Kd.R_lt (ru HO_10.out))) (below_size bq)); have n2_ := Aside0.mk (below_step bq hb); clear HO_10; clear HB; have HO_10 := n0_; have HO570 := n1_; have HB := n2_; clear n0_ n1_ n2_; (try clear hb); (try clear hb2); (try clear hk); (try clear hi); (try clear ho0)))
         go_ret2
         exact ⟨_, by first | rfl | (simp [errW_none, errW_some] <;> rfl) | (simp only [← hji6]; first | rfl | (simp [errW_none, errW_some] <;> rfl)) | (simp [*, errW_none, errW_some] <;> rfl), by (with_reducible repeat (first | apply Kd.R_alloc | apply Kd.R_drewN | apply Kd.R_drew)); exact Kd.R_mono HO570.out (fun _ hk => trivial), bq⟩
def ulpref03_Sub.l0 : Nat → List Int → List Int → List Int → Int → Int → Option (List Int)
 | 0, _, _, _, _, _ => none
 | k + 1, x0, x1, x5, x6, x7 => if x7 < (mx (x0.length : Int) (x1.length : Int)) then ((ulpref03_word.f x0 x7).bind fun t574 => ((ulpref03_word.f x1 x7).bind fun t575 => (if t574 < t575 then (if x5.length < 17592186044416 then (ulpref03_Sub.l0 k x0 x1 (x5 ++ [IntKind.u64.wrap ((IntKind.u64.wrap (t574 - t575)) - x6)]) 1 (wrap64 (x7 + 1))) else (none)) else (if t574 = t575 then (if x6 = 1 then (if x5.length < 17592186044416 then (ulpref03_Sub.l0 k x0 x1 (x5 ++ [IntKind.u64.wrap ((IntKind.u64.wrap (t574 - t575)) - x6)]) 1 (wrap64 (x7 + 1))) else (none)) else (if x5.length < 17592186044416 then (ulpref03_Sub.l0 k x0 x1 (x5 ++ [IntKind.u64.wrap ((IntKind.u64.wrap (t574 - t575)) - x6)]) 0 (wrap64 (x7 + 1))) else (none))) else (if x5.length < 17592186044416 then (ulpref03_Sub.l0 k x0 x1 (x5 ++ [IntKind.u64.wrap ((IntKind.u64.wrap (t574 - t575)) - x6)]) 0 (wrap64 (x7 + 1))) else (none)))))) else ((ulpref03_Norm.f k x5).bind fun t571 => (some t571))
def ulpref03_Sub.f (k : Nat) (l0 : List Int) (l1 : List Int) : Option (List Int) := ulpref03_Sub.l0 k l0 l1 ([] : List Int) 0 0
set_option maxHeartbeats 8000000 in
set_option maxRecDepth 100000 in
theorem ulpref03_Sub.calls (k : Nat) (A0 : Option Addr) (c0 : Nat) (l0 : List Int) (A1 : Option Addr) (c1 : Nat) (l1 : List Int) (r : List Int) (w : World) (hr0 : Kd.C (Kd.int .u64) w A0 l0.length l0) (hc0 : l0.length ≤ c0) (hr1 : Kd.C (Kd.int .u64) w A1 l1.length l1) (hc1 : l1.length ≤ c1) (h : ulpref03_Sub.f k l0 l1 = some r) :
  Calls Try.prog 57 #[.slice A0 l0.length c0, .slice A1 l1.length c1] w fun e w' => ∃ v0_ : Value, e = .returned (v0_) ∧ Kd.R (Kd.int .u64) 47 w' w.heap.size (fun _ => True) v0_ r ∧ Below w.heap.size w w' := by
 have HR0 := Aside0.mk hr0
 have HC0 := Aside0.mk hc0
 clear hr0 hc0
 have HR1 := Aside0.mk hr1
 have HC1 := Aside0.mk hc1
 clear hr1 hc1
 have HB := Aside0.mk (Below.refl w.heap.size w)
 have H : (ulpref03_Sub.l0 k l0 l1 ([] : List Int) 0 0) = some r := h
 clear h
 have H' := Aside0.mk H
 clear H
 go_enter Try.func57, Try.ntmps57
 go_wp2
 go_loopg [5, 6, 7] k (fun kq v5 v6 v7 w' => ∃ (x5_1 : List Int) (x6_1 : Int) (x7_1 : Int), v6 = .int .u64 x6_1 ∧ v7 = .int .i64 x7_1 ∧ Aside0 (ulpref03_Sub.l0 kq l0 l1 x5_1 x6_1 x7_1 = some r) ∧ Aside0 (kq ≤ k) ∧ Aside0 (Kd.R (Kd.int .u64) 47 w' w.heap.size (fun _ => True) v5 x5_1) ∧ Aside0 (Below w.heap.size w w'))
 case atStart => exact ⟨(([] : List Int)), (0), (0), (by first | rfl | (simp; done) | (simp [*]; done)), (by first | rfl | (simp; done) | (simp [*]; done)), H', ⟨Nat.le_refl _⟩, ⟨by first | exact Kd.R_nil _ _ _ _ _ | exact Kd.N_nil _ _ _ _ _ | exact Kd.V_nil _ _ _ _ _ | exact Kd.Q_nil _ _ _ _ _ | exact Kd.S_nil _ _ _ _ _⟩, ⟨bq⟩⟩
 case round =>
  clear H'
  try clear c1
  try clear p2
  obtain ⟨x5_1, x6_1, x7_1, rfl, rfl, HA, HK1, HO_5, HB⟩ := hrel
  cases gk with
  | zero => exact absurd HA.out (by simp [ulpref03_Sub.l0])
  | succ k1 =>
   have H := HA.out
   clear HA
   simp only [ulpref03_Sub.l0] at H
   obtain ⟨ji3, hji3⟩ : ∃ j_ : Int, (mx (l0.length : Int) (l1.length : Int)) = j_ := ⟨_, rfl⟩
   replace H : (if x7_1 < (ji3) then ((ulpref03_word.f l0 x7_1).bind fun t574 => ((ulpref03_word.f l1 x7_1).bind fun t575 => (if t574 < t575 then (if x5_1.length < 17592186044416 then (ulpref03_Sub.l0 k1 l0 l1 (x5_1 ++ [IntKind.u64.wrap ((IntKind.u64.wrap (t574 - t575)) - x6_1)]) 1 (wrap64 (x7_1 + 1))) else (none)) else (if t574 = t575 then (if x6_1 = 1 then (if x5_1.length < 17592186044416 then (ulpref03_Sub.l0 k1 l0 l1 (x5_1 ++ [IntKind.u64.wrap ((IntKind.u64.wrap (t574 - t575)) - x6_1)]) 1 (wrap64 (x7_1 + 1))) else (none)) else (if x5_1.length < 17592186044416 then (ulpref03_Sub.l0 k1 l0 l1 (x5_1 ++ [IntKind.u64.wrap ((IntKind.u64.wrap (t574 - t575)) - x6_1)]) 0 (wrap64 (x7_1 + 1))) else (none))) else (if x5_1.length < 17592186044416 then (ulpref03_Sub.l0 k1 l0 l1 (x5_1 ++ [IntKind.u64.wrap ((IntKind.u64.wrap (t574 - t575)) - x6_1)]) 0 (wrap64 (x7_1 + 1))) else (none)))))) else ((ulpref03_Norm.f k1 x5_1).bind fun t571 => (some t571))) = some r := by first | (rw [hji3] at H; exact H) | (simp only [hji3] at H ⊢; exact H)
   (try (have hji3l : 0 ≤ ji3 := by (rw [← hji3]; unfold mx; (repeat' split) <;> omega)))
   (try (have hji3m : 0 ≤ ji3 := by omega))
   have hji3_ : (if (l0.length : Int) < (l1.length : Int) then (l1.length : Int) else (l0.length : Int)) = ji3 := hji3
   have hji3n : (if l0.length < l1.length then (l1.length : Int) else (l0.length : Int)) = ji3 := by rw [← hji3_]; (repeat' split) <;> omega
   by_cases c4 : x7_1 < (ji3)
   ·rw [if_pos c4] at H
    have c4b0 : decide (x7_1 < (ji3)) = true := decide_eq_true c4
    clear c4
    replace H := Option.bind_eq_some_iff.mp H
    obtain ⟨t574, A50, H⟩ := H
    (try dsimp only at H)
    have A5 := Aside0.mk A50
    clear A50
    replace H := Option.bind_eq_some_iff.mp H
    obtain ⟨t575, A60, H⟩ := H
    (try dsimp only at H)
    have A6 := Aside0.mk A60
    clear A60
    by_cases c7 : t574 < t575
    ·rw [if_pos c7] at H
     have c7b0 : decide (t574 < t575) = true := decide_eq_true c7
     clear c7
     replace H := dn H
     obtain ⟨c8, H⟩ := H
     have LMc8 := Aside0.mk c8
     clear c8
     obtain ⟨y576, hy576⟩ : ∃ y_ : List Int, y_ = (x5_1 ++ [IntKind.u64.wrap ((IntKind.u64.wrap (t574 - t575)) - x6_1)]) := ⟨_, rfl⟩
     replace H : (ulpref03_Sub.l0 k1 l0 l1 y576 1 (wrap64 (x7_1 + 1))) = some r := by first | (rw [hy576]; with_reducible exact H) | (have H2_ := (Option.bind_some _ _).symm.trans H; rw [hy576]; with_reducible exact H2_) | (have H2_ := (Option.bind_some _ _).symm.trans H; with_reducible exact H2_) | with_reducible exact H | (rw [hy576]; exact H) | exact H
     have Ny576 := Aside0.mk hy576
     clear hy576
     have H' := Aside0.mk H
     clear H
     go_wp2_with (first | ((with_reducible refine gate_callee (f := 58) rfl ?_); refine goesL_ (some 22) rfl rfl Try.func58 (by kernel_rfl) rfl #[.slice A0 l0.length c0, .int .i64 x7_1] rfl ga ?_; (with_reducible refine (ulpref03_word.calls _ _ l0 x7_1 t574 _ ?side1 ?side2 A5.out).mono ?_); (case side1 => repeat (first | exact (Kd.C_below HR0.out HB.out) | (with_reducible refine Kd.C_alloc ?_ _) | (with_reducible refine Kd.C_drewN ?_ _) | (with_reducible refine Kd.C_drew ?_))); (case side2 => exact HC0.out); rintro e w' ⟨rfl, ⟨nd, rfl⟩⟩; refine ⟨_, rfl, ?_⟩) | ((with_reducible refine gate_callee (f := 58) rfl ?_); refine goesL_ (some 25) rfl rfl Try.func58 (by kernel_rfl) rfl #[.slice A1 l1.length c1, .int .i64 x7_1] rfl ga ?_; (with_reducible refine (ulpref03_word.calls _ _ l1 x7_1 t575 _ ?side1 ?side2 A6.out).mono ?_); (case side1 => repeat (first | exact (Kd.C_below HR1.out bq) | (with_reducible refine Kd.C_alloc ?_ _) | (with_reducible refine Kd.C_drewN ?_ _) | (with_reducible refine Kd.C_drew ?_))); (case side2 => exact HC1.out); rintro e w' ⟨rfl, ⟨nd, rfl⟩⟩; refine ⟨_, rfl, ?_⟩) | ((with_reducible refine gate_builtin (b := .append) (xs := #[.tmp 43, .tmp 45]) rfl ?_); at_builtin; refine Kd.R_append (Kd.int .u64) (w0 := w) w.heap.size rfl (.tmp 43) (.tmp 45) 23 47 (.int .u64 0) 8 rfl Try.underlying23 info47 rfl (by decide) (by omega) u5 x5_1 (IntKind.u64.wrap ((IntKind.u64.wrap (t574 - t575)) - x6_1)) [.int .u64 (IntKind.u64.wrap ((IntKind.u64.wrap (t574 - t575)) - x6_1))] (fun _ => True) (fun _ => False) rfl rfl ?aP (fun _ hk => hk.elim) ?aF ?aO ?aB ?aS ?aL ?_; (case aP => exact rfl); (case aB => exact bq); (case aF => exact (fun _ _ => trivial)); (case aO => exact (ru HO_5.out)); (case aS => exact (below_size bq)); (case aL => have := LMc8.out; omega); intro v577 w9 ho hb hg hat; rw [← Ny576.out] at ho; have n0_ := Aside0.mk (hb); have n1_ := Aside0.mk (ho); clear HB; clear HO_5; have HB := n0_; have HO578 := n1_; clear n0_ n1_; clear ho hb hg hat))
     (try simp only [← hji3])
     go_roundg k1
     case measure => have := HK1.out; omega
     case rel => exact ⟨(y576), (1), (wrap64 (x7_1 + 1)), (by first | rfl | (simp; done) | (simp [*]; done)), (by first | rfl | (simp; done) | (simp [*]; done)), (by first | exact H' | (simp only [hji3]; exact H') | (simp only [hji3] at H' ⊢; exact H')), ⟨by have := HK1.out; omega⟩, ⟨by (with_reducible repeat (first | apply Kd.R_alloc | apply Kd.R_drewN | apply Kd.R_drew)); exact HO578.out⟩, ⟨bq⟩⟩
    ·rw [if_neg c7] at H
     have c7b0 : decide (t574 < t575) = false := decide_eq_false c7
     clear c7
     by_cases c10 : t574 = t575
     ·rw [if_pos c10] at H
      have c10b0 : (t574 == t575) = true := beq_iff_eq.mpr c10
      have c10b1 : (t574 != t575) = false := bne_eq_false_iff_eq.mpr c10
      clear c10
      by_cases c11 : x6_1 = 1
      ·rw [if_pos c11] at H
       have c11b0 : (x6_1 == 1) = true := beq_iff_eq.mpr c11
       have c11b1 : (x6_1 != 1) = false := bne_eq_false_iff_eq.mpr c11
       clear c11
       replace H := dn H
       obtain ⟨c12, H⟩ := H
       have LMc12 := Aside0.mk c12
       clear c12
       obtain ⟨y579, hy579⟩ : ∃ y_ : List Int, y_ = (x5_1 ++ [IntKind.u64.wrap ((IntKind.u64.wrap (t574 - t575)) - x6_1)]) := ⟨_, rfl⟩
       replace H : (ulpref03_Sub.l0 k1 l0 l1 y579 1 (wrap64 (x7_1 + 1))) = some r := by first | (rw [hy579]; with_reducible exact H) | (have H2_ := (Option.bind_some _ _).symm.trans H; rw [hy579]; with_reducible exact H2_) | (have H2_ := (Option.bind_some _ _).symm.trans H; with_reducible exact H2_) | with_reducible exact H | (rw [hy579]; exact H) | exact H
       have Ny579 := Aside0.mk hy579
       clear hy579
       have H' := Aside0.mk H
       clear H
       go_wp2_with (first | ((with_reducible refine gate_callee (f := 58) rfl ?_); refine goesL_ (some 22) rfl rfl Try.func58 (by kernel_rfl) rfl #[.slice A0 l0.length c0, .int .i64 x7_1] rfl ga ?_; (with_reducible refine (ulpref03_word.calls _ _ l0 x7_1 t574 _ ?side1 ?side2 A5.out).mono ?_); (case side1 => repeat (first | exact (Kd.C_below HR0.out HB.out) | (with_reducible refine Kd.C_alloc ?_ _) | (with_reducible refine Kd.C_drewN ?_ _) | (with_reducible refine Kd.C_drew ?_))); (case side2 => exact HC0.out); rintro e w' ⟨rfl, ⟨nd, rfl⟩⟩; refine ⟨_, rfl, ?_⟩) | ((with_reducible refine gate_callee (f := 58) rfl ?_); refine goesL_ (some 25) rfl rfl Try.func58 (by kernel_rfl) rfl #[.slice A1 l1.length c1, .int .i64 x7_1] rfl ga ?_; (with_reducible refine (ulpref03_word.calls _ _ l1 x7_1 t575 _ ?side1 ?side2 A6.out).mono ?_); (case side1 => repeat (first | exact (Kd.C_below HR1.out bq) | (with_reducible refine Kd.C_alloc ?_ _) | (with_reducible refine Kd.C_drewN ?_ _) | (with_reducible refine Kd.C_drew ?_))); (case side2 => exact HC1.out); rintro e w' ⟨rfl, ⟨nd, rfl⟩⟩; refine ⟨_, rfl, ?_⟩) | ((with_reducible refine gate_builtin (b := .append) (xs := #[.tmp 43, .tmp 45]) rfl ?_); at_builtin; refine Kd.R_append (Kd.int .u64) (w0 := w) w.heap.size rfl (.tmp 43) (.tmp 45) 23 47 (.int .u64 0) 8 rfl Try.underlying23 info47 rfl (by decide) (by omega) u5 x5_1 (IntKind.u64.wrap ((IntKind.u64.wrap (t574 - t575)) - x6_1)) [.int .u64 (IntKind.u64.wrap ((IntKind.u64.wrap (t574 - t575)) - x6_1))] (fun _ => True) (fun _ => False) rfl rfl ?aP (fun _ hk => hk.elim) ?aF ?aO ?aB ?aS ?aL ?_; (case aP => exact rfl); (case aB => exact bq); (case aF => exact (fun _ _ => trivial)); (case aO => exact (ru HO_5.out)); (case aS => exact (below_size bq)); (case aL => have := LMc12.out; omega); intro v580 w13 ho hb hg hat; rw [← Ny579.out] at ho; have n0_ := Aside0.mk (hb); have n1_ := Aside0.mk (ho); clear HB; clear HO_5; have HB := n0_; have HO581 := n1_; clear n0_ n1_; clear ho hb hg hat))
       (try simp only [← hji3])
       go_roundg k1
       case measure => have := HK1.out; omega
       case rel => exact ⟨(y579), (1), (wrap64 (x7_1 + 1)), (by first | rfl | (simp; done) | (simp [*]; done)), (by first | rfl | (simp; done) | (simp [*]; done)), (by first | exact H' | (simp only [hji3]; exact H') | (simp only [hji3] at H' ⊢; exact H')), ⟨by have := HK1.out; omega⟩, ⟨by (with_reducible repeat (first | apply Kd.R_alloc | apply Kd.R_drewN | apply Kd.R_drew)); exact HO581.out⟩, ⟨bq⟩⟩
      ·rw [if_neg c11] at H
       have c11b0 : (x6_1 == 1) = false := beq_eq_false_iff_ne.mpr c11
       have c11b1 : (x6_1 != 1) = true := bne_iff_ne.mpr c11
       replace H := dn H
       obtain ⟨c14, H⟩ := H
       have LMc14 := Aside0.mk c14
       clear c14
       obtain ⟨y582, hy582⟩ : ∃ y_ : List Int, y_ = (x5_1 ++ [IntKind.u64.wrap ((IntKind.u64.wrap (t574 - t575)) - x6_1)]) := ⟨_, rfl⟩
       replace H : (ulpref03_Sub.l0 k1 l0 l1 y582 0 (wrap64 (x7_1 + 1))) = some r := by first | (rw [hy582]; with_reducible exact H) | (have H2_ := (Option.bind_some _ _).symm.trans H; rw [hy582]; with_reducible exact H2_) | (have H2_ := (Option.bind_some _ _).symm.trans H; with_reducible exact H2_) | with_reducible exact H | (rw [hy582]; exact H) | exact H
       have Ny582 := Aside0.mk hy582
       clear hy582
       have H' := Aside0.mk H
       clear H
       go_wp2_with (first | ((with_reducible refine gate_callee (f := 58) rfl ?_); refine goesL_ (some 22) rfl rfl Try.func58 (by kernel_rfl) rfl #[.slice A0 l0.length c0, .int .i64 x7_1] rfl ga ?_; (with_reducible refine (ulpref03_word.calls _ _ l0 x7_1 t574 _ ?side1 ?side2 A5.out).mono ?_); (case side1 => repeat (first | exact (Kd.C_below HR0.out HB.out) | (with_reducible refine Kd.C_alloc ?_ _) | (with_reducible refine Kd.C_drewN ?_ _) | (with_reducible refine Kd.C_drew ?_))); (case side2 => exact HC0.out); rintro e w' ⟨rfl, ⟨nd, rfl⟩⟩; refine ⟨_, rfl, ?_⟩) | ((with_reducible refine gate_callee (f := 58) rfl ?_); refine goesL_ (some 25) rfl rfl Try.func58 (by kernel_rfl) rfl #[.slice A1 l1.length c1, .int .i64 x7_1] rfl ga ?_; (with_reducible refine (ulpref03_word.calls _ _ l1 x7_1 t575 _ ?side1 ?side2 A6.out).mono ?_); (case side1 => repeat (first | exact (Kd.C_below HR1.out bq) | (with_reducible refine Kd.C_alloc ?_ _) | (with_reducible refine Kd.C_drewN ?_ _) | (with_reducible refine Kd.C_drew ?_))); (case side2 => exact HC1.out); rintro e w' ⟨rfl, ⟨nd, rfl⟩⟩; refine ⟨_, rfl, ?_⟩) | ((with_reducible refine gate_builtin (b := .append) (xs := #[.tmp 43, .tmp 45]) rfl ?_); at_builtin; refine Kd.R_append (Kd.int .u64) (w0 := w) w.heap.size rfl (.tmp 43) (.tmp 45) 23 47 (.int .u64 0) 8 rfl Try.underlying23 info47 rfl (by decide) (by omega) u5 x5_1 (IntKind.u64.wrap ((IntKind.u64.wrap (t574 - t575)) - x6_1)) [.int .u64 (IntKind.u64.wrap ((IntKind.u64.wrap (t574 - t575)) - x6_1))] (fun _ => True) (fun _ => False) rfl rfl ?aP (fun _ hk => hk.elim) ?aF ?aO ?aB ?aS ?aL ?_; (case aP => exact rfl); (case aB => exact bq); (case aF => exact (fun _ _ => trivial)); (case aO => exact (ru HO_5.out)); (case aS => exact (below_size bq)); (case aL => have := LMc14.out; omega); intro v583 w15 ho hb hg hat; rw [← Ny582.out] at ho; have n0_ := Aside0.mk (hb); have n1_ := Aside0.mk (ho); clear HB; clear HO_5; have HB := n0_; have HO584 := n1_; clear n0_ n1_; clear ho hb hg hat))
       (try simp only [← hji3])
       go_roundg k1
       case measure => have := HK1.out; omega
       case rel => exact ⟨(y582), (0), (wrap64 (x7_1 + 1)), (by first | rfl | (simp; done) | (simp [*]; done)), (by first | rfl | (simp; done) | (simp [*]; done)), (by first | exact H' | (simp only [hji3]; exact H') | (simp only [hji3] at H' ⊢; exact H')), ⟨by have := HK1.out; omega⟩, ⟨by (with_reducible repeat (first | apply Kd.R_alloc | apply Kd.R_drewN | apply Kd.R_drew)); exact HO584.out⟩, ⟨bq⟩⟩
     ·rw [if_neg c10] at H
      have c10b0 : (t574 == t575) = false := beq_eq_false_iff_ne.mpr c10
      have c10b1 : (t574 != t575) = true := bne_iff_ne.mpr c10
      replace H := dn H
      obtain ⟨c16, H⟩ := H
      have LMc16 := Aside0.mk c16
      clear c16
      obtain ⟨y585, hy585⟩ : ∃ y_ : List Int, y_ = (x5_1 ++ [IntKind.u64.wrap ((IntKind.u64.wrap (t574 - t575)) - x6_1)]) := ⟨_, rfl⟩
      replace H : (ulpref03_Sub.l0 k1 l0 l1 y585 0 (wrap64 (x7_1 + 1))) = some r := by first | (rw [hy585]; with_reducible exact H) | (have H2_ := (Option.bind_some _ _).symm.trans H; rw [hy585]; with_reducible exact H2_) | (have H2_ := (Option.bind_some _ _).symm.trans H; with_reducible exact H2_) | with_reducible exact H | (rw [hy585]; exact H) | exact H
      have Ny585 := Aside0.mk hy585
      clear hy585
      have H' := Aside0.mk H
      clear H
      go_wp2_with (first | ((with_reducible refine gate_callee (f := 58) rfl ?_); refine goesL_ (some 22) rfl rfl Try.func58 (by kernel_rfl) rfl #[.slice A0 l0.length c0, .int .i64 x7_1] rfl ga ?_; (with_reducible refine (ulpref03_word.calls _ _ l0 x7_1 t574 _ ?side1 ?side2 A5.out).mono ?_); (case side1 => repeat (first | exact (Kd.C_below HR0.out HB.out) | (with_reducible refine Kd.C_alloc ?_ _) | (with_reducible refine Kd.C_drewN ?_ _) | (with_reducible refine Kd.C_drew ?_))); (case side2 => exact HC0.out); rintro e w' ⟨rfl, ⟨nd, rfl⟩⟩; refine ⟨_, rfl, ?_⟩) | ((with_reducible refine gate_callee (f := 58) rfl ?_); refine goesL_ (some 25) rfl rfl Try.func58 (by kernel_rfl) rfl #[.slice A1 l1.length c1, .int .i64 x7_1] rfl ga ?_; (with_reducible refine (ulpref03_word.calls _ _ l1 x7_1 t575 _ ?side1 ?side2 A6.out).mono ?_); (case side1 => repeat (first | exact (Kd.C_below HR1.out bq) | (with_reducible refine Kd.C_alloc ?_ _) | (with_reducible refine Kd.C_drewN ?_ _) | (with_reducible refine Kd.C_drew ?_))); (case side2 => exact HC1.out); rintro e w' ⟨rfl, ⟨nd, rfl⟩⟩; refine ⟨_, rfl, ?_⟩) | ((with_reducible refine gate_builtin (b := .append) (xs := #[.tmp 43, .tmp 45]) rfl ?_); at_builtin; refine Kd.R_append (Kd.int .u64) (w0 := w) w.heap.size rfl (.tmp 43) (.tmp 45) 23 47 (.int .u64 0) 8 rfl Try.underlying23 info47 rfl (by decide) (by omega) u5 x5_1 (IntKind.u64.wrap ((IntKind.u64.wrap (t574 - t575)) - x6_1)) [.int .u64 (IntKind.u64.wrap ((IntKind.u64.wrap (t574 - t575)) - x6_1))] (fun _ => True) (fun _ => False) rfl rfl ?aP (fun _ hk => hk.elim) ?aF ?aO ?aB ?aS ?aL ?_; (case aP => exact rfl); (case aB => exact bq); (case aF => exact (fun _ _ => trivial)); (case aO => exact (ru HO_5.out)); (case aS => exact (below_size bq)); (case aL => have := LMc16.out; omega); intro v586 w17 ho hb hg hat; rw [← Ny585.out] at ho; have n0_ := Aside0.mk (hb); have n1_ := Aside0.mk (ho); clear HB; clear HO_5; have HB := n0_; have HO587 := n1_; clear n0_ n1_; clear ho hb hg hat))
      (try simp only [← hji3])
      go_roundg k1
      case measure => have := HK1.out; omega
      case rel => exact ⟨(y585), (0), (wrap64 (x7_1 + 1)), (by first | rfl | (simp; done) | (simp [*]; done)), (by first | rfl | (simp; done) | (simp [*]; done)), (by first | exact H' | (simp only [hji3]; exact H') | (simp only [hji3] at H' ⊢; exact H')), ⟨by have := HK1.out; omega⟩, ⟨by (with_reducible repeat (first | apply Kd.R_alloc | apply Kd.R_drewN | apply Kd.R_drew)); exact HO587.out⟩, ⟨bq⟩⟩
   ·rw [if_neg c4] at H
    have c4b0 : decide (x7_1 < (ji3)) = false := decide_eq_false c4
    clear c4
    replace H := Option.bind_eq_some_iff.mp H
    obtain ⟨t571, A180, H⟩ := H
    (try dsimp only at H)
    have A18 := Aside0.mk A180
    clear A180
    obtain rfl := Option.some.inj H
    obtain ⟨Ao19, co19, eo19⟩ := Kd.R_slice HO_5.out
    subst eo19
    go_wp2_with (first | ((with_reducible refine gate_callee (f := 41) rfl ?_); refine goesL_ (some 48) rfl rfl Try.func41 (by kernel_rfl) rfl #[.slice Ao19 x5_1.length co19] rfl ga ?_; (with_reducible refine (ulpref03_Norm.calls k1 _ _ x5_1 t571 _ ?side1 ?side2 A18.out).mono ?_); (case side1 => repeat (first | exact (Kd.R_reads' HO_5.out).2.2 | (with_reducible refine Kd.C_alloc ?_ _) | (with_reducible refine Kd.C_drewN ?_ _) | (with_reducible refine Kd.C_drew ?_))); (case side2 => exact (Kd.R_reads' HO_5.out).2.1); rintro e w20 ⟨v572, rfl, ho0, hb⟩; refine ⟨_, rfl, ?_⟩; have n0_ := Aside0.mk (Kd.R_elder' (ru HO_5.out) (Kd.R_base ho0) hb); have n1_ := Aside0.mk (Kd.R_lower (Kd.R_new' ho0 (Kd.R_lt (ru HO_5.out))) (below_size bq)); have n2_ := Aside0.mk (below_step bq hb); clear HO_5; clear HB; have HO_5 := n0_; have HO573 := n1_; have HB := n2_; clear n0_ n1_ n2_; (try clear hb); (try clear hb2); (try clear hk); (try clear hi); (try clear ho0)))
    go_ret
    exact ⟨_, by first | rfl | (simp [errW_none, errW_some] <;> rfl) | (simp only [← hji3]; first | rfl | (simp [errW_none, errW_some] <;> rfl)) | (simp [*, errW_none, errW_some] <;> rfl), by (with_reducible repeat (first | apply Kd.R_alloc | apply Kd.R_drewN | apply Kd.R_drew)); exact Kd.R_mono HO573.out (fun _ hk => trivial), bq⟩
end Go.Proofs.Ytdbhednhhmbooaa.PAll
