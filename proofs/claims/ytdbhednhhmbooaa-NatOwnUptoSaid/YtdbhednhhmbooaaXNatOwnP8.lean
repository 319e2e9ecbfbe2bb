/- Printed functions, merged by a program of this session. -/
import Derived.Test.YtdbhednhhmbooaaXNatOwnP0
import Derived.Test.YtdbhednhhmbooaaXNatOwnP7
import Derived.Test.YtdbhednhhmbooaaXNatOwnP6
import Derived.Laws.StructEq
import Derived.Test.YtdbhednhhmbooaaXNatOwnSh
namespace Go.Proofs.Ytdbhednhhmbooaa.PAll
open Go.RowKit Go.Proofs.YtdbhednhhmbooaaW.PrintWords Go.Proofs.YtdbhednhhmbooaaW.PrintLast Go.Proofs.YtdbhednhhmbooaaW.PrintMore
attribute [local go_sem] max2_int min2_int max_two min_two max_three min_three max_four min_four   -- for this text's walks alone
set_option linter.unusedVariables false
set_option linter.unusedSimpArgs false
attribute [local go_sem] ext65 ext71
def nat_Parse.l0 : Nat → ByteArray → List Int → Int → Option (List Int × Int × Int)
 | 0, _, _, _ => none
 | k + 1, x0, x5, x6 => if x6 < (x0.size : Int) then (if 0 ≤ x6 then (if (bt x0 x6) < 48 then (some (([] : List Int), 32, x6)) else (if (bt x0 x6) > 57 then (some (([] : List Int), 32, x6)) else (if x6 = 1 then (if 0 < (x0.size : Int) then (if (bt x0 0) = 48 then (some (([] : List Int), 32, x6)) else ((nat_number_grown.f k x5 (((bt x0 x6) - 48) % 256)).bind fun t151 => (nat_Parse.l0 k x0 t151 (wrap64 (x6 + 1))))) else (none)) else ((nat_number_grown.f k x5 (((bt x0 x6) - 48) % 256)).bind fun t154 => (nat_Parse.l0 k x0 t154 (wrap64 (x6 + 1))))))) else (none)) else ((nat_number_own.f x5).bind fun t157 => (some (t157, 0, 0)))
def nat_Parse.f (k : Nat) (a0 : ByteArray) : Option (List Int × Int × Int) := if (a0.size : Int) > 4096 then (some (([] : List Int), 4, 0)) else (if a0.toList = ([] : List UInt8) then (some (([] : List Int), 32, 0)) else (nat_Parse.l0 k a0 ([] : List Int) 0))
theorem nat_Parse.mono_l : ∀ k, (∀ y0 y1 y2, LeO (nat_Parse.l0 k y0 y1 y2) (nat_Parse.l0 (k + 1) y0 y1 y2))
 | 0 => fun _ _ _ r h => by simp [nat_Parse.l0] at h
 | k + 1 => by
  have ih0 := nat_Parse.mono_l k
  ·intro y0 y1 y2
   unfold nat_Parse.l0
   repeat' first
   | (with_reducible exact ih0 _ _ _)
   | (with_reducible exact nat_number_grown.mono _ _ _)
   | (with_reducible exact LeO.refl _)
   | (with_reducible exact LeO.none _)
   | (with_reducible refine LeO.ite ?_ ?_)
   | (with_reducible refine LeO.bind ?_ (fun _ => ?_))
   | exact ih0 _ _ _
   | exact nat_number_grown.mono _ _ _
   | exact LeO.none _
   | refine LeO.ite ?_ ?_
   | refine LeO.bind ?_ (fun _ => ?_)
theorem nat_Parse.mono : ∀ a0 k, LeO (nat_Parse.f k a0) (nat_Parse.f (k + 1) a0) := by
 intro a0 k
 have ih0 := nat_Parse.mono_l k
 unfold nat_Parse.f
 repeat' first
   | (with_reducible exact ih0 _ _ _)
   | (with_reducible exact nat_number_grown.mono _ _ _)
   | (with_reducible exact LeO.refl _)
   | (with_reducible exact LeO.none _)
   | (with_reducible refine LeO.ite ?_ ?_)
   | (with_reducible refine LeO.bind ?_ (fun _ => ?_))
   | exact ih0 _ _ _
   | exact nat_number_grown.mono _ _ _
   | exact LeO.none _
   | refine LeO.ite ?_ ?_
   | refine LeO.bind ?_ (fun _ => ?_)
set_option maxHeartbeats 8000000 in
set_option maxRecDepth 100000 in
theorem nat_Parse.calls (k : Nat) (a0 : ByteArray) (r1 : List Int) (r2 : Int) (r3 : Int) (w : World) (h : nat_Parse.f k a0 = some (r1, r2, r3)) :
  Calls Try.prog 10 #[.string a0] w fun e w' => ∃ v0_ : Value, e = .returned (.tuple #[v0_, .int .i64 r2, .int .i64 r3]) ∧ Kd.R (Kd.int .u64) 47 w' w.heap.size (fun _ => True) v0_ r1 ∧ Below w.heap.size w w' := by
 have HB := Aside0.mk (Below.refl w.heap.size w)
 have H : (if (a0.size : Int) > 4096 then (some (([] : List Int), 4, 0)) else (if a0.toList = ([] : List UInt8) then (some (([] : List Int), 32, 0)) else (nat_Parse.l0 k a0 ([] : List Int) 0))) = some (r1, r2, r3) := h
 clear h
 by_cases c2 : (a0.size : Int) > 4096
 ·rw [if_pos c2] at H
  have c2b0 : decide (4096 < (a0.size : Int)) = true := decide_eq_true c2
  have c2b1 : decide (4096 < a0.size) = true := decide_eq_true (by omega)
  clear c2
  simp only [Option.some.injEq, Prod.mk.injEq] at H
  obtain ⟨rfl, rfl, rfl⟩ := H
  go_enter Try.func10, Try.ntmps10
  go_wp2
  go_ret3
  exact ⟨_, er, by first | exact Kd.R_nil _ _ _ _ _ | exact Kd.N_nil _ _ _ _ _ | exact Kd.V_nil _ _ _ _ _ | exact Kd.Q_nil _ _ _ _ _ | exact Kd.S_nil _ _ _ _ _, bq⟩
 ·rw [if_neg c2] at H
  have c2b0 : decide (4096 < (a0.size : Int)) = false := decide_eq_false c2
  have c2b1 : decide (4096 < a0.size) = false := decide_eq_false (by omega)
  clear c2
  by_cases c3 : a0.toList = ([] : List UInt8)
  ·rw [if_pos c3] at H
   have c3b0 : (a0.toList == ([] : List UInt8)) = true := beq_iff_eq.mpr c3
   have c3b1 : (a0.toList != ([] : List UInt8)) = false := bne_eq_false_iff_eq.mpr c3
   clear c3
   simp only [Option.some.injEq, Prod.mk.injEq] at H
   obtain ⟨rfl, rfl, rfl⟩ := H
   go_enter Try.func10, Try.ntmps10
   go_wp2
   go_ret3
   exact ⟨_, er, by first | exact Kd.R_nil _ _ _ _ _ | exact Kd.N_nil _ _ _ _ _ | exact Kd.V_nil _ _ _ _ _ | exact Kd.Q_nil _ _ _ _ _ | exact Kd.S_nil _ _ _ _ _, bq⟩
  ·rw [if_neg c3] at H
   have c3b0 : (a0.toList == ([] : List UInt8)) = false := beq_eq_false_iff_ne.mpr c3
   have c3b1 : (a0.toList != ([] : List UInt8)) = true := bne_iff_ne.mpr c3
   have H' := Aside0.mk H
   clear H
   go_enter Try.func10, Try.ntmps10
   go_wp2
   go_loopg [5, 6] k (fun kq v5 v6 w' => ∃ (x5_1 : List Int) (x6_1 : Int), v6 = .int .i64 x6_1 ∧ Aside0 (nat_Parse.l0 kq a0 x5_1 x6_1 = some (r1, r2, r3)) ∧ Aside0 (kq ≤ k) ∧ Aside0 (Kd.R (Kd.int .u64) 47 w' w.heap.size (fun _ => True) v5 x5_1) ∧ Aside0 (Below w.heap.size w w'))
   case atStart => exact ⟨(([] : List Int)), (0), (by first | rfl | (simp; done) | (simp [*]; done)), H', ⟨Nat.le_refl _⟩, ⟨by first | exact Kd.R_nil _ _ _ _ _ | exact Kd.N_nil _ _ _ _ _ | exact Kd.V_nil _ _ _ _ _ | exact Kd.Q_nil _ _ _ _ _ | exact Kd.S_nil _ _ _ _ _⟩, ⟨bq⟩⟩
   case round =>
    clear H'
    try clear c1
    try clear c2
    try clear c2b0
    try clear c2b1
    try clear p2
    try clear c3
    try clear c3b0
    try clear c3b1
    obtain ⟨x5_1, x6_1, rfl, HA, HK1, HO_5, HB⟩ := hrel
    cases gk with
    | zero => exact absurd HA.out (by simp [nat_Parse.l0])
    | succ k1 =>
     have H := HA.out
     clear HA
     simp only [nat_Parse.l0] at H
     by_cases c4 : x6_1 < (a0.size : Int)
     ·rw [if_pos c4] at H
      have c4b0 : decide (x6_1 < (a0.size : Int)) = true := decide_eq_true c4
      clear c4
      replace H := dn H
      obtain ⟨c5, H⟩ := H
      have c5b0 : decide (0 ≤ x6_1) = true := decide_eq_true c5
      clear c5
      by_cases c7 : (bt a0 x6_1) < 48
      ·rw [if_pos c7] at H
       have c7b0 : decide ((bt a0 x6_1) < 48) = true := decide_eq_true c7
       clear c7
       simp only [Option.some.injEq, Prod.mk.injEq] at H
       obtain ⟨rfl, rfl, rfl⟩ := H
       have p6 : 0 ≤ (x6_1 : Int) := od
       have q6 : x6_1 < (a0.size : Int) := od
       have hx6 := bt_at a0 x6_1
       replace p6 := eq_true p6
       replace q6 := eq_true q6
       go_wp2
       go_ret3
       exact ⟨_, er, by first | exact Kd.R_nil _ _ _ _ _ | exact Kd.N_nil _ _ _ _ _ | exact Kd.V_nil _ _ _ _ _ | exact Kd.Q_nil _ _ _ _ _ | exact Kd.S_nil _ _ _ _ _, bq⟩
      ·rw [if_neg c7] at H
       have c7b0 : decide ((bt a0 x6_1) < 48) = false := decide_eq_false c7
       clear c7
       by_cases c8 : (bt a0 x6_1) > 57
       ·rw [if_pos c8] at H
        have c8b0 : decide (57 < (bt a0 x6_1)) = true := decide_eq_true c8
        clear c8
        simp only [Option.some.injEq, Prod.mk.injEq] at H
        obtain ⟨rfl, rfl, rfl⟩ := H
        have p6 : 0 ≤ (x6_1 : Int) := od
        have q6 : x6_1 < (a0.size : Int) := od
        have hx6 := bt_at a0 x6_1
        replace p6 := eq_true p6
        replace q6 := eq_true q6
        go_wp2
        go_ret3
        exact ⟨_, er, by first | exact Kd.R_nil _ _ _ _ _ | exact Kd.N_nil _ _ _ _ _ | exact Kd.V_nil _ _ _ _ _ | exact Kd.Q_nil _ _ _ _ _ | exact Kd.S_nil _ _ _ _ _, bq⟩
       ·rw [if_neg c8] at H
        have c8b0 : decide (57 < (bt a0 x6_1)) = false := decide_eq_false c8
        clear c8
        by_cases c9 : x6_1 = 1
        ·rw [if_pos c9] at H
         have c9b0 : (x6_1 == 1) = true := beq_iff_eq.mpr c9
         have c9b1 : (x6_1 != 1) = false := bne_eq_false_iff_eq.mpr c9
         clear c9
         replace H := dn H
         obtain ⟨c10, H⟩ := H
         have c10b0 : decide (0 < (a0.size : Int)) = true := decide_eq_true c10
         have c10b1 : decide (0 < a0.size) = true := decide_eq_true (by omega)
         clear c10
         by_cases c12 : (bt a0 0) = 48
         ·rw [if_pos c12] at H
          have c12b0 : ((bt a0 0) == 48) = true := beq_iff_eq.mpr c12
          have c12b1 : ((bt a0 0) != 48) = false := bne_eq_false_iff_eq.mpr c12
          clear c12
          simp only [Option.some.injEq, Prod.mk.injEq] at H
          obtain ⟨rfl, rfl, rfl⟩ := H
          have p6 : 0 ≤ (x6_1 : Int) := od
          have q6 : x6_1 < (a0.size : Int) := od
          have hx6 := bt_at a0 x6_1
          replace p6 := eq_true p6
          replace q6 := eq_true q6
          have p11 : 0 ≤ (0 : Int) := (by omega)
          have q11 : 0 < a0.size := (by have : (0 : Int) < (a0.size : Int) := od; omega)
          have hx11 : ∀ h : 0 < a0.size, ((a0[0]'h).toNat : Int) = bt a0 0 := bt_at a0 0
          clear p11
          have qi11 : (0 < (a0.size : Int)) = True := eq_true (od)
          replace q11 := eq_true q11
          go_wp2
          go_ret3
          exact ⟨_, er, by first | exact Kd.R_nil _ _ _ _ _ | exact Kd.N_nil _ _ _ _ _ | exact Kd.V_nil _ _ _ _ _ | exact Kd.Q_nil _ _ _ _ _ | exact Kd.S_nil _ _ _ _ _, bq⟩
         ·rw [if_neg c12] at H
          have c12b0 : ((bt a0 0) == 48) = false := beq_eq_false_iff_ne.mpr c12
          have c12b1 : ((bt a0 0) != 48) = true := bne_iff_ne.mpr c12
          replace H := Option.bind_eq_some_iff.mp H
          obtain ⟨t151, A130, H⟩ := H
          (try dsimp only at H)
          have A13 := Aside0.mk A130
          clear A130
          have H' := Aside0.mk H
          clear H
          have p6 : 0 ≤ (x6_1 : Int) := od
          have q6 : x6_1 < (a0.size : Int) := od
          have hx6 := bt_at a0 x6_1
          replace p6 := eq_true p6
          replace q6 := eq_true q6
          have p11 : 0 ≤ (0 : Int) := (by omega)
          have q11 : 0 < a0.size := (by have : (0 : Int) < (a0.size : Int) := od; omega)
          have hx11 : ∀ h : 0 < a0.size, ((a0[0]'h).toNat : Int) = bt a0 0 := bt_at a0 0
          clear p11
          have qi11 : (0 < (a0.size : Int)) = True := eq_true (od)
          replace q11 := eq_true q11
          obtain ⟨Ao14, co14, eo14⟩ := Kd.R_slice HO_5.out
          subst eo14
          go_wp2_with (first | ((with_reducible refine gate_callee (f := 36) rfl ?_); refine goesL_ (some 42) rfl rfl Try.func36 (by kernel_rfl) rfl #[.slice Ao14 x5_1.length co14, .int .u64 (((bt a0 x6_1) - 48) % 256)] rfl ga ?_; (with_reducible refine (nat_number_grown.calls k1 (fun k_ => some k_ = (.slice Ao14 x5_1.length co14 : Value).ownBlock) (.slice Ao14 x5_1.length co14) x5_1 (((bt a0 x6_1) - 48) % 256) t151 w _ ?side1 ?side2 A13.out).mono ?_); (case side1 => repeat (first | (with_reducible first | exact HB.out | apply below_alloc | apply pw_below_drewN | apply below_drew1) | exact HB.out)); (case side2 => exact Kd.R_tight rfl HO_5.out); rintro e w15 ⟨v152, rfl, ho0, hb, hkp⟩; refine ⟨_, rfl, ?_⟩; have n0_ := Aside0.mk (Kd.R_mono (ok' := fun k_ => True) ho0 (fun k_ hk_ => trivial)); have n1_ := Aside0.mk (hb); clear HB; clear HO_5; have HO153 := n0_; have HB := n1_; clear n0_ n1_; (try clear hb); (try clear hkp); (try clear ho0)))
          go_roundg k1
          case measure => have := HK1.out; omega
          case rel => exact ⟨(t151), (wrap64 (x6_1 + 1)), (by first | rfl | (simp; done) | (simp [*]; done)), H', ⟨by have := HK1.out; omega⟩, ⟨by (with_reducible repeat (first | apply Kd.R_alloc | apply Kd.R_drewN | apply Kd.R_drew)); exact HO153.out⟩, ⟨bq⟩⟩
        ·rw [if_neg c9] at H
         have c9b0 : (x6_1 == 1) = false := beq_eq_false_iff_ne.mpr c9
         have c9b1 : (x6_1 != 1) = true := bne_iff_ne.mpr c9
         replace H := Option.bind_eq_some_iff.mp H
         obtain ⟨t154, A160, H⟩ := H
         (try dsimp only at H)
         have A16 := Aside0.mk A160
         clear A160
         have H' := Aside0.mk H
         clear H
         have p6 : 0 ≤ (x6_1 : Int) := od
         have q6 : x6_1 < (a0.size : Int) := od
         have hx6 := bt_at a0 x6_1
         replace p6 := eq_true p6
         replace q6 := eq_true q6
         obtain ⟨Ao17, co17, eo17⟩ := Kd.R_slice HO_5.out
         subst eo17
         go_wp2_with (first | ((with_reducible refine gate_callee (f := 36) rfl ?_); refine goesL_ (some 42) rfl rfl Try.func36 (by kernel_rfl) rfl #[.slice Ao17 x5_1.length co17, .int .u64 (((bt a0 x6_1) - 48) % 256)] rfl ga ?_; (with_reducible refine (nat_number_grown.calls k1 (fun k_ => some k_ = (.slice Ao17 x5_1.length co17 : Value).ownBlock) (.slice Ao17 x5_1.length co17) x5_1 (((bt a0 x6_1) - 48) % 256) t154 w _ ?side1 ?side2 A16.out).mono ?_); (case side1 => repeat (first | (with_reducible first | exact HB.out | apply below_alloc | apply pw_below_drewN | apply below_drew1) | exact HB.out)); (case side2 => exact Kd.R_tight rfl HO_5.out); rintro e w18 ⟨v155, rfl, ho0, hb, hkp⟩; refine ⟨_, rfl, ?_⟩; have n0_ := Aside0.mk (Kd.R_mono (ok' := fun k_ => True) ho0 (fun k_ hk_ => trivial)); have n1_ := Aside0.mk (hb); clear HB; clear HO_5; have HO156 := n0_; have HB := n1_; clear n0_ n1_; (try clear hb); (try clear hkp); (try clear ho0)))
         go_roundg k1
         case measure => have := HK1.out; omega
         case rel => exact ⟨(t154), (wrap64 (x6_1 + 1)), (by first | rfl | (simp; done) | (simp [*]; done)), H', ⟨by have := HK1.out; omega⟩, ⟨by (with_reducible repeat (first | apply Kd.R_alloc | apply Kd.R_drewN | apply Kd.R_drew)); exact HO156.out⟩, ⟨bq⟩⟩
     ·rw [if_neg c4] at H
      have c4b0 : decide (x6_1 < (a0.size : Int)) = false := decide_eq_false c4
      clear c4
      replace H := Option.bind_eq_some_iff.mp H
      obtain ⟨t157, A190, H⟩ := H
      (try dsimp only at H)
      have A19 := Aside0.mk A190
      clear A190
      simp only [Option.some.injEq, Prod.mk.injEq] at H
      obtain ⟨rfl, rfl, rfl⟩ := H
      obtain ⟨Ao20, co20, eo20⟩ := Kd.R_slice HO_5.out
      subst eo20
      go_wp2_with (first | ((with_reducible refine gate_callee (f := 37) rfl ?_); refine goesL_ (some 44) rfl rfl Try.func37 (by kernel_rfl) rfl #[.slice Ao20 x5_1.length co20] rfl ga ?_; (with_reducible refine (nat_number_own.calls _ _ x5_1 t157 _ ?side1 ?side2 A19.out).mono ?_); (case side1 => repeat (first | exact (Kd.R_reads' HO_5.out).2.2 | (with_reducible refine Kd.C_alloc ?_ _) | (with_reducible refine Kd.C_drewN ?_ _) | (with_reducible refine Kd.C_drew ?_))); (case side2 => exact (Kd.R_reads' HO_5.out).2.1); rintro e w21 ⟨v158, rfl, ho0, hb⟩; refine ⟨_, rfl, ?_⟩; have n0_ := Aside0.mk (Kd.R_elder' (ru HO_5.out) (Kd.R_base ho0) hb); have n1_ := Aside0.mk (Kd.R_lower (Kd.R_new' ho0 (Kd.R_lt (ru HO_5.out))) (below_size bq)); have n2_ := Aside0.mk (below_step bq hb); clear HO_5; clear HB; have HO_5 := n0_; have HO159 := n1_; have HB := n2_; clear n0_ n1_ n2_; (try clear hb); (try clear hb2); (try clear hk); (try clear hi); (try clear ho0)))
      go_ret3
      exact ⟨_, er, by (with_reducible repeat (first | apply Kd.R_alloc | apply Kd.R_drewN | apply Kd.R_drew)); exact Kd.R_mono HO159.out (fun _ hk => trivial), bq⟩
def ulpref03_Same.l0 : Nat → List Int → List Int → Int → Int → Option (Bool)
 | 0, _, _, _, _ => none
 | k + 1, x0, x1, x12, x13 => if x13 < x12 then (if 0 ≤ x13 then (if x13 < (x0.length : Int) then (if x13 < (x1.length : Int) then (if (rd x0 x13) = (rd x1 x13) then (ulpref03_Same.l0 k x0 x1 x12 (wrap64 (x13 + 1))) else (some false)) else (none)) else (none)) else (none)) else (some true)
def ulpref03_Same.f (k : Nat) (l0 : List Int) (l1 : List Int) : Option (Bool) := if (l0.length : Int) = (l1.length : Int) then (ulpref03_Same.l0 k l0 l1 (l0.length : Int) 0) else (some false)
theorem ulpref03_Same.mono_l : ∀ k, (∀ y0 y1 y2 y3, LeO (ulpref03_Same.l0 k y0 y1 y2 y3) (ulpref03_Same.l0 (k + 1) y0 y1 y2 y3))
 | 0 => fun _ _ _ _ r h => by simp [ulpref03_Same.l0] at h
 | k + 1 => by
  have ih0 := ulpref03_Same.mono_l k
  ·intro y0 y1 y2 y3
   unfold ulpref03_Same.l0
   repeat' first
   | (with_reducible exact ih0 _ _ _ _)
   | (with_reducible exact LeO.refl _)
   | (with_reducible exact LeO.none _)
   | (with_reducible refine LeO.ite ?_ ?_)
   | (with_reducible refine LeO.bind ?_ (fun _ => ?_))
   | exact ih0 _ _ _ _
   | exact LeO.none _
   | refine LeO.ite ?_ ?_
   | refine LeO.bind ?_ (fun _ => ?_)
theorem ulpref03_Same.mono : ∀ a0 a1 k, LeO (ulpref03_Same.f k a0 a1) (ulpref03_Same.f (k + 1) a0 a1) := by
 intro a0 a1 k
 have ih0 := ulpref03_Same.mono_l k
 unfold ulpref03_Same.f
 repeat' first
   | (with_reducible exact ih0 _ _ _ _)
   | (with_reducible exact LeO.refl _)
   | (with_reducible exact LeO.none _)
   | (with_reducible refine LeO.ite ?_ ?_)
   | (with_reducible refine LeO.bind ?_ (fun _ => ?_))
   | exact ih0 _ _ _ _
   | exact LeO.none _
   | refine LeO.ite ?_ ?_
   | refine LeO.bind ?_ (fun _ => ?_)
set_option maxHeartbeats 8000000 in
set_option maxRecDepth 100000 in
theorem ulpref03_Same.calls (k : Nat) (A0 : Option Addr) (c0 : Nat) (l0 : List Int) (A1 : Option Addr) (c1 : Nat) (l1 : List Int) (r : Bool) (w : World) (hr0 : Kd.C (Kd.int .u64) w A0 l0.length l0) (hc0 : l0.length ≤ c0) (hr1 : Kd.C (Kd.int .u64) w A1 l1.length l1) (hc1 : l1.length ≤ c1) (h : ulpref03_Same.f k l0 l1 = some r) :
  Calls Try.prog 13 #[.slice A0 l0.length c0, .slice A1 l1.length c1] w fun e w' => e = .returned (.bool r) ∧ Drawn0 w w' := by
 have HR0 := Aside0.mk hr0
 have HC0 := Aside0.mk hc0
 clear hr0 hc0
 have HR1 := Aside0.mk hr1
 have HC1 := Aside0.mk hc1
 clear hr1 hc1
 have H : (if (l0.length : Int) = (l1.length : Int) then (ulpref03_Same.l0 k l0 l1 (l0.length : Int) 0) else (some false)) = some r := h
 clear h
 by_cases c3 : (l0.length : Int) = (l1.length : Int)
 ·rw [if_pos c3] at H
  have c3b0 : ((l0.length : Int) == (l1.length : Int)) = true := beq_iff_eq.mpr c3
  have c3b1 : ((l0.length : Int) != (l1.length : Int)) = false := bne_eq_false_iff_eq.mpr c3
  have c3b2 : (l0.length == l1.length) = true := by first | simpa using c3 | (simp at c3 ⊢; omega)
  clear c3
  have H' := Aside0.mk H
  clear H
  go_enter Try.func13, Try.ntmps13
  go_wp2
  repeat (go_quiet (fail); try go_wp2)
  go_loopg [13] k (fun kq v13 w' => ∃ (x13_1 : Int), v13 = .int .i64 x13_1 ∧ Aside0 (ulpref03_Same.l0 kq l0 l1 (l0.length : Int) x13_1 = some r) ∧ Aside0 (kq ≤ k) ∧ Drawn0 w w')
  case atStart => exact ⟨(0), (by first | rfl | (simp; done) | (simp [*]; done)), H', ⟨Nat.le_refl _⟩, by repeat (first | exact Drawn0.refl _ | apply Drawn0.step)⟩
  case round =>
   clear H'
   try clear c1
   try clear p2
   try clear c3
   try clear c3b0
   try clear c3b1
   try clear c3b2
   obtain ⟨x13_1, rfl, HA, HK1, ⟨m1, rfl⟩⟩ := hrel
   cases gk with
   | zero => exact absurd HA.out (by simp [ulpref03_Same.l0])
   | succ k1 =>
    have H := HA.out
    clear HA
    simp only [ulpref03_Same.l0] at H
    by_cases c4 : x13_1 < (l0.length : Int)
    ·rw [if_pos c4] at H
     have c4b0 : decide (x13_1 < (l0.length : Int)) = true := decide_eq_true c4
     clear c4
     replace H := dn H
     obtain ⟨c5, H⟩ := H
     have c5b0 : decide (0 ≤ x13_1) = true := decide_eq_true c5
     clear c5
     replace H := dn H
     obtain ⟨c6, H⟩ := H
     have c6b0 : decide (x13_1 < (l0.length : Int)) = true := decide_eq_true c6
     clear c6
     replace H := dn H
     obtain ⟨c7, H⟩ := H
     have c7b0 : decide (x13_1 < (l1.length : Int)) = true := decide_eq_true c7
     clear c7
     by_cases c8 : (rd l0 x13_1) = (rd l1 x13_1)
     ·rw [if_pos c8] at H
      have c8b0 : ((rd l0 x13_1) == (rd l1 x13_1)) = true := beq_iff_eq.mpr c8
      have c8b1 : ((rd l0 x13_1) != (rd l1 x13_1)) = false := bne_eq_false_iff_eq.mpr c8
      clear c8
      have H' := Aside0.mk H
      clear H
      have p233 : 0 ≤ (x13_1 : Int) := od
      have q233 : x13_1 < (l0.length : Int) := od
      obtain ⟨ad233, e233, hx233_0⟩ := Kd.at_int HR0.out x13_1 p233 q233
      cases e233
      replace p233 := eq_true p233
      replace q233 := eq_true q233
      have p234 : 0 ≤ (x13_1 : Int) := od
      have q234 : x13_1 < (l1.length : Int) := od
      obtain ⟨ad234, e234, hx234_0⟩ := Kd.at_int HR1.out x13_1 p234 q234
      cases e234
      replace p234 := eq_true p234
      replace q234 := eq_true q234
      go_wp2
      repeat (go_quiet (fail); try go_wp2)
      go_roundg k1
      case measure => have := HK1.out; omega
      case rel => exact ⟨(wrap64 (x13_1 + 1)), (by first | rfl | (simp; done) | (simp [*]; done)), H', ⟨by have := HK1.out; omega⟩, by repeat (first | exact Drawn0.refl _ | apply Drawn0.step)⟩
     ·rw [if_neg c8] at H
      have c8b0 : ((rd l0 x13_1) == (rd l1 x13_1)) = false := beq_eq_false_iff_ne.mpr c8
      have c8b1 : ((rd l0 x13_1) != (rd l1 x13_1)) = true := bne_iff_ne.mpr c8
      obtain rfl := Option.some.inj H
      have p233 : 0 ≤ (x13_1 : Int) := od
      have q233 : x13_1 < (l0.length : Int) := od
      obtain ⟨ad233, e233, hx233_0⟩ := Kd.at_int HR0.out x13_1 p233 q233
      cases e233
      replace p233 := eq_true p233
      replace q233 := eq_true q233
      have p234 : 0 ≤ (x13_1 : Int) := od
      have q234 : x13_1 < (l1.length : Int) := od
      obtain ⟨ad234, e234, hx234_0⟩ := Kd.at_int HR1.out x13_1 p234 q234
      cases e234
      replace p234 := eq_true p234
      replace q234 := eq_true q234
      go_wp2
      repeat (go_quiet (fail); try go_wp2)
      go_ret
      exact ⟨by first | rfl | (simp; done) | (simp [*]; done), by repeat (first | exact Drawn0.refl _ | apply Drawn0.step)⟩
    ·rw [if_neg c4] at H
     have c4b0 : decide (x13_1 < (l0.length : Int)) = false := decide_eq_false c4
     clear c4
     obtain rfl := Option.some.inj H
     go_wp2
     repeat (go_quiet (fail); try go_wp2)
     go_ret
     exact ⟨by first | rfl | (simp; done) | (simp [*]; done), by repeat (first | exact Drawn0.refl _ | apply Drawn0.step)⟩
 ·rw [if_neg c3] at H
  have c3b0 : ((l0.length : Int) == (l1.length : Int)) = false := beq_eq_false_iff_ne.mpr c3
  have c3b1 : ((l0.length : Int) != (l1.length : Int)) = true := bne_iff_ne.mpr c3
  have c3b2 : (l0.length == l1.length) = false := by first | simpa using c3 | (simp at c3 ⊢; omega)
  obtain rfl := Option.some.inj H
  go_enter Try.func13, Try.ntmps13
  go_wp2
  repeat (go_quiet (fail); try go_wp2)
  go_ret
  exact ⟨by first | rfl | (simp; done) | (simp [*]; done), by repeat (first | exact Drawn0.refl _ | apply Drawn0.step)⟩
def ulplaw03_lives.f (k : Nat)  : Option (Bool) := (nat_Add.f k (([18446744073709551615] : List Int)) (([1] : List Int))).bind fun bt411 => ((nat_Div.f k (([0, 1] : List Int)) (([3] : List Int))).bind fun bt421 => ((nat_Text.f k (([0, 1] : List Int))).bind fun bt431 => ((nat_Parse.f k (⟨#[48, 48, 55]⟩ : ByteArray)).bind fun bt433 => (if bt411.2 = 0 then ((ulpref03_Same.f k bt411.1 (([0, 1] : List Int))).bind fun t441 => (if t441 = true then (if bt421.2.2 = 0 then ((ulpref03_Same.f k bt421.1 (([6148914691236517205] : List Int))).bind fun t445 => (if t445 = true then ((ulpref03_Same.f k bt421.2.1 (([1] : List Int))).bind fun t449 => (if t449 = true then (if bt431.2 = 0 then (if bt431.1.toList = ([49, 56, 52, 52, 54, 55, 52, 52, 48, 55, 51, 55, 48, 57, 53, 53, 49, 54, 49, 54] : List UInt8) then (if bt433.2.1 = 32 then (some (bt433.2.2 == 1)) else (some false)) else (some false)) else (some false)) else (some false))) else (some false))) else (some false)) else (some false))) else (some false)))))
theorem ulplaw03_lives.mono : ∀ k, LeO (ulplaw03_lives.f k ) (ulplaw03_lives.f (k + 1) ) := by
 intro  k
 unfold ulplaw03_lives.f
 repeat' first
   | (with_reducible exact nat_Add.mono _ _ _)
   | (with_reducible exact nat_Div.mono _ _ _)
   | (with_reducible exact nat_Parse.mono _ _)
   | (with_reducible exact nat_Text.mono _ _)
   | (with_reducible exact ulpref03_Same.mono _ _ _)
   | (with_reducible exact LeO.refl _)
   | (with_reducible exact LeO.none _)
   | (with_reducible refine LeO.ite ?_ ?_)
   | (with_reducible refine LeO.bind ?_ (fun _ => ?_))
   | exact nat_Add.mono _ _ _
   | exact nat_Div.mono _ _ _
   | exact nat_Parse.mono _ _
   | exact nat_Text.mono _ _
   | exact ulpref03_Same.mono _ _ _
   | exact LeO.none _
   | refine LeO.ite ?_ ?_
   | refine LeO.bind ?_ (fun _ => ?_)
theorem ulplaw03_lives.true_ (k : Nat) (r : Bool) (h : ulplaw03_lives.f k = some r) : r = true := by
 have e : ulplaw03_lives.f 3000 = some true := by decide +kernel
 have a := at_rounds ulplaw03_lives.mono (Nat.le_max_left k 3000) h
 have b := at_rounds ulplaw03_lives.mono (Nat.le_max_right k 3000) e
 exact Option.some.inj (a.symm.trans b)
set_option maxHeartbeats 8000000 in
set_option maxRecDepth 100000 in
theorem ulplaw03_lives.calls (k : Nat)  (r : Bool) (w : World) (hr_ : Aside0 (r = true)) (h : ulplaw03_lives.f k  = some r) :
  Calls Try.prog 12 #[] w fun e w' => e = .returned (.bool r) ∧ Below w.heap.size w w' := by
 have HB := Aside0.mk (Below.refl w.heap.size w)
 have H : ((nat_Add.f k (([18446744073709551615] : List Int)) (([1] : List Int))).bind fun bt411 => ((nat_Div.f k (([0, 1] : List Int)) (([3] : List Int))).bind fun bt421 => ((nat_Text.f k (([0, 1] : List Int))).bind fun bt431 => ((nat_Parse.f k (⟨#[48, 48, 55]⟩ : ByteArray)).bind fun bt433 => (if bt411.2 = 0 then ((ulpref03_Same.f k bt411.1 (([0, 1] : List Int))).bind fun t441 => (if t441 = true then (if bt421.2.2 = 0 then ((ulpref03_Same.f k bt421.1 (([6148914691236517205] : List Int))).bind fun t445 => (if t445 = true then ((ulpref03_Same.f k bt421.2.1 (([1] : List Int))).bind fun t449 => (if t449 = true then (if bt431.2 = 0 then (if bt431.1.toList = ([49, 56, 52, 52, 54, 55, 52, 52, 48, 55, 51, 55, 48, 57, 53, 53, 49, 54, 49, 54] : List UInt8) then (if bt433.2.1 = 32 then (some (bt433.2.2 == 1)) else (some false)) else (some false)) else (some false)) else (some false))) else (some false))) else (some false)) else (some false))) else (some false)))))) = some r := h
 clear h
 obtain ⟨y405, hy405⟩ : ∃ y_ : List Int, y_ = (([18446744073709551615] : List Int)) := ⟨_, rfl⟩
 replace H : ((nat_Add.f k y405 (([1] : List Int))).bind fun bt411 => ((nat_Div.f k (([0, 1] : List Int)) (([3] : List Int))).bind fun bt421 => ((nat_Text.f k (([0, 1] : List Int))).bind fun bt431 => ((nat_Parse.f k (⟨#[48, 48, 55]⟩ : ByteArray)).bind fun bt433 => (if bt411.2 = 0 then ((ulpref03_Same.f k bt411.1 (([0, 1] : List Int))).bind fun t441 => (if t441 = true then (if bt421.2.2 = 0 then ((ulpref03_Same.f k bt421.1 (([6148914691236517205] : List Int))).bind fun t445 => (if t445 = true then ((ulpref03_Same.f k bt421.2.1 (([1] : List Int))).bind fun t449 => (if t449 = true then (if bt431.2 = 0 then (if bt431.1.toList = ([49, 56, 52, 52, 54, 55, 52, 52, 48, 55, 51, 55, 48, 57, 53, 53, 49, 54, 49, 54] : List UInt8) then (if bt433.2.1 = 32 then (some (bt433.2.2 == 1)) else (some false)) else (some false)) else (some false)) else (some false))) else (some false))) else (some false)) else (some false))) else (some false)))))) = some r := by first | (rw [hy405]; with_reducible exact H) | (have H2_ := (Option.bind_some _ _).symm.trans H; rw [hy405]; with_reducible exact H2_) | (have H2_ := (Option.bind_some _ _).symm.trans H; with_reducible exact H2_) | with_reducible exact H | (rw [hy405]; exact H) | exact H
 have Ny405 := Aside0.mk hy405
 clear hy405
 obtain ⟨y408, hy408⟩ : ∃ y_ : List Int, y_ = (([1] : List Int)) := ⟨_, rfl⟩
 replace H : ((nat_Add.f k y405 y408).bind fun bt411 => ((nat_Div.f k (([0, 1] : List Int)) (([3] : List Int))).bind fun bt421 => ((nat_Text.f k (([0, 1] : List Int))).bind fun bt431 => ((nat_Parse.f k (⟨#[48, 48, 55]⟩ : ByteArray)).bind fun bt433 => (if bt411.2 = 0 then ((ulpref03_Same.f k bt411.1 (([0, 1] : List Int))).bind fun t441 => (if t441 = true then (if bt421.2.2 = 0 then ((ulpref03_Same.f k bt421.1 (([6148914691236517205] : List Int))).bind fun t445 => (if t445 = true then ((ulpref03_Same.f k bt421.2.1 (([1] : List Int))).bind fun t449 => (if t449 = true then (if bt431.2 = 0 then (if bt431.1.toList = ([49, 56, 52, 52, 54, 55, 52, 52, 48, 55, 51, 55, 48, 57, 53, 53, 49, 54, 49, 54] : List UInt8) then (if bt433.2.1 = 32 then (some (bt433.2.2 == 1)) else (some false)) else (some false)) else (some false)) else (some false))) else (some false))) else (some false)) else (some false))) else (some false)))))) = some r := by first | (rw [hy408]; with_reducible exact H) | (have H2_ := (Option.bind_some _ _).symm.trans H; rw [hy408]; with_reducible exact H2_) | (have H2_ := (Option.bind_some _ _).symm.trans H; with_reducible exact H2_) | with_reducible exact H | (rw [hy408]; exact H) | exact H
 have Ny408 := Aside0.mk hy408
 clear hy408
 replace H := Option.bind_eq_some_iff.mp H
 obtain ⟨⟨t411, t412⟩, A10, H⟩ := H
 (try dsimp only at H)
 have A1 := Aside0.mk A10
 clear A10
 obtain ⟨y415, hy415⟩ : ∃ y_ : List Int, y_ = (([0, 1] : List Int)) := ⟨_, rfl⟩
 replace H : ((nat_Div.f k y415 (([3] : List Int))).bind fun bt421 => ((nat_Text.f k (([0, 1] : List Int))).bind fun bt431 => ((nat_Parse.f k (⟨#[48, 48, 55]⟩ : ByteArray)).bind fun bt433 => (if t412 = 0 then ((ulpref03_Same.f k t411 (([0, 1] : List Int))).bind fun t441 => (if t441 = true then (if bt421.2.2 = 0 then ((ulpref03_Same.f k bt421.1 (([6148914691236517205] : List Int))).bind fun t445 => (if t445 = true then ((ulpref03_Same.f k bt421.2.1 (([1] : List Int))).bind fun t449 => (if t449 = true then (if bt431.2 = 0 then (if bt431.1.toList = ([49, 56, 52, 52, 54, 55, 52, 52, 48, 55, 51, 55, 48, 57, 53, 53, 49, 54, 49, 54] : List UInt8) then (if bt433.2.1 = 32 then (some (bt433.2.2 == 1)) else (some false)) else (some false)) else (some false)) else (some false))) else (some false))) else (some false)) else (some false))) else (some false))))) = some r := by first | (rw [hy415]; with_reducible exact H) | (have H2_ := (Option.bind_some _ _).symm.trans H; rw [hy415]; with_reducible exact H2_) | (have H2_ := (Option.bind_some _ _).symm.trans H; with_reducible exact H2_) | with_reducible exact H | (rw [hy415]; exact H) | exact H
 have Ny415 := Aside0.mk hy415
 clear hy415
 obtain ⟨y418, hy418⟩ : ∃ y_ : List Int, y_ = (([3] : List Int)) := ⟨_, rfl⟩
 replace H : ((nat_Div.f k y415 y418).bind fun bt421 => ((nat_Text.f k (([0, 1] : List Int))).bind fun bt431 => ((nat_Parse.f k (⟨#[48, 48, 55]⟩ : ByteArray)).bind fun bt433 => (if t412 = 0 then ((ulpref03_Same.f k t411 (([0, 1] : List Int))).bind fun t441 => (if t441 = true then (if bt421.2.2 = 0 then ((ulpref03_Same.f k bt421.1 (([6148914691236517205] : List Int))).bind fun t445 => (if t445 = true then ((ulpref03_Same.f k bt421.2.1 (([1] : List Int))).bind fun t449 => (if t449 = true then (if bt431.2 = 0 then (if bt431.1.toList = ([49, 56, 52, 52, 54, 55, 52, 52, 48, 55, 51, 55, 48, 57, 53, 53, 49, 54, 49, 54] : List UInt8) then (if bt433.2.1 = 32 then (some (bt433.2.2 == 1)) else (some false)) else (some false)) else (some false)) else (some false))) else (some false))) else (some false)) else (some false))) else (some false))))) = some r := by first | (rw [hy418]; with_reducible exact H) | (have H2_ := (Option.bind_some _ _).symm.trans H; rw [hy418]; with_reducible exact H2_) | (have H2_ := (Option.bind_some _ _).symm.trans H; with_reducible exact H2_) | with_reducible exact H | (rw [hy418]; exact H) | exact H
 have Ny418 := Aside0.mk hy418
 clear hy418
 replace H := Option.bind_eq_some_iff.mp H
 obtain ⟨⟨t421, t422, t423⟩, A20, H⟩ := H
 (try dsimp only at H)
 have A2 := Aside0.mk A20
 clear A20
 obtain ⟨y428, hy428⟩ : ∃ y_ : List Int, y_ = (([0, 1] : List Int)) := ⟨_, rfl⟩
 replace H : ((nat_Text.f k y428).bind fun bt431 => ((nat_Parse.f k (⟨#[48, 48, 55]⟩ : ByteArray)).bind fun bt433 => (if t412 = 0 then ((ulpref03_Same.f k t411 (([0, 1] : List Int))).bind fun t441 => (if t441 = true then (if t423 = 0 then ((ulpref03_Same.f k t421 (([6148914691236517205] : List Int))).bind fun t445 => (if t445 = true then ((ulpref03_Same.f k t422 (([1] : List Int))).bind fun t449 => (if t449 = true then (if bt431.2 = 0 then (if bt431.1.toList = ([49, 56, 52, 52, 54, 55, 52, 52, 48, 55, 51, 55, 48, 57, 53, 53, 49, 54, 49, 54] : List UInt8) then (if bt433.2.1 = 32 then (some (bt433.2.2 == 1)) else (some false)) else (some false)) else (some false)) else (some false))) else (some false))) else (some false)) else (some false))) else (some false)))) = some r := by first | (rw [hy428]; with_reducible exact H) | (have H2_ := (Option.bind_some _ _).symm.trans H; rw [hy428]; with_reducible exact H2_) | (have H2_ := (Option.bind_some _ _).symm.trans H; with_reducible exact H2_) | with_reducible exact H | (rw [hy428]; exact H) | exact H
 have Ny428 := Aside0.mk hy428
 clear hy428
 replace H := Option.bind_eq_some_iff.mp H
 obtain ⟨⟨t431, t432⟩, A30, H⟩ := H
 (try dsimp only at H)
 have A3 := Aside0.mk A30
 clear A30
 replace H := Option.bind_eq_some_iff.mp H
 obtain ⟨⟨t433, t434, t435⟩, A40, H⟩ := H
 (try dsimp only at H)
 have A4 := Aside0.mk A40
 clear A40
 by_cases c5 : t412 = 0
 ·rw [if_pos c5] at H
  have c5b0 : (t412 == 0) = true := beq_iff_eq.mpr c5
  have c5b1 : (t412 != 0) = false := bne_eq_false_iff_eq.mpr c5
  clear c5
  obtain ⟨y438, hy438⟩ : ∃ y_ : List Int, y_ = (([0, 1] : List Int)) := ⟨_, rfl⟩
  replace H : ((ulpref03_Same.f k t411 y438).bind fun t441 => (if t441 = true then (if t423 = 0 then ((ulpref03_Same.f k t421 (([6148914691236517205] : List Int))).bind fun t445 => (if t445 = true then ((ulpref03_Same.f k t422 (([1] : List Int))).bind fun t449 => (if t449 = true then (if t432 = 0 then (if t431.toList = ([49, 56, 52, 52, 54, 55, 52, 52, 48, 55, 51, 55, 48, 57, 53, 53, 49, 54, 49, 54] : List UInt8) then (if t434 = 32 then (some (t435 == 1)) else (some false)) else (some false)) else (some false)) else (some false))) else (some false))) else (some false)) else (some false))) = some r := by first | (rw [hy438]; with_reducible exact H) | (have H2_ := (Option.bind_some _ _).symm.trans H; rw [hy438]; with_reducible exact H2_) | (have H2_ := (Option.bind_some _ _).symm.trans H; with_reducible exact H2_) | with_reducible exact H | (rw [hy438]; exact H) | exact H
  have Ny438 := Aside0.mk hy438
  clear hy438
  replace H := Option.bind_eq_some_iff.mp H
  obtain ⟨t441, A60, H⟩ := H
  (try dsimp only at H)
  have A6 := Aside0.mk A60
  clear A60
  by_cases c7 : t441 = true
  ·subst c7
   rw [if_pos rfl] at H
   by_cases c8 : t423 = 0
   ·rw [if_pos c8] at H
    have c8b0 : (t423 == 0) = true := beq_iff_eq.mpr c8
    have c8b1 : (t423 != 0) = false := bne_eq_false_iff_eq.mpr c8
    clear c8
    obtain ⟨y442, hy442⟩ : ∃ y_ : List Int, y_ = (([6148914691236517205] : List Int)) := ⟨_, rfl⟩
    replace H : ((ulpref03_Same.f k t421 y442).bind fun t445 => (if t445 = true then ((ulpref03_Same.f k t422 (([1] : List Int))).bind fun t449 => (if t449 = true then (if t432 = 0 then (if t431.toList = ([49, 56, 52, 52, 54, 55, 52, 52, 48, 55, 51, 55, 48, 57, 53, 53, 49, 54, 49, 54] : List UInt8) then (if t434 = 32 then (some (t435 == 1)) else (some false)) else (some false)) else (some false)) else (some false))) else (some false))) = some r := by first | (rw [hy442]; with_reducible exact H) | (have H2_ := (Option.bind_some _ _).symm.trans H; rw [hy442]; with_reducible exact H2_) | (have H2_ := (Option.bind_some _ _).symm.trans H; with_reducible exact H2_) | with_reducible exact H | (rw [hy442]; exact H) | exact H
    have Ny442 := Aside0.mk hy442
    clear hy442
    replace H := Option.bind_eq_some_iff.mp H
    obtain ⟨t445, A90, H⟩ := H
    (try dsimp only at H)
    have A9 := Aside0.mk A90
    clear A90
    by_cases c10 : t445 = true
    ·subst c10
     rw [if_pos rfl] at H
     obtain ⟨y446, hy446⟩ : ∃ y_ : List Int, y_ = (([1] : List Int)) := ⟨_, rfl⟩
     replace H : ((ulpref03_Same.f k t422 y446).bind fun t449 => (if t449 = true then (if t432 = 0 then (if t431.toList = ([49, 56, 52, 52, 54, 55, 52, 52, 48, 55, 51, 55, 48, 57, 53, 53, 49, 54, 49, 54] : List UInt8) then (if t434 = 32 then (some (t435 == 1)) else (some false)) else (some false)) else (some false)) else (some false))) = some r := by first | (rw [hy446]; with_reducible exact H) | (have H2_ := (Option.bind_some _ _).symm.trans H; rw [hy446]; with_reducible exact H2_) | (have H2_ := (Option.bind_some _ _).symm.trans H; with_reducible exact H2_) | with_reducible exact H | (rw [hy446]; exact H) | exact H
     have Ny446 := Aside0.mk hy446
     clear hy446
     replace H := Option.bind_eq_some_iff.mp H
     obtain ⟨t449, A110, H⟩ := H
     (try dsimp only at H)
     have A11 := Aside0.mk A110
     clear A110
     by_cases c12 : t449 = true
     ·subst c12
      rw [if_pos rfl] at H
      by_cases c13 : t432 = 0
      ·rw [if_pos c13] at H
       have c13b0 : (t432 == 0) = true := beq_iff_eq.mpr c13
       have c13b1 : (t432 != 0) = false := bne_eq_false_iff_eq.mpr c13
       clear c13
       by_cases c14 : t431.toList = ([49, 56, 52, 52, 54, 55, 52, 52, 48, 55, 51, 55, 48, 57, 53, 53, 49, 54, 49, 54] : List UInt8)
       ·rw [if_pos c14] at H
        have c14b0 : (t431.toList == ([49, 56, 52, 52, 54, 55, 52, 52, 48, 55, 51, 55, 48, 57, 53, 53, 49, 54, 49, 54] : List UInt8)) = true := beq_iff_eq.mpr c14
        have c14b1 : (t431.toList != ([49, 56, 52, 52, 54, 55, 52, 52, 48, 55, 51, 55, 48, 57, 53, 53, 49, 54, 49, 54] : List UInt8)) = false := bne_eq_false_iff_eq.mpr c14
        clear c14
        by_cases c15 : t434 = 32
        ·rw [if_pos c15] at H
         have c15b0 : (t434 == 32) = true := beq_iff_eq.mpr c15
         have c15b1 : (t434 != 32) = false := bne_eq_false_iff_eq.mpr c15
         clear c15
         clear hr_
         obtain rfl := Option.some.inj H
         go_enter Try.func12, Try.ntmps12
         go_wp2_with (first | ((with_reducible refine gate_dst (N := 12) rfl ?_); (try (refine gate_guard (by rfl) ?_; dsimp only)); refine Kd.R_lit (Kd.int .u64) _ 47 ?hg (N := 12) ?hd (xs := ([18446744073709551615] : List Int)) (inner := [.int .u64 18446744073709551615]) (ok := fun _ => True) (okp := fun _ => True) ?hr ?hp (fun _ hk => hk) trivial (Below.refl _ _) (Nat.le_refl _) (by simp) ?_; (case hd => rfl); (case hg => rfl); (case hr => first | (go_simp; done) | (go_simp; rfl)); (case hp => exact (Reps.one (show Kd.M (Kd.int .u64) _ _ _ 18446744073709551615 [.int .u64 18446744073709551615] from rfl) (Reps.none _ _))); intro v406 w16 ho17 hb hg_ hnew_; clear hg_ hnew_; (first | rw [← Ny405.out] at ho17 | (simp only [Int.reduceToNat] at ho17; rw [← Ny405.out] at ho17)); have n0_ := Aside0.mk (Kd.R_lower ho17 (below_size bq)); have n1_ := Aside0.mk (below_step bq hb); clear HB; have HO407 := n0_; have HB := n1_; clear n0_ n1_; clear hb ho17) | ((with_reducible refine gate_dst (N := 13) rfl ?_); (try (refine gate_guard (by rfl) ?_; dsimp only)); refine Kd.R_lit (Kd.int .u64) _ 47 ?hg (N := 13) ?hd (xs := ([1] : List Int)) (inner := [.int .u64 1]) (ok := fun _ => True) (okp := fun _ => True) ?hr ?hp (fun _ hk => hk) trivial (Below.refl _ _) (Nat.le_refl _) (by simp) ?_; (case hd => rfl); (case hg => rfl); (case hr => first | (go_simp; done) | (go_simp; rfl)); (case hp => exact (Reps.one (show Kd.M (Kd.int .u64) _ _ _ 1 [.int .u64 1] from rfl) (Reps.none _ _))); intro v409 w18 ho19 hb hg_ hnew_; clear hg_ hnew_; (first | rw [← Ny408.out] at ho19 | (simp only [Int.reduceToNat] at ho19; rw [← Ny408.out] at ho19)); have n0_ := Aside0.mk (Kd.R_elder' (ru HO407.out) (Kd.R_base ho19) hb); have n1_ := Aside0.mk (Kd.R_lower (Kd.R_new' ho19 (Kd.R_lt (ru HO407.out))) (below_size bq)); have n2_ := Aside0.mk (below_step bq hb); clear HO407; clear HB; have HO407 := n0_; have HO410 := n1_; have HB := n2_; clear n0_ n1_ n2_; clear hb ho19; obtain ⟨Ao20, co20, eo20⟩ := Kd.R_slice HO407.out; subst eo20; obtain ⟨Ao21, co21, eo21⟩ := Kd.R_slice HO410.out; subst eo21) | ((with_reducible refine gate_callee (f := 24) rfl ?_); refine goesL_ (some 14) rfl rfl Try.func24 (by kernel_rfl) rfl #[.slice Ao20 y405.length co20, .slice Ao21 y408.length co21] rfl ga ?_; (with_reducible refine (nat_Add.calls k _ _ y405 _ _ y408 t411 t412 _ ?side1 ?side2 ?side3 ?side4 A1.out).mono ?_); (case side1 => repeat (first | exact (Kd.R_reads' HO407.out).2.2 | (with_reducible refine Kd.C_alloc ?_ _) | (with_reducible refine Kd.C_drewN ?_ _) | (with_reducible refine Kd.C_drew ?_))); (case side2 => exact (Kd.R_reads' HO407.out).2.1); (case side3 => repeat (first | exact (Kd.R_reads' HO410.out).2.2 | (with_reducible refine Kd.C_alloc ?_ _) | (with_reducible refine Kd.C_drewN ?_ _) | (with_reducible refine Kd.C_drew ?_))); (case side4 => exact (Kd.R_reads' HO410.out).2.1); rintro e w22 ⟨v413, rfl, ho0, hb⟩; refine ⟨_, rfl, ?_⟩; have n0_ := Aside0.mk (Kd.R_elder' (ru HO407.out) (Kd.R_base ho0) hb); have n1_ := Aside0.mk (Kd.R_elder' (ru HO410.out) (Kd.R_base ho0) hb); have n2_ := Aside0.mk (Kd.R_lower (Kd.R_new' (Kd.R_new' ho0 (Kd.R_lt (ru HO407.out))) (Kd.R_lt (ru HO410.out))) (below_size bq)); have n3_ := Aside0.mk (below_step bq hb); clear HO407; clear HO410; clear HB; have HO407 := n0_; have HO410 := n1_; have HO414 := n2_; have HB := n3_; clear n0_ n1_ n2_ n3_; (try clear hb); (try clear hb2); (try clear hk); (try clear hi); (try clear ho0)) | ((with_reducible refine gate_dst (N := 18) rfl ?_); (try (refine gate_guard (by rfl) ?_; dsimp only)); refine Kd.R_lit (Kd.int .u64) _ 47 ?hg (N := 18) ?hd (xs := ([0, 1] : List Int)) (inner := [.int .u64 0, .int .u64 1]) (ok := fun _ => True) (okp := fun _ => True) ?hr ?hp (fun _ hk => hk) trivial (Below.refl _ _) (Nat.le_refl _) (by simp) ?_; (case hd => rfl); (case hg => rfl); (case hr => first | (go_simp; done) | (go_simp; rfl)); (case hp => exact (Reps.one (show Kd.M (Kd.int .u64) _ _ _ 0 [.int .u64 0] from rfl) (Reps.one (show Kd.M (Kd.int .u64) _ _ _ 1 [.int .u64 1] from rfl) (Reps.none _ _)))); intro v416 w23 ho24 hb hg_ hnew_; clear hg_ hnew_; (first | rw [← Ny415.out] at ho24 | (simp only [Int.reduceToNat] at ho24; rw [← Ny415.out] at ho24)); have n0_ := Aside0.mk (Kd.R_elder' (ru HO407.out) (Kd.R_base ho24) hb); have n1_ := Aside0.mk (Kd.R_elder' (ru HO410.out) (Kd.R_base ho24) hb); have n2_ := Aside0.mk (Kd.R_elder' (ru HO414.out) (Kd.R_base ho24) hb); have n3_ := Aside0.mk (Kd.R_lower (Kd.R_new' (Kd.R_new' (Kd.R_new' ho24 (Kd.R_lt (ru HO407.out))) (Kd.R_lt (ru HO410.out))) (Kd.R_lt (ru HO414.out))) (below_size bq)); have n4_ := Aside0.mk (below_step bq hb); clear HO407; clear HO410; clear HO414; clear HB; have HO407 := n0_; have HO410 := n1_; have HO414 := n2_; have HO417 := n3_; have HB := n4_; clear n0_ n1_ n2_ n3_ n4_; clear hb ho24) | ((with_reducible refine gate_dst (N := 19) rfl ?_); (try (refine gate_guard (by rfl) ?_; dsimp only)); refine Kd.R_lit (Kd.int .u64) _ 47 ?hg (N := 19) ?hd (xs := ([3] : List Int)) (inner := [.int .u64 3]) (ok := fun _ => True) (okp := fun _ => True) ?hr ?hp (fun _ hk => hk) trivial (Below.refl _ _) (Nat.le_refl _) (by simp) ?_; (case hd => rfl); (case hg => rfl); (case hr => first | (go_simp; done) | (go_simp; rfl)); (case hp => exact (Reps.one (show Kd.M (Kd.int .u64) _ _ _ 3 [.int .u64 3] from rfl) (Reps.none _ _))); intro v419 w25 ho26 hb hg_ hnew_; clear hg_ hnew_; (first | rw [← Ny418.out] at ho26 | (simp only [Int.reduceToNat] at ho26; rw [← Ny418.out] at ho26)); have n0_ := Aside0.mk (Kd.R_elder' (ru HO407.out) (Kd.R_base ho26) hb); have n1_ := Aside0.mk (Kd.R_elder' (ru HO410.out) (Kd.R_base ho26) hb); have n2_ := Aside0.mk (Kd.R_elder' (ru HO414.out) (Kd.R_base ho26) hb); have n3_ := Aside0.mk (Kd.R_elder' (ru HO417.out) (Kd.R_base ho26) hb); have n4_ := Aside0.mk (Kd.R_lower (Kd.R_new' (Kd.R_new' (Kd.R_new' (Kd.R_new' ho26 (Kd.R_lt (ru HO407.out))) (Kd.R_lt (ru HO410.out))) (Kd.R_lt (ru HO414.out))) (Kd.R_lt (ru HO417.out))) (below_size bq)); have n5_ := Aside0.mk (below_step bq hb); clear HO407; clear HO410; clear HO414; clear HO417; clear HB; have HO407 := n0_; have HO410 := n1_; have HO414 := n2_; have HO417 := n3_; have HO420 := n4_; have HB := n5_; clear n0_ n1_ n2_ n3_ n4_ n5_; clear hb ho26; obtain ⟨Ao27, co27, eo27⟩ := Kd.R_slice HO417.out; subst eo27; obtain ⟨Ao28, co28, eo28⟩ := Kd.R_slice HO420.out; subst eo28) | ((with_reducible refine gate_callee (f := 18) rfl ?_); refine goesL_ (some 20) rfl rfl Try.func18 (by kernel_rfl) rfl #[.slice Ao27 y415.length co27, .slice Ao28 y418.length co28] rfl ga ?_; (with_reducible refine (nat_Div.calls k _ _ y415 _ _ y418 t421 t422 t423 _ ?side1 ?side2 ?side3 ?side4 A2.out).mono ?_); (case side1 => repeat (first | exact (Kd.R_reads' HO417.out).2.2 | (with_reducible refine Kd.C_alloc ?_ _) | (with_reducible refine Kd.C_drewN ?_ _) | (with_reducible refine Kd.C_drew ?_))); (case side2 => exact (Kd.R_reads' HO417.out).2.1); (case side3 => repeat (first | exact (Kd.R_reads' HO420.out).2.2 | (with_reducible refine Kd.C_alloc ?_ _) | (with_reducible refine Kd.C_drewN ?_ _) | (with_reducible refine Kd.C_drew ?_))); (case side4 => exact (Kd.R_reads' HO420.out).2.1); rintro e w29 ⟨v424, v426, rfl, ho0, ho1, hb⟩; refine ⟨_, rfl, ?_⟩; have n0_ := Aside0.mk (Kd.R_mono (Kd.R_told (Kd.R_told (Kd.R_old (ru HO407.out) hb) (Kd.R_base ho0)) (Kd.R_base ho1)) (fun _ h_ => h_.1)); have n1_ := Aside0.mk (Kd.R_mono (Kd.R_told (Kd.R_told (Kd.R_old (ru HO410.out) hb) (Kd.R_base ho0)) (Kd.R_base ho1)) (fun _ h_ => h_.1)); have n2_ := Aside0.mk (Kd.R_mono (Kd.R_told (Kd.R_told (Kd.R_old (ru HO414.out) hb) (Kd.R_base ho0)) (Kd.R_base ho1)) (fun _ h_ => h_.1)); have n3_ := Aside0.mk (Kd.R_mono (Kd.R_told (Kd.R_told (Kd.R_old (ru HO417.out) hb) (Kd.R_base ho0)) (Kd.R_base ho1)) (fun _ h_ => h_.1)); have n4_ := Aside0.mk (Kd.R_mono (Kd.R_told (Kd.R_told (Kd.R_old (ru HO420.out) hb) (Kd.R_base ho0)) (Kd.R_base ho1)) (fun _ h_ => h_.1)); have n5_ := Aside0.mk (Kd.R_lower (Kd.R_new' (Kd.R_new' (Kd.R_new' (Kd.R_new' (Kd.R_new' ho0 (Kd.R_lt (ru HO407.out))) (Kd.R_lt (ru HO410.out))) (Kd.R_lt (ru HO414.out))) (Kd.R_lt (ru HO417.out))) (Kd.R_lt (ru HO420.out))) (below_size bq)); have n6_ := Aside0.mk (Kd.R_lower (Kd.R_new' (Kd.R_new' (Kd.R_new' (Kd.R_new' (Kd.R_new' ho1 (Kd.R_lt (ru HO407.out))) (Kd.R_lt (ru HO410.out))) (Kd.R_lt (ru HO414.out))) (Kd.R_lt (ru HO417.out))) (Kd.R_lt (ru HO420.out))) (below_size bq)); have n7_ := Aside0.mk (below_step bq hb); clear HO407; clear HO410; clear HO414; clear HO417; clear HO420; clear HB; have HO407 := n0_; have HO410 := n1_; have HO414 := n2_; have HO417 := n3_; have HO420 := n4_; have HO425 := n5_; have HO427 := n6_; have HB := n7_; clear n0_ n1_ n2_ n3_ n4_ n5_ n6_ n7_; (try clear hb); (try clear hb2); (try clear hk); (try clear hi); (try clear ho0); (try clear ho1)) | ((with_reducible refine gate_dst (N := 25) rfl ?_); (try (refine gate_guard (by rfl) ?_; dsimp only)); refine Kd.R_lit (Kd.int .u64) _ 47 ?hg (N := 25) ?hd (xs := ([0, 1] : List Int)) (inner := [.int .u64 0, .int .u64 1]) (ok := fun _ => True) (okp := fun _ => True) ?hr ?hp (fun _ hk => hk) trivial (Below.refl _ _) (Nat.le_refl _) (by simp) ?_; (case hd => rfl); (case hg => rfl); (case hr => first | (go_simp; done) | (go_simp; rfl)); (case hp => exact (Reps.one (show Kd.M (Kd.int .u64) _ _ _ 0 [.int .u64 0] from rfl) (Reps.one (show Kd.M (Kd.int .u64) _ _ _ 1 [.int .u64 1] from rfl) (Reps.none _ _)))); intro v429 w30 ho31 hb hg_ hnew_; clear hg_ hnew_; (first | rw [← Ny428.out] at ho31 | (simp only [Int.reduceToNat] at ho31; rw [← Ny428.out] at ho31)); have n0_ := Aside0.mk (Kd.R_elder' (ru HO407.out) (Kd.R_base ho31) hb); have n1_ := Aside0.mk (Kd.R_elder' (ru HO410.out) (Kd.R_base ho31) hb); have n2_ := Aside0.mk (Kd.R_elder' (ru HO414.out) (Kd.R_base ho31) hb); have n3_ := Aside0.mk (Kd.R_elder' (ru HO417.out) (Kd.R_base ho31) hb); have n4_ := Aside0.mk (Kd.R_elder' (ru HO420.out) (Kd.R_base ho31) hb); have n5_ := Aside0.mk (Kd.R_elder' (ru HO425.out) (Kd.R_base ho31) hb); have n6_ := Aside0.mk (Kd.R_elder' (ru HO427.out) (Kd.R_base ho31) hb); have n7_ := Aside0.mk (Kd.R_lower (Kd.R_new' (Kd.R_new' (Kd.R_new' (Kd.R_new' (Kd.R_new' (Kd.R_new' (Kd.R_new' ho31 (Kd.R_lt (ru HO407.out))) (Kd.R_lt (ru HO410.out))) (Kd.R_lt (ru HO414.out))) (Kd.R_lt (ru HO417.out))) (Kd.R_lt (ru HO420.out))) (Kd.R_lt (ru HO425.out))) (Kd.R_lt (ru HO427.out))) (below_size bq)); have n8_ := Aside0.mk (below_step bq hb); clear HO407; clear HO410; clear HO414; clear HO417; clear HO420; clear HO425; clear HO427; clear HB; have HO407 := n0_; have HO410 := n1_; have HO414 := n2_; have HO417 := n3_; have HO420 := n4_; have HO425 := n5_; have HO427 := n6_; have HO430 := n7_; have HB := n8_; clear n0_ n1_ n2_ n3_ n4_ n5_ n6_ n7_ n8_; clear hb ho31; obtain ⟨Ao32, co32, eo32⟩ := Kd.R_slice HO430.out; subst eo32) | ((with_reducible refine gate_callee (f := 9) rfl ?_); refine goesL_ (some 26) rfl rfl Try.func9 (by kernel_rfl) rfl #[.slice Ao32 y428.length co32] rfl ga ?_; (with_reducible refine (nat_Text.calls k _ _ y428 t431 t432 _ ?side1 ?side2 A3.out).mono ?_); (case side1 => repeat (first | exact (Kd.R_reads' HO430.out).2.2 | (with_reducible refine Kd.C_alloc ?_ _) | (with_reducible refine Kd.C_drewN ?_ _) | (with_reducible refine Kd.C_drew ?_))); (case side2 => exact (Kd.R_reads' HO430.out).2.1); rintro e w33 ⟨rfl, hb⟩; refine ⟨_, rfl, ?_⟩; have n0_ := Aside0.mk (Kd.R_below (ru HO407.out) hb); have n1_ := Aside0.mk (Kd.R_below (ru HO410.out) hb); have n2_ := Aside0.mk (Kd.R_below (ru HO414.out) hb); have n3_ := Aside0.mk (Kd.R_below (ru HO417.out) hb); have n4_ := Aside0.mk (Kd.R_below (ru HO420.out) hb); have n5_ := Aside0.mk (Kd.R_below (ru HO425.out) hb); have n6_ := Aside0.mk (Kd.R_below (ru HO427.out) hb); have n7_ := Aside0.mk (Kd.R_below (ru HO430.out) hb); have n8_ := Aside0.mk (below_step bq hb); clear HO407; clear HO410; clear HO414; clear HO417; clear HO420; clear HO425; clear HO427; clear HO430; clear HB; have HO407 := n0_; have HO410 := n1_; have HO414 := n2_; have HO417 := n3_; have HO420 := n4_; have HO425 := n5_; have HO427 := n6_; have HO430 := n7_; have HB := n8_; clear n0_ n1_ n2_ n3_ n4_ n5_ n6_ n7_ n8_; (try clear hb); (try clear hb2); (try clear hk); (try clear hi)) | ((with_reducible refine gate_callee (f := 10) rfl ?_); refine goesL_ (some 30) rfl rfl Try.func10 (by kernel_rfl) rfl #[.string (⟨#[48, 48, 55]⟩ : ByteArray)] rfl ga ?_; (with_reducible refine (nat_Parse.calls k (⟨#[48, 48, 55]⟩ : ByteArray) t433 t434 t435 _ A4.out).mono ?_); rintro e w34 ⟨v436, rfl, ho0, hb⟩; refine ⟨_, rfl, ?_⟩; have n0_ := Aside0.mk (Kd.R_elder' (ru HO407.out) (Kd.R_base ho0) hb); have n1_ := Aside0.mk (Kd.R_elder' (ru HO410.out) (Kd.R_base ho0) hb); have n2_ := Aside0.mk (Kd.R_elder' (ru HO414.out) (Kd.R_base ho0) hb); have n3_ := Aside0.mk (Kd.R_elder' (ru HO417.out) (Kd.R_base ho0) hb); have n4_ := Aside0.mk (Kd.R_elder' (ru HO420.out) (Kd.R_base ho0) hb); have n5_ := Aside0.mk (Kd.R_elder' (ru HO425.out) (Kd.R_base ho0) hb); have n6_ := Aside0.mk (Kd.R_elder' (ru HO427.out) (Kd.R_base ho0) hb); have n7_ := Aside0.mk (Kd.R_elder' (ru HO430.out) (Kd.R_base ho0) hb); have n8_ := Aside0.mk (Kd.R_lower (Kd.R_new' (Kd.R_new' (Kd.R_new' (Kd.R_new' (Kd.R_new' (Kd.R_new' (Kd.R_new' (Kd.R_new' ho0 (Kd.R_lt (ru HO407.out))) (Kd.R_lt (ru HO410.out))) (Kd.R_lt (ru HO414.out))) (Kd.R_lt (ru HO417.out))) (Kd.R_lt (ru HO420.out))) (Kd.R_lt (ru HO425.out))) (Kd.R_lt (ru HO427.out))) (Kd.R_lt (ru HO430.out))) (below_size bq)); have n9_ := Aside0.mk (below_step bq hb); clear HO407; clear HO410; clear HO414; clear HO417; clear HO420; clear HO425; clear HO427; clear HO430; clear HB; have HO407 := n0_; have HO410 := n1_; have HO414 := n2_; have HO417 := n3_; have HO420 := n4_; have HO425 := n5_; have HO427 := n6_; have HO430 := n7_; have HO437 := n8_; have HB := n9_; clear n0_ n1_ n2_ n3_ n4_ n5_ n6_ n7_ n8_ n9_; (try clear hb); (try clear hb2); (try clear hk); (try clear hi); (try clear ho0)) | ((with_reducible refine gate_dst (N := 38) rfl ?_); (try (refine gate_guard (by rfl) ?_; dsimp only)); refine Kd.R_lit (Kd.int .u64) _ 47 ?hg (N := 38) ?hd (xs := ([0, 1] : List Int)) (inner := [.int .u64 0, .int .u64 1]) (ok := fun _ => True) (okp := fun _ => True) ?hr ?hp (fun _ hk => hk) trivial (Below.refl _ _) (Nat.le_refl _) (by simp) ?_; (case hd => rfl); (case hg => rfl); (case hr => first | (go_simp; done) | (go_simp; rfl)); (case hp => exact (Reps.one (show Kd.M (Kd.int .u64) _ _ _ 0 [.int .u64 0] from rfl) (Reps.one (show Kd.M (Kd.int .u64) _ _ _ 1 [.int .u64 1] from rfl) (Reps.none _ _)))); intro v439 w35 ho36 hb hg_ hnew_; clear hg_ hnew_; (first | rw [← Ny438.out] at ho36 | (simp only [Int.reduceToNat] at ho36; rw [← Ny438.out] at ho36)); have n0_ := Aside0.mk (Kd.R_elder' (ru HO407.out) (Kd.R_base ho36) hb); have n1_ := Aside0.mk (Kd.R_elder' (ru HO410.out) (Kd.R_base ho36) hb); have n2_ := Aside0.mk (Kd.R_elder' (ru HO414.out) (Kd.R_base ho36) hb); have n3_ := Aside0.mk (Kd.R_elder' (ru HO417.out) (Kd.R_base ho36) hb); have n4_ := Aside0.mk (Kd.R_elder' (ru HO420.out) (Kd.R_base ho36) hb); have n5_ := Aside0.mk (Kd.R_elder' (ru HO425.out) (Kd.R_base ho36) hb); have n6_ := Aside0.mk (Kd.R_elder' (ru HO427.out) (Kd.R_base ho36) hb); have n7_ := Aside0.mk (Kd.R_elder' (ru HO430.out) (Kd.R_base ho36) hb); have n8_ := Aside0.mk (Kd.R_elder' (ru HO437.out) (Kd.R_base ho36) hb); have n9_ := Aside0.mk (Kd.R_lower (Kd.R_new' (Kd.R_new' (Kd.R_new' (Kd.R_new' (Kd.R_new' (Kd.R_new' (Kd.R_new' (Kd.R_new' (Kd.R_new' ho36 (Kd.R_lt (ru HO407.out))) (Kd.R_lt (ru HO410.out))) (Kd.R_lt (ru HO414.out))) (Kd.R_lt (ru HO417.out))) (Kd.R_lt (ru HO420.out))) (Kd.R_lt (ru HO425.out))) (Kd.R_lt (ru HO427.out))) (Kd.R_lt (ru HO430.out))) (Kd.R_lt (ru HO437.out))) (below_size bq)); have n10_ := Aside0.mk (below_step bq hb); clear HO407; clear HO410; clear HO414; clear HO417; clear HO420; clear HO425; clear HO427; clear HO430; clear HO437; clear HB; have HO407 := n0_; have HO410 := n1_; have HO414 := n2_; have HO417 := n3_; have HO420 := n4_; have HO425 := n5_; have HO427 := n6_; have HO430 := n7_; have HO437 := n8_; have HO440 := n9_; have HB := n10_; clear n0_ n1_ n2_ n3_ n4_ n5_ n6_ n7_ n8_ n9_ n10_; clear hb ho36; obtain ⟨Ao37, co37, eo37⟩ := Kd.R_slice HO414.out; subst eo37; obtain ⟨Ao38, co38, eo38⟩ := Kd.R_slice HO440.out; subst eo38) | (go_at_call 13; (with_reducible refine (ulpref03_Same.calls k _ _ t411 _ _ y438 true _ ?side1 ?side2 ?side3 ?side4 A6.out).mono ?_); (case side1 => repeat (first | exact (Kd.R_reads' HO414.out).2.2 | (with_reducible refine Kd.C_alloc ?_ _) | (with_reducible refine Kd.C_drewN ?_ _) | (with_reducible refine Kd.C_drew ?_))); (case side2 => exact (Kd.R_reads' HO414.out).2.1); (case side3 => repeat (first | exact (Kd.R_reads' HO440.out).2.2 | (with_reducible refine Kd.C_alloc ?_ _) | (with_reducible refine Kd.C_drewN ?_ _) | (with_reducible refine Kd.C_drew ?_))); (case side4 => exact (Kd.R_reads' HO440.out).2.1); rintro e w' ⟨rfl, ⟨nd, rfl⟩⟩) | ((with_reducible refine gate_dst (N := 47) rfl ?_); (try (refine gate_guard (by rfl) ?_; dsimp only)); refine Kd.R_lit (Kd.int .u64) _ 47 ?hg (N := 47) ?hd (xs := ([6148914691236517205] : List Int)) (inner := [.int .u64 6148914691236517205]) (ok := fun _ => True) (okp := fun _ => True) ?hr ?hp (fun _ hk => hk) trivial (Below.refl _ _) (Nat.le_refl _) (by simp) ?_; (case hd => rfl); (case hg => rfl); (case hr => first | (go_simp; done) | (go_simp; rfl)); (case hp => exact (Reps.one (show Kd.M (Kd.int .u64) _ _ _ 6148914691236517205 [.int .u64 6148914691236517205] from rfl) (Reps.none _ _))); intro v443 w39 ho40 hb hg_ hnew_; clear hg_ hnew_; (first | rw [← Ny442.out] at ho40 | (simp only [Int.reduceToNat] at ho40; rw [← Ny442.out] at ho40)); have n0_ := Aside0.mk (Kd.R_elder' (ru HO407.out) (Kd.R_base ho40) hb); have n1_ := Aside0.mk (Kd.R_elder' (ru HO410.out) (Kd.R_base ho40) hb); have n2_ := Aside0.mk (Kd.R_elder' (ru HO414.out) (Kd.R_base ho40) hb); have n3_ := Aside0.mk (Kd.R_elder' (ru HO417.out) (Kd.R_base ho40) hb); have n4_ := Aside0.mk (Kd.R_elder' (ru HO420.out) (Kd.R_base ho40) hb); have n5_ := Aside0.mk (Kd.R_elder' (ru HO425.out) (Kd.R_base ho40) hb); have n6_ := Aside0.mk (Kd.R_elder' (ru HO427.out) (Kd.R_base ho40) hb); have n7_ := Aside0.mk (Kd.R_elder' (ru HO430.out) (Kd.R_base ho40) hb); have n8_ := Aside0.mk (Kd.R_elder' (ru HO437.out) (Kd.R_base ho40) hb); have n9_ := Aside0.mk (Kd.R_elder' (ru HO440.out) (Kd.R_base ho40) hb); have n10_ := Aside0.mk (Kd.R_lower (Kd.R_new' (Kd.R_new' (Kd.R_new' (Kd.R_new' (Kd.R_new' (Kd.R_new' (Kd.R_new' (Kd.R_new' (Kd.R_new' (Kd.R_new' ho40 (Kd.R_lt (ru HO407.out))) (Kd.R_lt (ru HO410.out))) (Kd.R_lt (ru HO414.out))) (Kd.R_lt (ru HO417.out))) (Kd.R_lt (ru HO420.out))) (Kd.R_lt (ru HO425.out))) (Kd.R_lt (ru HO427.out))) (Kd.R_lt (ru HO430.out))) (Kd.R_lt (ru HO437.out))) (Kd.R_lt (ru HO440.out))) (below_size bq)); have n11_ := Aside0.mk (below_step bq hb); clear HO407; clear HO410; clear HO414; clear HO417; clear HO420; clear HO425; clear HO427; clear HO430; clear HO437; clear HO440; clear HB; have HO407 := n0_; have HO410 := n1_; have HO414 := n2_; have HO417 := n3_; have HO420 := n4_; have HO425 := n5_; have HO427 := n6_; have HO430 := n7_; have HO437 := n8_; have HO440 := n9_; have HO444 := n10_; have HB := n11_; clear n0_ n1_ n2_ n3_ n4_ n5_ n6_ n7_ n8_ n9_ n10_ n11_; clear hb ho40; obtain ⟨Ao41, co41, eo41⟩ := Kd.R_slice HO425.out; subst eo41; obtain ⟨Ao42, co42, eo42⟩ := Kd.R_slice HO444.out; subst eo42) | (go_at_call 13; (with_reducible refine (ulpref03_Same.calls k _ _ t421 _ _ y442 true _ ?side1 ?side2 ?side3 ?side4 A9.out).mono ?_); (case side1 => repeat (first | exact (Kd.R_reads' HO425.out).2.2 | (with_reducible refine Kd.C_alloc ?_ _) | (with_reducible refine Kd.C_drewN ?_ _) | (with_reducible refine Kd.C_drew ?_))); (case side2 => exact (Kd.R_reads' HO425.out).2.1); (case side3 => repeat (first | exact (Kd.R_reads' HO444.out).2.2 | (with_reducible refine Kd.C_alloc ?_ _) | (with_reducible refine Kd.C_drewN ?_ _) | (with_reducible refine Kd.C_drew ?_))); (case side4 => exact (Kd.R_reads' HO444.out).2.1); rintro e w' ⟨rfl, ⟨nd, rfl⟩⟩) | ((with_reducible refine gate_dst (N := 52) rfl ?_); (try (refine gate_guard (by rfl) ?_; dsimp only)); refine Kd.R_lit (Kd.int .u64) _ 47 ?hg (N := 52) ?hd (xs := ([1] : List Int)) (inner := [.int .u64 1]) (ok := fun _ => True) (okp := fun _ => True) ?hr ?hp (fun _ hk => hk) trivial (Below.refl _ _) (Nat.le_refl _) (by simp) ?_; (case hd => rfl); (case hg => rfl); (case hr => first | (go_simp; done) | (go_simp; rfl)); (case hp => exact (Reps.one (show Kd.M (Kd.int .u64) _ _ _ 1 [.int .u64 1] from rfl) (Reps.none _ _))); intro v447 w43 ho44 hb hg_ hnew_; clear hg_ hnew_; (first | rw [← Ny446.out] at ho44 | (simp only [Int.reduceToNat] at ho44; rw [← Ny446.out] at ho44)); have n0_ := Aside0.mk (Kd.R_elder' (ru HO407.out) (Kd.R_base ho44) hb); have n1_ := Aside0.mk (Kd.R_elder' (ru HO410.out) (Kd.R_base ho44) hb); have n2_ := Aside0.mk (Kd.R_elder' (ru HO414.out) (Kd.R_base ho44) hb); have n3_ := Aside0.mk (Kd.R_elder' (ru HO417.out) (Kd.R_base ho44) hb); have n4_ := Aside0.mk (Kd.R_elder' (ru HO420.out) (Kd.R_base ho44) hb); have n5_ := Aside0.mk (Kd.R_elder' (ru HO425.out) (Kd.R_base ho44) hb); have n6_ := Aside0.mk (Kd.R_elder' (ru HO427.out) (Kd.R_base ho44) hb); have n7_ := Aside0.mk (Kd.R_elder' (ru HO430.out) (Kd.R_base ho44) hb); have n8_ := Aside0.mk (Kd.R_elder' (ru HO437.out) (Kd.R_base ho44) hb); have n9_ := Aside0.mk (Kd.R_elder' (ru HO440.out) (Kd.R_base ho44) hb); have n10_ := Aside0.mk (Kd.R_elder' (ru HO444.out) (Kd.R_base ho44) hb); have n11_ := Aside0.mk (Kd.R_lower (Kd.R_new' (Kd.R_new' (Kd.R_new' (Kd.R_new' (Kd.R_new' (Kd.R_new' (Kd.R_new' (Kd.R_new' (Kd.R_new' (Kd.R_new' (Kd.R_new' ho44 (Kd.R_lt (ru HO407.out))) (Kd.R_lt (ru HO410.out))) (Kd.R_lt (ru HO414.out))) (Kd.R_lt (ru HO417.out))) (Kd.R_lt (ru HO420.out))) (Kd.R_lt (ru HO425.out))) (Kd.R_lt (ru HO427.out))) (Kd.R_lt (ru HO430.out))) (Kd.R_lt (ru HO437.out))) (Kd.R_lt (ru HO440.out))) (Kd.R_lt (ru HO444.out))) (below_size bq)); have n12_ := Aside0.mk (below_step bq hb); clear HO407; clear HO410; clear HO414; clear HO417; clear HO420; clear HO425; clear HO427; clear HO430; clear HO437; clear HO440; clear HO444; clear HB; have HO407 := n0_; have HO410 := n1_; have HO414 := n2_; have HO417 := n3_; have HO420 := n4_; have HO425 := n5_; have HO427 := n6_; have HO430 := n7_; have HO437 := n8_; have HO440 := n9_; have HO444 := n10_; have HO448 := n11_; have HB := n12_; clear n0_ n1_ n2_ n3_ n4_ n5_ n6_ n7_ n8_ n9_ n10_ n11_ n12_; clear hb ho44; obtain ⟨Ao45, co45, eo45⟩ := Kd.R_slice HO427.out; subst eo45; obtain ⟨Ao46, co46, eo46⟩ := Kd.R_slice HO448.out; subst eo46) | (go_at_call 13; (with_reducible refine (ulpref03_Same.calls k _ _ t422 _ _ y446 true _ ?side1 ?side2 ?side3 ?side4 A11.out).mono ?_); (case side1 => repeat (first | exact (Kd.R_reads' HO427.out).2.2 | (with_reducible refine Kd.C_alloc ?_ _) | (with_reducible refine Kd.C_drewN ?_ _) | (with_reducible refine Kd.C_drew ?_))); (case side2 => exact (Kd.R_reads' HO427.out).2.1); (case side3 => repeat (first | exact (Kd.R_reads' HO448.out).2.2 | (with_reducible refine Kd.C_alloc ?_ _) | (with_reducible refine Kd.C_drewN ?_ _) | (with_reducible refine Kd.C_drew ?_))); (case side4 => exact (Kd.R_reads' HO448.out).2.1); rintro e w' ⟨rfl, ⟨nd, rfl⟩⟩))
         go_ret
         exact ⟨er, bq⟩
        ·rw [if_neg c15] at H
         have c15b0 : (t434 == 32) = false := beq_eq_false_iff_ne.mpr c15
         have c15b1 : (t434 != 32) = true := bne_iff_ne.mpr c15
         obtain rfl := Option.some.inj H
         exact absurd hr_.out (by decide)
       ·rw [if_neg c14] at H
        have c14b0 : (t431.toList == ([49, 56, 52, 52, 54, 55, 52, 52, 48, 55, 51, 55, 48, 57, 53, 53, 49, 54, 49, 54] : List UInt8)) = false := beq_eq_false_iff_ne.mpr c14
        have c14b1 : (t431.toList != ([49, 56, 52, 52, 54, 55, 52, 52, 48, 55, 51, 55, 48, 57, 53, 53, 49, 54, 49, 54] : List UInt8)) = true := bne_iff_ne.mpr c14
        obtain rfl := Option.some.inj H
        exact absurd hr_.out (by decide)
      ·rw [if_neg c13] at H
       have c13b0 : (t432 == 0) = false := beq_eq_false_iff_ne.mpr c13
       have c13b1 : (t432 != 0) = true := bne_iff_ne.mpr c13
       obtain rfl := Option.some.inj H
       exact absurd hr_.out (by decide)
     ·replace c12 := Bool.eq_false_iff.mpr c12
      subst c12
      rw [if_neg (show ¬ (false = true) by decide)] at H
      obtain rfl := Option.some.inj H
      exact absurd hr_.out (by decide)
    ·replace c10 := Bool.eq_false_iff.mpr c10
     subst c10
     rw [if_neg (show ¬ (false = true) by decide)] at H
     obtain rfl := Option.some.inj H
     exact absurd hr_.out (by decide)
   ·rw [if_neg c8] at H
    have c8b0 : (t423 == 0) = false := beq_eq_false_iff_ne.mpr c8
    have c8b1 : (t423 != 0) = true := bne_iff_ne.mpr c8
    obtain rfl := Option.some.inj H
    exact absurd hr_.out (by decide)
  ·replace c7 := Bool.eq_false_iff.mpr c7
   subst c7
   rw [if_neg (show ¬ (false = true) by decide)] at H
   obtain rfl := Option.some.inj H
   exact absurd hr_.out (by decide)
 ·rw [if_neg c5] at H
  have c5b0 : (t412 == 0) = false := beq_eq_false_iff_ne.mpr c5
  have c5b1 : (t412 != 0) = true := bne_iff_ne.mpr c5
  obtain rfl := Option.some.inj H
  exact absurd hr_.out (by decide)
end Go.Proofs.Ytdbhednhhmbooaa.PAll
