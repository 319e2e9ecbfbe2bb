/- Printed functions, merged by a program of this session. -/
import Derived.Test.YtnjfckadjklmfaaDoorXRoundNearsP0
import Derived.Test.YtnjfckadjklmfaaDoorXRoundNearsP1
import Derived.Test.YtnjfckadjklmfaaDoorXRoundNearsP2
import Derived.Test.YtnjfckadjklmfaaDoorXRoundNearsP3
import Derived.Test.YtnjfckadjklmfaaDoorXRoundNearsSh
namespace Go.Proofs.YtnjfckadjklmfaaDoor.PAll
open Go.RowKit Go.Proofs.YtnjfckadjklmfaaDoorW.PrintWords Go.Proofs.YtnjfckadjklmfaaDoorW.PrintLast Go.Proofs.YtnjfckadjklmfaaDoorW.PrintMore Go.Proofs.YtnjfckadjklmfaaDoorW.PrintWords.Kd
attribute [local go_sem] max2_int min2_int max_two min_two max_three min_three max_four min_four   -- for this text's walks alone
set_option linter.unusedVariables false
set_option linter.unusedSimpArgs false
attribute [local go_sem] fld75_0 fld75_1 fld75_2 ext118 ext119
def nat_Bit.f (k : Nat) (l0 : List Int) (a1 : Int) : Option (Bool × Int) := (nat_one.f k l0).bind fun bt208 => (if bt208.2 = 0 then (if a1 < 0 then (some (false, 2)) else (if (wrap64 (Int.tdiv a1 64)) < (bt208.1.length : Int) then (if 0 ≤ (wrap64 (Int.tdiv a1 64)) then (if 0 ≤ (Int.tmod a1 64) then (some (((Go.bits .and .u64 (shr .u64 (rd bt208.1 (wrap64 (Int.tdiv a1 64))) (Int.tmod a1 64)) 1) == 1), 0)) else (none)) else (none)) else (some (false, 0)))) else (some (false, bt208.2)))
theorem nat_Bit.mono : ∀ a0 a1 k, LeO (nat_Bit.f k a0 a1) (nat_Bit.f (k + 1) a0 a1) := by
 intro a0 a1 k
 unfold nat_Bit.f
 repeat' first
   | (with_reducible exact nat_one.mono _ _)
   | (with_reducible exact LeO.refl _)
   | (with_reducible exact LeO.none _)
   | (with_reducible refine LeO.ite ?_ ?_)
   | (with_reducible refine LeO.bind ?_ (fun _ => ?_))
   | exact nat_one.mono _ _
   | exact LeO.none _
   | refine LeO.ite ?_ ?_
   | refine LeO.bind ?_ (fun _ => ?_)
set_option maxHeartbeats 8000000 in
set_option maxRecDepth 100000 in
theorem nat_Bit.calls (k : Nat) (A0 : Option Addr) (c0 : Nat) (l0 : List Int) (a1 : Int) (r1 : Bool) (r2 : Int) (w : World) (hr0 : Kd.C (Kd.int .u64) w A0 l0.length l0) (hc0 : l0.length ≤ c0) (h : nat_Bit.f k l0 a1 = some (r1, r2)) :
  Calls Tryd.prog 108 #[.slice A0 l0.length c0, .int .i64 a1] w fun e w' => e = .returned (.tuple #[.bool r1, .int .i64 r2]) ∧ Below w.heap.size w w' := by
 have HR0 := zA hr0
 have HC0 := zA hc0
 clear hr0 hc0
 have HB := zA (Below.refl w.heap.size w)
 have H : ((nat_one.f k l0).bind fun bt208 => (if bt208.2 = 0 then (if a1 < 0 then (some (false, 2)) else (if (wrap64 (Int.tdiv a1 64)) < (bt208.1.length : Int) then (if 0 ≤ (wrap64 (Int.tdiv a1 64)) then (if 0 ≤ (Int.tmod a1 64) then (some (((Go.bits .and .u64 (shr .u64 (rd bt208.1 (wrap64 (Int.tdiv a1 64))) (Int.tmod a1 64)) 1) == 1), 0)) else (none)) else (none)) else (some (false, 0)))) else (some (false, bt208.2)))) = some (r1, r2) := h
 clear h
 obtain ⟨⟨t208, t211⟩, A3, H⟩ := zh H
 (try dsimp only at H)
 by_cases c4 : t211 = 0
 ·rw [if_pos c4] at H
  have c4b0 := beq_iff_eq.mpr c4
  have c4b1 := bne_eq_false_iff_eq.mpr c4
  clear c4
  by_cases c5 : a1 < 0
  ·rw [if_pos c5] at H
   have c5b0 := decide_eq_true c5
   clear c5
   simp only [Option.some.injEq, Prod.mk.injEq] at H
   obtain ⟨rfl, rfl⟩ := H
   go_enter Tryd.func108, Tryd.ntmps108
   go_wp2_with (first | ((with_reducible refine zG 103 rfl ?_); refine zL (some 10) rfl rfl Tryd.func103 #[.slice A0 l0.length c0] rfl ?_; (with_reducible refine (nat_one.calls k (fun k_ => k_ < w.heap.size) _ _ l0 t208 t211 _ ?side1 A3.out).mono ?_); (case side1 => exact V_mk HC0.out (Kd.F_below (C_F (Kd.heap_int .u64) HR0.out) bq)); rintro e w6 ⟨v209, rfl, ho0, hb⟩; refine ⟨_, rfl, ?_⟩; have HO210 := zA (V_lower (V_mono (ok' := fun k_ => True) ho0 (fun k_ hk_ => trivial)) (below_size bq)); replace HB := ze hb; (try clear ho0)))
   go_ret2
   exact ⟨er, bq⟩
  rw [if_neg c5] at H
  have c5b0 := decide_eq_false c5
  clear c5
  by_cases c7 : (wrap64 (Int.tdiv a1 64)) < (t208.length : Int)
  ·rw [if_pos c7] at H
   have c7b0 := decide_eq_true c7
   clear c7
   obtain ⟨ji8, hji8⟩ : ∃ j_ : Int, (wrap64 (Int.tdiv a1 64)) = j_ := ⟨_, rfl⟩
   replace H : (if 0 ≤ (ji8) then (if 0 ≤ (Int.tmod a1 64) then (some (((Go.bits .and .u64 (shr .u64 (rd t208 (ji8)) (Int.tmod a1 64)) 1) == 1), 0)) else (none)) else (none)) = some (r1, r2) := zQ hji8 H
   (try rw [hji8] at c7b0)
   (try rw [hji8] at A3)
   have hji8w : (IntKind.i64.wrap (Int.tdiv a1 64)) = ji8 := (i64_w _).trans hji8
   replace H := dn H
   obtain ⟨c9, H⟩ := H
   have c9b0 := decide_eq_true c9
   clear c9
   obtain ⟨ji10, hji10⟩ : ∃ j_ : Int, (Int.tmod a1 64) = j_ := ⟨_, rfl⟩
   replace H : (if 0 ≤ (ji10) then (some (((Go.bits .and .u64 (shr .u64 (rd t208 (ji8)) (ji10)) 1) == 1), 0)) else (none)) = some (r1, r2) := zQ hji10 H
   (try rw [hji10] at A3)
   replace H := dn H
   obtain ⟨c11, H⟩ := H
   have c11b0 := eq_true c11
   have c11b1 := decide_eq_true c11
   clear c11
   obtain ⟨ji12, hji12⟩ : ∃ j_ : Int, (shr .u64 (rd t208 (ji8)) (ji10)) = j_ := ⟨_, rfl⟩
   replace H : (some (((Go.bits .and .u64 (ji12) 1) == 1), 0)) = some (r1, r2) := zQ hji12 H
   (try rw [hji12] at A3)
   have hji12_ : ((rd t208 (ji8)) / 2 ^ min (ji10).toNat 64) = ji12 := hji12
   have hji12z : (ji10) ≤ 64 → ((rd t208 (ji8)) / 2 ^ (ji10).toNat) = ji12 := shr_small hji12
   simp only [Option.some.injEq, Prod.mk.injEq] at H
   obtain ⟨rfl, rfl⟩ := H
   go_enter Tryd.func108, Tryd.ntmps108
   go_wp2_with (first | ((with_reducible refine zG 103 rfl ?_); refine zL (some 10) rfl rfl Tryd.func103 #[.slice A0 l0.length c0] rfl ?_; (with_reducible refine (nat_one.calls k (fun k_ => k_ < w.heap.size) _ _ l0 t208 t211 _ ?side1 A3.out).mono ?_); (case side1 => exact V_mk HC0.out (Kd.F_below (C_F (Kd.heap_int .u64) HR0.out) bq)); rintro e w13 ⟨v209, rfl, ho0, hb⟩; refine ⟨_, rfl, ?_⟩; have HO210 := zA (V_lower (V_mono (ok' := fun k_ => True) ho0 (fun k_ hk_ => trivial)) (below_size bq)); replace HB := ze hb; (try clear ho0); obtain ⟨Ao14, co14, eo14⟩ := V_slice HO210.out; subst eo14; have p212 : 0 ≤ ((ji8) : Int) := od; have q212 : (ji8) < (t208.length : Int) := od; obtain ⟨ad212, e212, hx212_0⟩ := Kd.at_int (V_reads' HO210.out).2.2 (ji8) p212 q212; cases e212; replace p212 := eq_true p212; replace q212 := eq_true q212))
   go_ret2
   exact ⟨by first | rfl | (simp [errW_none, errW_some] <;> rfl) | (simp only [← hji8, ← hji10, ← hji12]; first | rfl | (simp [errW_none, errW_some] <;> rfl)) | (simp [*, errW_none, errW_some] <;> rfl), bq⟩
  rw [if_neg c7] at H
  have c7b0 := decide_eq_false c7
  clear c7
  simp only [Option.some.injEq, Prod.mk.injEq] at H
  obtain ⟨rfl, rfl⟩ := H
  go_enter Tryd.func108, Tryd.ntmps108
  go_wp2_with (first | ((with_reducible refine zG 103 rfl ?_); refine zL (some 10) rfl rfl Tryd.func103 #[.slice A0 l0.length c0] rfl ?_; (with_reducible refine (nat_one.calls k (fun k_ => k_ < w.heap.size) _ _ l0 t208 t211 _ ?side1 A3.out).mono ?_); (case side1 => exact V_mk HC0.out (Kd.F_below (C_F (Kd.heap_int .u64) HR0.out) bq)); rintro e w15 ⟨v209, rfl, ho0, hb⟩; refine ⟨_, rfl, ?_⟩; have HO210 := zA (V_lower (V_mono (ok' := fun k_ => True) ho0 (fun k_ hk_ => trivial)) (below_size bq)); replace HB := ze hb; (try clear ho0); obtain ⟨Ao16, co16, eo16⟩ := V_slice HO210.out; subst eo16))
  go_ret2
  exact ⟨er, bq⟩
 rw [if_neg c4] at H
 have c4b0 := beq_eq_false_iff_ne.mpr c4
 have c4b1 := bne_iff_ne.mpr c4
 simp only [Option.some.injEq, Prod.mk.injEq] at H
 obtain ⟨rfl, rfl⟩ := H
 go_enter Tryd.func108, Tryd.ntmps108
 go_wp2_with (first | ((with_reducible refine zG 103 rfl ?_); refine zL (some 10) rfl rfl Tryd.func103 #[.slice A0 l0.length c0] rfl ?_; (with_reducible refine (nat_one.calls k (fun k_ => k_ < w.heap.size) _ _ l0 t208 t211 _ ?side1 A3.out).mono ?_); (case side1 => exact V_mk HC0.out (Kd.F_below (C_F (Kd.heap_int .u64) HR0.out) bq)); rintro e w17 ⟨v209, rfl, ho0, hb⟩; refine ⟨_, rfl, ?_⟩; have HO210 := zA (V_lower (V_mono (ok' := fun k_ => True) ho0 (fun k_ hk_ => trivial)) (below_size bq)); replace HB := ze hb; (try clear ho0)))
 go_ret2
 exact ⟨er, bq⟩
def tzI (x : Int) : Int := IntKind.u64.wrap (bits BinOp.and IntKind.u64 x (IntKind.u64.wrap (-x)) * 285870213051353865) / 288230376151711744
def bits_TrailingZeros64.f (a0 : Int) : Option (Int) := if a0 = 0 then some 64 else if 0 ≤ tzI a0 then (if tzI a0 < 64 then some (tzTab.getD (tzI a0).toNat 0) else none) else none
theorem tzTab_bd : ∀ i : Nat, i < 64 → 0 ≤ tzTab.getD i 0 ∧ tzTab.getD i 0 < 64 := by decide
set_option maxHeartbeats 8000000 in
set_option maxRecDepth 100000 in
theorem bits_TrailingZeros64.calls (a0 : Int) (r : Int) (w : World) (hT : Laid w) (h : bits_TrailingZeros64.f a0 = some r) :
  Calls Tryd.prog 116 #[.int .u64 a0] w fun e w' => e = .returned (.int .i64 r) ∧ Drawn0 w w' := by
 unfold bits_TrailingZeros64.f at h
 by_cases c : a0 = 0
 ·rw [if_pos c] at h
  obtain rfl := Option.some.inj h
  subst c
  go_enter Tryd.func116, Tryd.ntmps116
  go_wp2
  go_ret
  exact ⟨rfl, Drawn0.refl _⟩
 rw [if_neg c] at h
 have c0 : (a0 == 0) = false := beq_eq_false_iff_ne.mpr c
 by_cases p : 0 ≤ tzI a0
 ·rw [if_pos p] at h
  by_cases q : tzI a0 < 64
  ·rw [if_pos q] at h
   have hc := hT (tzI a0).toNat (by omega)
   have hb := tzTab_bd (tzI a0).toNat (by omega)
   have hr := Option.some.inj h
   rw [hr] at hc hb
   have hb0 := hb.1
   have hb1 := hb.2
   clear h hr hb hT c
   unfold tzI at p q hc
   go_enter Tryd.func116, Tryd.ntmps116
   go_wp2
   go_ret
   exact ⟨by first | rfl | simp, Drawn0.refl _⟩
  rw [if_neg q] at h
  cases h
 rw [if_neg p] at h
 cases h
def nat_Low.l0 : Nat → Int → List Int → Int → Int → Option (Int × Int)
 | 0, _, _, _, _ => none
 | k + 1, x5, x13, x14, x15 => if x15 < x14 then (if 0 ≤ x15 then (if x15 < (x13.length : Int) then (if (rd x13 x15) = 0 then (nat_Low.l0 k x5 x13 x14 (wrap64 (x15 + 1))) else ((bits_TrailingZeros64.f (rd x13 x15)).bind fun t218 => (some (wrap64 ((wrap64 (64 * x15)) + t218), x5)))) else (none)) else (none)) else (some (0, x5))
def nat_Low.f (k : Nat) (l0 : List Int) : Option (Int × Int) := (nat_one.f k l0).bind fun bt213 => (nat_Low.l0 k bt213.2 bt213.1 (bt213.1.length : Int) 0)
theorem nat_Low.mono_l : ∀ k, (∀ y0 y1 y2 y3, LeO (nat_Low.l0 k y0 y1 y2 y3) (nat_Low.l0 (k + 1) y0 y1 y2 y3))
 | 0 => fun _ _ _ _ r h => by simp [nat_Low.l0] at h
 | k + 1 => by
  have ih0 := nat_Low.mono_l k
  intro y0 y1 y2 y3
  unfold nat_Low.l0
  repeat' first
  | (with_reducible exact ih0 _ _ _ _)
  | (with_reducible exact nat_one.mono _ _)
  | (with_reducible exact LeO.refl _)
  | (with_reducible exact LeO.none _)
  | (with_reducible refine LeO.ite ?_ ?_)
  | (with_reducible refine LeO.bind ?_ (fun _ => ?_))
  | exact ih0 _ _ _ _
  | exact nat_one.mono _ _
  | exact LeO.none _
  | refine LeO.ite ?_ ?_
  | refine LeO.bind ?_ (fun _ => ?_)
theorem nat_Low.mono : ∀ a0 k, LeO (nat_Low.f k a0) (nat_Low.f (k + 1) a0) := by
 intro a0 k
 have ih0 := nat_Low.mono_l k
 unfold nat_Low.f
 repeat' first
   | (with_reducible exact ih0 _ _ _ _)
   | (with_reducible exact nat_one.mono _ _)
   | (with_reducible exact LeO.refl _)
   | (with_reducible exact LeO.none _)
   | (with_reducible refine LeO.ite ?_ ?_)
   | (with_reducible refine LeO.bind ?_ (fun _ => ?_))
   | exact ih0 _ _ _ _
   | exact nat_one.mono _ _
   | exact LeO.none _
   | refine LeO.ite ?_ ?_
   | refine LeO.bind ?_ (fun _ => ?_)
set_option maxHeartbeats 8000000 in
set_option maxRecDepth 100000 in
theorem nat_Low.calls (k : Nat) (A0 : Option Addr) (c0 : Nat) (l0 : List Int) (r1 : Int) (r2 : Int) (w : World) (hr0 : Kd.C (Kd.int .u64) w A0 l0.length l0) (hc0 : l0.length ≤ c0) (hT : Laid w) (h : nat_Low.f k l0 = some (r1, r2)) :
  Calls Tryd.prog 109 #[.slice A0 l0.length c0] w fun e w' => e = .returned (.tuple #[.int .i64 r1, .int .i64 r2]) ∧ Below w.heap.size w w' := by
 have HR0 := zA hr0
 have HC0 := zA hc0
 clear hr0 hc0
 have HB := zA (Below.refl w.heap.size w)
 have H : ((nat_one.f k l0).bind fun bt213 => (nat_Low.l0 k bt213.2 bt213.1 (bt213.1.length : Int) 0)) = some (r1, r2) := h
 clear h
 obtain ⟨⟨t213, t216⟩, A2, H⟩ := zh H
 (try dsimp only at H)
 have H' := zA H
 clear H
 go_enter Tryd.func109, Tryd.ntmps109
 go_wp2_with (first | ((with_reducible refine zG 103 rfl ?_); refine zL (some 10) rfl rfl Tryd.func103 #[.slice A0 l0.length c0] rfl ?_; (with_reducible refine (nat_one.calls k (fun k_ => k_ < w.heap.size) _ _ l0 t213 t216 _ ?side1 A2.out).mono ?_); (case side1 => exact V_mk HC0.out (Kd.F_below (C_F (Kd.heap_int .u64) HR0.out) bq)); rintro e w3 ⟨v214, rfl, ho0, hb⟩; refine ⟨_, rfl, ?_⟩; have HO215 := zA (V_lower (V_mono (ok' := fun k_ => True) ho0 (fun k_ hk_ => trivial)) (below_size bq)); replace HB := ze hb; (try clear ho0); obtain ⟨Ao4, co4, eo4⟩ := V_slice HO215.out; subst eo4))
 go_loopg [15] k (fun kq v15 w' => ∃ (x15_1 : Int), v15 = .int .i64 x15_1 ∧ Aside0 (nat_Low.l0 kq t216 t213 (t213.length : Int) x15_1 = some (r1, r2)) ∧ Aside0 (kq ≤ k) ∧ Aside0 (Kd.V (Kd.int .u64) 26 w' w.heap.size (fun _ => True) (.slice Ao4 t213.length co4) t213) ∧ Aside0 (Below w.heap.size w w'))
 case atStart => exact ⟨(0), zi, H', ⟨Nat.le_refl _⟩, ⟨vu HO215.out⟩, ⟨bq⟩⟩
 case round =>
  clear H'
  obtain ⟨x15_1, rfl, HA, HK1, HO_13, HB⟩ := hrel
  cases gk with
  | zero => exact absurd HA.out (by simp [nat_Low.l0])
  | succ k1 =>
   have H := HA.out
   clear HA
   simp only [nat_Low.l0] at H
   by_cases c5 : x15_1 < (t213.length : Int)
   ·rw [if_pos c5] at H
    have c5b0 := decide_eq_true c5
    clear c5
    replace H := dn H
    obtain ⟨c6, H⟩ := H
    have c6b0 := decide_eq_true c6
    clear c6
    replace H := dn H
    obtain ⟨c7, H⟩ := H
    have c7b0 := decide_eq_true c7
    clear c7
    by_cases c8 : (rd t213 x15_1) = 0
    ·rw [if_pos c8] at H
     have c8b0 := beq_iff_eq.mpr c8
     have c8b1 := bne_eq_false_iff_eq.mpr c8
     clear c8
     have H' := zA H
     clear H
     have p217 : 0 ≤ (x15_1 : Int) := od
     have q217 : x15_1 < (t213.length : Int) := od
     obtain ⟨ad217, e217, hx217_0⟩ := Kd.at_int (V_reads' HO_13.out).2.2 x15_1 p217 q217
     cases e217
     replace p217 := eq_true p217
     replace q217 := eq_true q217
     go_wp2
     go_roundg k1
     case measure => have := HK1.out; omega
     case rel => exact ⟨(wrap64 (x15_1 + 1)), zi, H', ⟨by have := HK1.out; omega⟩, ⟨vu HO_13.out⟩, ⟨bq⟩⟩
    rw [if_neg c8] at H
    have c8b0 := beq_eq_false_iff_ne.mpr c8
    have c8b1 := bne_iff_ne.mpr c8
    obtain ⟨t218, A9, H⟩ := zh H
    simp only [Option.some.injEq, Prod.mk.injEq] at H
    obtain ⟨rfl, rfl⟩ := H
    have p217 : 0 ≤ (x15_1 : Int) := od
    have q217 : x15_1 < (t213.length : Int) := od
    obtain ⟨ad217, e217, hx217_0⟩ := Kd.at_int (V_reads' HO_13.out).2.2 x15_1 p217 q217
    cases e217
    replace p217 := eq_true p217
    replace q217 := eq_true q217
    go_wp2_with (first | ((with_reducible refine zG 116 rfl ?_); refine zL (some 25) rfl rfl Tryd.func116 #[.int .u64 (rd t213 x15_1)] rfl ?_; (with_reducible refine (bits_TrailingZeros64.calls (rd t213 x15_1) t218 _ (laid_below hT bq) A9.out).mono ?_); rintro e w' ⟨rfl, ⟨nd, rfl⟩⟩; refine ⟨_, rfl, ?_⟩))
    go_ret2
    exact ⟨er, bq⟩
   rw [if_neg c5] at H
   have c5b0 := decide_eq_false c5
   clear c5
   simp only [Option.some.injEq, Prod.mk.injEq] at H
   obtain ⟨rfl, rfl⟩ := H
   go_wp2
   go_ret2
   exact ⟨er, bq⟩
def round_amount_at.f (k : Nat) (l0_0 : List Int) (a0_1 : Int) (a1 : Int) : Option (Int × Bool) := if a0_1 ≥ a1 then ((nat_Shl.f k l0_0 (wrap64 (a0_1 - a1))).bind fun bt220 => ((round_word.f bt220.1).bind fun t224 => (some (t224, false)))) else ((nat_Shr.f k l0_0 (wrap64 (a1 - a0_1))).bind fun bt225 => ((round_word.f bt225.1).bind fun t230 => ((nat_Bit.f k l0_0 (wrap64 ((wrap64 (a1 - a0_1)) - 1))).bind fun bt231 => ((nat_Low.f k l0_0).bind fun bt233 => (if bt231.1 = true then (if bt233.1 < (wrap64 ((wrap64 (a1 - a0_1)) - 1)) then (some (IntKind.u64.wrap (t230 + 1), bt225.2.1)) else (if (Go.bits .and .u64 t230 1) = 1 then (some (IntKind.u64.wrap (t230 + 1), bt225.2.1)) else (some (t230, bt225.2.1)))) else (some (t230, bt225.2.1)))))))
theorem round_amount_at.mono : ∀ a0 a1 a2 k, LeO (round_amount_at.f k a0 a1 a2) (round_amount_at.f (k + 1) a0 a1 a2) := by
 intro a0 a1 a2 k
 unfold round_amount_at.f
 repeat' first
   | (with_reducible exact nat_Bit.mono _ _ _)
   | (with_reducible exact nat_Low.mono _ _)
   | (with_reducible exact nat_Shl.mono _ _ _)
   | (with_reducible exact nat_Shr.mono _ _ _)
   | (with_reducible exact LeO.refl _)
   | (with_reducible exact LeO.none _)
   | (with_reducible refine LeO.ite ?_ ?_)
   | (with_reducible refine LeO.bind ?_ (fun _ => ?_))
   | exact nat_Bit.mono _ _ _
   | exact nat_Low.mono _ _
   | exact nat_Shl.mono _ _ _
   | exact nat_Shr.mono _ _ _
   | exact LeO.none _
   | refine LeO.ite ?_ ?_
   | refine LeO.bind ?_ (fun _ => ?_)
set_option maxRecDepth 100000 in
theorem hand_at_lit (g : Nat) (m : Int) (up : Bool) (w : World) (hb : w.heap[g]? = some (.cells #[.int .u64 m] 26 (0, 0))) :
  Calls Tryd.prog 110 #[.bool up, .pointer (some ⟨g, 0, none⟩)] w fun e w' => e = .returned (.int .u64 (if up then IntKind.u64.wrap (m + 1) else m)) ∧ Below w.heap.size w w' := by
 have hc := (blk_cell hb 0).trans rfl
 have hf := blk_frozen hb 0
 have HB := zA (Below.refl w.heap.size w)
 clear hb
 cases up
 ·go_enter Tryd.func110, Tryd.ntmps110
  go_wp2
  go_ret
  exact ⟨rfl, HB.out⟩
 go_enter Tryd.func110, Tryd.ntmps110
 go_wp2
 go_ret
 exact ⟨rfl, HB.out⟩
set_option maxHeartbeats 8000000 in
set_option maxRecDepth 100000 in
theorem round_amount_at.calls (k : Nat) (A0_0 : Option Addr) (c0_0 : Nat) (l0_0 : List Int) (a0_1 : Int) (a1 : Int) (r1 : Int) (r2 : Bool) (w : World) (hr0_0 : Kd.C (Kd.int .u64) w A0_0 l0_0.length l0_0) (hc0_0 : l0_0.length ≤ c0_0) (hT : Laid w) (h : round_amount_at.f k l0_0 a0_1 a1 = some (r1, r2)) :
  Calls Tryd.prog 77 #[.agg #[.slice A0_0 l0_0.length c0_0, .int .i64 a0_1], .int .i64 a1] w fun e w' => e = .returned (.tuple #[.int .u64 r1, .bool r2]) ∧ Below w.heap.size w w' := by
 have hu64 := Tryd.underlying64
 have hmf : ∀ (fn : Fn) (first cap : Array Value) (w : World), (Instr.makeFunc fn first cap).run Tryd.prog w = .ok (.func fn first cap) w := fun _ _ _ _ => rfl
 have HR0_0 := zA hr0_0
 have HC0_0 := zA hc0_0
 clear hr0_0 hc0_0
 have HB := zA (Below.refl w.heap.size w)
 unfold round_amount_at.f at h
 by_cases c3 : a0_1 ≥ a1
 ·rw [if_pos c3] at h
  have c3b0 := decide_eq_true c3
  clear c3
  replace h := Option.bind_eq_some_iff.mp h
  obtain ⟨⟨t220, t221⟩, A40, h⟩ := h
  have A4 := zA A40
  clear A40
  replace h := Option.bind_eq_some_iff.mp h
  obtain ⟨t224, A50, h⟩ := h
  have A5 := zA A50
  clear A50
  simp only [Option.some.injEq, Prod.mk.injEq] at h
  obtain ⟨rfl, rfl⟩ := h
  go_enter Tryd.func77, Tryd.ntmps77
  go_wp2_with (first | ((with_reducible refine zD 2 rfl ?_); refine zn (N := 2) (cs := #[.slice A0_0 l0_0.length c0_0, .int .i64 a0_1]) (t := 64) rfl rfl ?_; intro gA hg w1 hbox hb; have GA := zA (hg ▸ below_size HB.out : w.heap.size ≤ gA); have m_HB := zA (below_step HB.out hb); clear HB hb hg; have HB := m_HB; clear m_HB; have BA := zA hbox; clear hbox; have hcA0 := (blk_cell BA.out 0).trans rfl; have hfA0 := blk_frozen BA.out 0; have hcA1 := (blk_cell BA.out 1).trans rfl; have hfA1 := blk_frozen BA.out 1) | ((with_reducible refine zG 105 rfl ?_); refine goesL_ (some 30) rfl rfl Tryd.func105 (by kernel_rfl) rfl #[.slice A0_0 l0_0.length c0_0, .int .i64 (wrap64 (a0_1 - a1))] rfl (by (try simp only [List.map_toArray, List.map_cons, List.map_nil]); first | done | rfl) ?_; refine (nat_Shl.calls k _ _ l0_0 (wrap64 (a0_1 - a1)) t220 t221 _ (C_below HR0_0.out HB.out) HC0_0.out A4.out).mono ?_; rintro e w8 ⟨v222, rfl, ho0, hb⟩; refine ⟨_, rfl, ?_⟩; have m_HB := zA (below_step HB.out hb); have m_BA := zA (blk_below BA.out hb); clear hb HB BA; have HB := m_HB; have BA := m_BA; clear m_HB m_BA; have HO := zA ho0; clear ho0; obtain ⟨Ao, co, eo⟩ := R_slice HO.out; subst eo) | ((with_reducible refine zG 106 rfl ?_); refine goesL_ (some 34) rfl rfl Tryd.func106 (by kernel_rfl) rfl #[.slice Ao t220.length co] rfl (by (try simp only [List.map_toArray, List.map_cons, List.map_nil]); first | done | rfl) ?_; refine (round_word.calls _ _ t220 t224 _ (R_reads' HO.out).2.2 (R_reads' HO.out).2.1 A5.out).mono ?_; rintro e w' ⟨rfl, hd⟩; refine ⟨_, rfl, ?_⟩; have hb := hd.below; clear hd; have m_HB := zA (below_step HB.out hb); have m_BA := zA (blk_below BA.out hb); clear hb HB BA; have HB := m_HB; have BA := m_BA; clear m_HB m_BA))
  go_ret2
  exact ⟨rfl, HB.out⟩
 rw [if_neg c3] at h
 have c3b0 := decide_eq_false c3
 clear c3
 replace h := Option.bind_eq_some_iff.mp h
 obtain ⟨⟨t225, t226, t227⟩, A100, h⟩ := h
 have A10 := zA A100
 clear A100
 replace h := Option.bind_eq_some_iff.mp h
 obtain ⟨t230, A110, h⟩ := h
 have A11 := zA A110
 clear A110
 replace h := Option.bind_eq_some_iff.mp h
 obtain ⟨⟨t231, t232⟩, A120, h⟩ := h
 have A12 := zA A120
 clear A120
 replace h := Option.bind_eq_some_iff.mp h
 obtain ⟨⟨t233, t234⟩, A130, h⟩ := h
 have A13 := zA A130
 clear A130
 cases t231 with
 | false =>
  replace h : (if false = true then _ else _) = _ := h
  rw [if_neg (by decide)] at h
  simp only [Option.some.injEq, Prod.mk.injEq] at h
  obtain ⟨rfl, rfl⟩ := h
  go_enter Tryd.func77, Tryd.ntmps77
  go_wp2_with (first | ((with_reducible refine zD 2 rfl ?_); refine zn (N := 2) (cs := #[.slice A0_0 l0_0.length c0_0, .int .i64 a0_1]) (t := 64) rfl rfl ?_; intro gA hg w1 hbox hb; have GA := zA (hg ▸ below_size HB.out : w.heap.size ≤ gA); have m_HB := zA (below_step HB.out hb); clear HB hb hg; have HB := m_HB; clear m_HB; have BA := zA hbox; clear hbox; have hcA0 := (blk_cell BA.out 0).trans rfl; have hfA0 := blk_frozen BA.out 0; have hcA1 := (blk_cell BA.out 1).trans rfl; have hfA1 := blk_frozen BA.out 1) | ((with_reducible refine zG 107 rfl ?_); refine goesL_ (some 43) rfl rfl Tryd.func107 (by kernel_rfl) rfl #[.slice A0_0 l0_0.length c0_0, .int .i64 (wrap64 (a1 - a0_1))] rfl (by (try simp only [List.map_toArray, List.map_cons, List.map_nil]); first | done | rfl) ?_; refine (nat_Shr.calls k _ _ l0_0 (wrap64 (a1 - a0_1)) t225 t226 t227 _ (C_below HR0_0.out HB.out) HC0_0.out A10.out).mono ?_; rintro e w8 ⟨v228, rfl, ho0, hb⟩; refine ⟨_, rfl, ?_⟩; have m_HB := zA (below_step HB.out hb); have m_BA := zA (blk_below BA.out hb); clear hb HB BA; have HB := m_HB; have BA := m_BA; clear m_HB m_BA; have HO := zA ho0; clear ho0; obtain ⟨Ao, co, eo⟩ := R_slice HO.out; subst eo) | ((with_reducible refine zG 106 rfl ?_); refine goesL_ (some 48) rfl rfl Tryd.func106 (by kernel_rfl) rfl #[.slice Ao t225.length co] rfl (by (try simp only [List.map_toArray, List.map_cons, List.map_nil]); first | done | rfl) ?_; refine (round_word.calls _ _ t225 t230 _ (R_reads' HO.out).2.2 (R_reads' HO.out).2.1 A11.out).mono ?_; rintro e wd ⟨rfl, hd⟩; refine ⟨_, rfl, ?_⟩; have hb := hd.below; clear hd; have m_HB := zA (below_step HB.out hb); have m_BA := zA (blk_below BA.out hb); clear hb HB BA; have HB := m_HB; have BA := m_BA; clear m_HB m_BA) | ((with_reducible refine zD 12 rfl ?_); refine zn (N := 12) (cs := #[.int .u64 0]) (t := 26) rfl rfl ?_; intro gM hg w1 hbox hb; have GM := zA (hg ▸ below_size HB.out : w.heap.size ≤ gM); have NE := zA (by have q_ := blk_lt BA.out; rw [hg]; omega : gA ≠ gM); have m_HB := zA (below_step HB.out hb); have m_BA := zA (blk_below BA.out hb); clear hb HB BA; have HB := m_HB; have BA := m_BA; clear m_HB m_BA; have BM := zA hbox; clear hbox hg; have hcM0 := (blk_cell BM.out 0).trans rfl; have hfM0 := blk_frozen BM.out 0) | (refine gate_store (t := 26) (p := 12) (v := .tmp 48) rfl ?_; refine store_event (t := 26) (p := 12) (v := .tmp 48) (w1 := w1.setCell ⟨gM, 0, none⟩ (.int .u64 t230)) ?hg ?ho ?hn ?hr ?_; (case ho => rfl); (case hg => rfl); (case hn => rfl); (case hr => first | (go_simp; done) | (go_simp; rfl)); intro w2 hw; have m_BM := zA (hw ▸ blk_put BM.out 0 (.int .u64 t230) rfl : w2.heap[gM]? = some (.cells #[.int .u64 t230] 26 (0, 0))); have m_BA := zA (hw ▸ blk_far BA.out (p := ⟨gM, 0, none⟩) NE.out _ : w2.heap[gA]? = some (.cells #[.slice A0_0 l0_0.length c0_0, .int .i64 a0_1] 64 (0, 0))); have m_HB := zA (hw ▸ below_set HB.out GM.out : Below w.heap.size w w2); clear hw BM BA HB; have BM := m_BM; have BA := m_BA; have HB := m_HB; clear m_BM m_BA m_HB; have hcA0 := (blk_cell BA.out 0).trans rfl; have hfA0 := blk_frozen BA.out 0; have hcA1 := (blk_cell BA.out 1).trans rfl; have hfA1 := blk_frozen BA.out 1; have hcM0 := (blk_cell BM.out 0).trans rfl; have hfM0 := blk_frozen BM.out 0) | ((with_reducible refine zG 108 rfl ?_); refine goesL_ (some 54) rfl rfl Tryd.func108 (by kernel_rfl) rfl #[.slice A0_0 l0_0.length c0_0, .int .i64 (wrap64 ((wrap64 (a1 - a0_1)) - 1))] rfl (by (try simp only [List.map_toArray, List.map_cons, List.map_nil]); first | done | rfl) ?_; refine (nat_Bit.calls k _ _ l0_0 (wrap64 ((wrap64 (a1 - a0_1)) - 1)) false t232 _ (C_below HR0_0.out HB.out) HC0_0.out A12.out).mono ?_; rintro e w8 ⟨rfl, hb⟩; refine ⟨_, rfl, ?_⟩; have m_HB := zA (below_step HB.out hb); have m_BA := zA (blk_below BA.out hb); have m_BM := zA (blk_below BM.out hb); clear hb HB BA BM; have HB := m_HB; have BA := m_BA; have BM := m_BM; clear m_HB m_BA m_BM; have hcA0 := (blk_cell BA.out 0).trans rfl; have hfA0 := blk_frozen BA.out 0; have hcA1 := (blk_cell BA.out 1).trans rfl; have hfA1 := blk_frozen BA.out 1; have hcM0 := (blk_cell BM.out 0).trans rfl; have hfM0 := blk_frozen BM.out 0) | ((with_reducible refine zG 109 rfl ?_); refine goesL_ (some 60) rfl rfl Tryd.func109 (by kernel_rfl) rfl #[.slice A0_0 l0_0.length c0_0] rfl (by (try simp only [List.map_toArray, List.map_cons, List.map_nil]); first | done | rfl) ?_; refine (nat_Low.calls k _ _ l0_0 t233 t234 _ (C_below HR0_0.out HB.out) HC0_0.out (laid_below hT HB.out) A13.out).mono ?_; rintro e w9 ⟨rfl, hb⟩; refine ⟨_, rfl, ?_⟩; have m_HB := zA (below_step HB.out hb); have m_BA := zA (blk_below BA.out hb); have m_BM := zA (blk_below BM.out hb); clear hb HB BA BM; have HB := m_HB; have BA := m_BA; have BM := m_BM; clear m_HB m_BA m_BM; have hcA0 := (blk_cell BA.out 0).trans rfl; have hfA0 := blk_frozen BA.out 0; have hcA1 := (blk_cell BA.out 1).trans rfl; have hfA1 := blk_frozen BA.out 1; have hcM0 := (blk_cell BM.out 0).trans rfl; have hfM0 := blk_frozen BM.out 0) | ((with_reducible refine zD 78 rfl ?_); refine goesV_ (some 78) rfl rfl #[] #[.pointer (some ⟨gM, 0, none⟩)] rfl rfl Tryd.func110 (by kernel_rfl) rfl #[.bool false, .pointer (some ⟨gM, 0, none⟩)] (by (try simp only [List.map_toArray, List.map_cons, List.map_nil]); first | done | (go_simp; done) | rfl) ?_; refine (hand_at_lit gM t230 false _ BM.out).mono ?_; rintro e_ w4 ⟨rfl, hb⟩; refine ⟨_, rfl, ?_⟩; have m_HB := zA (below_step HB.out hb); clear HB hb; have HB := m_HB; clear m_HB))
  go_ret2
  exact ⟨rfl, HB.out⟩
 | true =>
 replace h : (if true = true then _ else _) = _ := h
 rw [if_pos rfl] at h
 by_cases c15 : t233 < (wrap64 ((wrap64 (a1 - a0_1)) - 1))
 ·rw [if_pos c15] at h
  have c15b0 : decide (t233 < (wrap64 ((wrap64 (a1 - a0_1)) - 1))) = true := decide_eq_true c15
  clear c15
  simp only [Option.some.injEq, Prod.mk.injEq] at h
  obtain ⟨rfl, rfl⟩ := h
  go_enter Tryd.func77, Tryd.ntmps77
  go_wp2_with (first | ((with_reducible refine zD 2 rfl ?_); refine zn (N := 2) (cs := #[.slice A0_0 l0_0.length c0_0, .int .i64 a0_1]) (t := 64) rfl rfl ?_; intro gA hg w1 hbox hb; have GA := zA (hg ▸ below_size HB.out : w.heap.size ≤ gA); have m_HB := zA (below_step HB.out hb); clear HB hb hg; have HB := m_HB; clear m_HB; have BA := zA hbox; clear hbox; have hcA0 := (blk_cell BA.out 0).trans rfl; have hfA0 := blk_frozen BA.out 0; have hcA1 := (blk_cell BA.out 1).trans rfl; have hfA1 := blk_frozen BA.out 1) | ((with_reducible refine zG 107 rfl ?_); refine goesL_ (some 43) rfl rfl Tryd.func107 (by kernel_rfl) rfl #[.slice A0_0 l0_0.length c0_0, .int .i64 (wrap64 (a1 - a0_1))] rfl (by (try simp only [List.map_toArray, List.map_cons, List.map_nil]); first | done | rfl) ?_; refine (nat_Shr.calls k _ _ l0_0 (wrap64 (a1 - a0_1)) t225 t226 t227 _ (C_below HR0_0.out HB.out) HC0_0.out A10.out).mono ?_; rintro e w8 ⟨v228, rfl, ho0, hb⟩; refine ⟨_, rfl, ?_⟩; have m_HB := zA (below_step HB.out hb); have m_BA := zA (blk_below BA.out hb); clear hb HB BA; have HB := m_HB; have BA := m_BA; clear m_HB m_BA; have HO := zA ho0; clear ho0; obtain ⟨Ao, co, eo⟩ := R_slice HO.out; subst eo) | ((with_reducible refine zG 106 rfl ?_); refine goesL_ (some 48) rfl rfl Tryd.func106 (by kernel_rfl) rfl #[.slice Ao t225.length co] rfl (by (try simp only [List.map_toArray, List.map_cons, List.map_nil]); first | done | rfl) ?_; refine (round_word.calls _ _ t225 t230 _ (R_reads' HO.out).2.2 (R_reads' HO.out).2.1 A11.out).mono ?_; rintro e wd ⟨rfl, hd⟩; refine ⟨_, rfl, ?_⟩; have hb := hd.below; clear hd; have m_HB := zA (below_step HB.out hb); have m_BA := zA (blk_below BA.out hb); clear hb HB BA; have HB := m_HB; have BA := m_BA; clear m_HB m_BA) | ((with_reducible refine zD 12 rfl ?_); refine zn (N := 12) (cs := #[.int .u64 0]) (t := 26) rfl rfl ?_; intro gM hg w1 hbox hb; have GM := zA (hg ▸ below_size HB.out : w.heap.size ≤ gM); have NE := zA (by have q_ := blk_lt BA.out; rw [hg]; omega : gA ≠ gM); have m_HB := zA (below_step HB.out hb); have m_BA := zA (blk_below BA.out hb); clear hb HB BA; have HB := m_HB; have BA := m_BA; clear m_HB m_BA; have BM := zA hbox; clear hbox hg; have hcM0 := (blk_cell BM.out 0).trans rfl; have hfM0 := blk_frozen BM.out 0) | (refine gate_store (t := 26) (p := 12) (v := .tmp 48) rfl ?_; refine store_event (t := 26) (p := 12) (v := .tmp 48) (w1 := w1.setCell ⟨gM, 0, none⟩ (.int .u64 t230)) ?hg ?ho ?hn ?hr ?_; (case ho => rfl); (case hg => rfl); (case hn => rfl); (case hr => first | (go_simp; done) | (go_simp; rfl)); intro w2 hw; have m_BM := zA (hw ▸ blk_put BM.out 0 (.int .u64 t230) rfl : w2.heap[gM]? = some (.cells #[.int .u64 t230] 26 (0, 0))); have m_BA := zA (hw ▸ blk_far BA.out (p := ⟨gM, 0, none⟩) NE.out _ : w2.heap[gA]? = some (.cells #[.slice A0_0 l0_0.length c0_0, .int .i64 a0_1] 64 (0, 0))); have m_HB := zA (hw ▸ below_set HB.out GM.out : Below w.heap.size w w2); clear hw BM BA HB; have BM := m_BM; have BA := m_BA; have HB := m_HB; clear m_BM m_BA m_HB; have hcA0 := (blk_cell BA.out 0).trans rfl; have hfA0 := blk_frozen BA.out 0; have hcA1 := (blk_cell BA.out 1).trans rfl; have hfA1 := blk_frozen BA.out 1; have hcM0 := (blk_cell BM.out 0).trans rfl; have hfM0 := blk_frozen BM.out 0) | ((with_reducible refine zG 108 rfl ?_); refine goesL_ (some 54) rfl rfl Tryd.func108 (by kernel_rfl) rfl #[.slice A0_0 l0_0.length c0_0, .int .i64 (wrap64 ((wrap64 (a1 - a0_1)) - 1))] rfl (by (try simp only [List.map_toArray, List.map_cons, List.map_nil]); first | done | rfl) ?_; refine (nat_Bit.calls k _ _ l0_0 (wrap64 ((wrap64 (a1 - a0_1)) - 1)) true t232 _ (C_below HR0_0.out HB.out) HC0_0.out A12.out).mono ?_; rintro e w8 ⟨rfl, hb⟩; refine ⟨_, rfl, ?_⟩; have m_HB := zA (below_step HB.out hb); have m_BA := zA (blk_below BA.out hb); have m_BM := zA (blk_below BM.out hb); clear hb HB BA BM; have HB := m_HB; have BA := m_BA; have BM := m_BM; clear m_HB m_BA m_BM; have hcA0 := (blk_cell BA.out 0).trans rfl; have hfA0 := blk_frozen BA.out 0; have hcA1 := (blk_cell BA.out 1).trans rfl; have hfA1 := blk_frozen BA.out 1; have hcM0 := (blk_cell BM.out 0).trans rfl; have hfM0 := blk_frozen BM.out 0) | ((with_reducible refine zG 109 rfl ?_); refine goesL_ (some 60) rfl rfl Tryd.func109 (by kernel_rfl) rfl #[.slice A0_0 l0_0.length c0_0] rfl (by (try simp only [List.map_toArray, List.map_cons, List.map_nil]); first | done | rfl) ?_; refine (nat_Low.calls k _ _ l0_0 t233 t234 _ (C_below HR0_0.out HB.out) HC0_0.out (laid_below hT HB.out) A13.out).mono ?_; rintro e w9 ⟨rfl, hb⟩; refine ⟨_, rfl, ?_⟩; have m_HB := zA (below_step HB.out hb); have m_BA := zA (blk_below BA.out hb); have m_BM := zA (blk_below BM.out hb); clear hb HB BA BM; have HB := m_HB; have BA := m_BA; have BM := m_BM; clear m_HB m_BA m_BM; have hcA0 := (blk_cell BA.out 0).trans rfl; have hfA0 := blk_frozen BA.out 0; have hcA1 := (blk_cell BA.out 1).trans rfl; have hfA1 := blk_frozen BA.out 1; have hcM0 := (blk_cell BM.out 0).trans rfl; have hfM0 := blk_frozen BM.out 0) | ((with_reducible refine zD 78 rfl ?_); refine goesV_ (some 78) rfl rfl #[] #[.pointer (some ⟨gM, 0, none⟩)] rfl rfl Tryd.func110 (by kernel_rfl) rfl #[.bool true, .pointer (some ⟨gM, 0, none⟩)] (by (try simp only [List.map_toArray, List.map_cons, List.map_nil]); first | done | (go_simp; done) | rfl) ?_; refine (hand_at_lit gM t230 true _ BM.out).mono ?_; rintro e_ w4 ⟨rfl, hb⟩; refine ⟨_, rfl, ?_⟩; have m_HB := zA (below_step HB.out hb); clear HB hb; have HB := m_HB; clear m_HB))
  go_ret2
  exact ⟨rfl, HB.out⟩
 rw [if_neg c15] at h
 have c15b0 : decide (t233 < (wrap64 ((wrap64 (a1 - a0_1)) - 1))) = false := decide_eq_false c15
 clear c15
 by_cases c24 : (Go.bits .and .u64 t230 1) = 1
 ·rw [if_pos c24] at h
  have c24b0 := beq_iff_eq.mpr c24
  clear c24
  simp only [Option.some.injEq, Prod.mk.injEq] at h
  obtain ⟨rfl, rfl⟩ := h
  go_enter Tryd.func77, Tryd.ntmps77
  go_wp2_with (first | ((with_reducible refine zD 2 rfl ?_); refine zn (N := 2) (cs := #[.slice A0_0 l0_0.length c0_0, .int .i64 a0_1]) (t := 64) rfl rfl ?_; intro gA hg w1 hbox hb; have GA := zA (hg ▸ below_size HB.out : w.heap.size ≤ gA); have m_HB := zA (below_step HB.out hb); clear HB hb hg; have HB := m_HB; clear m_HB; have BA := zA hbox; clear hbox; have hcA0 := (blk_cell BA.out 0).trans rfl; have hfA0 := blk_frozen BA.out 0; have hcA1 := (blk_cell BA.out 1).trans rfl; have hfA1 := blk_frozen BA.out 1) | ((with_reducible refine zG 107 rfl ?_); refine goesL_ (some 43) rfl rfl Tryd.func107 (by kernel_rfl) rfl #[.slice A0_0 l0_0.length c0_0, .int .i64 (wrap64 (a1 - a0_1))] rfl (by (try simp only [List.map_toArray, List.map_cons, List.map_nil]); first | done | rfl) ?_; refine (nat_Shr.calls k _ _ l0_0 (wrap64 (a1 - a0_1)) t225 t226 t227 _ (C_below HR0_0.out HB.out) HC0_0.out A10.out).mono ?_; rintro e w8 ⟨v228, rfl, ho0, hb⟩; refine ⟨_, rfl, ?_⟩; have m_HB := zA (below_step HB.out hb); have m_BA := zA (blk_below BA.out hb); clear hb HB BA; have HB := m_HB; have BA := m_BA; clear m_HB m_BA; have HO := zA ho0; clear ho0; obtain ⟨Ao, co, eo⟩ := R_slice HO.out; subst eo) | ((with_reducible refine zG 106 rfl ?_); refine goesL_ (some 48) rfl rfl Tryd.func106 (by kernel_rfl) rfl #[.slice Ao t225.length co] rfl (by (try simp only [List.map_toArray, List.map_cons, List.map_nil]); first | done | rfl) ?_; refine (round_word.calls _ _ t225 t230 _ (R_reads' HO.out).2.2 (R_reads' HO.out).2.1 A11.out).mono ?_; rintro e wd ⟨rfl, hd⟩; refine ⟨_, rfl, ?_⟩; have hb := hd.below; clear hd; have m_HB := zA (below_step HB.out hb); have m_BA := zA (blk_below BA.out hb); clear hb HB BA; have HB := m_HB; have BA := m_BA; clear m_HB m_BA) | ((with_reducible refine zD 12 rfl ?_); refine zn (N := 12) (cs := #[.int .u64 0]) (t := 26) rfl rfl ?_; intro gM hg w1 hbox hb; have GM := zA (hg ▸ below_size HB.out : w.heap.size ≤ gM); have NE := zA (by have q_ := blk_lt BA.out; rw [hg]; omega : gA ≠ gM); have m_HB := zA (below_step HB.out hb); have m_BA := zA (blk_below BA.out hb); clear hb HB BA; have HB := m_HB; have BA := m_BA; clear m_HB m_BA; have BM := zA hbox; clear hbox hg; have hcM0 := (blk_cell BM.out 0).trans rfl; have hfM0 := blk_frozen BM.out 0) | (refine gate_store (t := 26) (p := 12) (v := .tmp 48) rfl ?_; refine store_event (t := 26) (p := 12) (v := .tmp 48) (w1 := w1.setCell ⟨gM, 0, none⟩ (.int .u64 t230)) ?hg ?ho ?hn ?hr ?_; (case ho => rfl); (case hg => rfl); (case hn => rfl); (case hr => first | (go_simp; done) | (go_simp; rfl)); intro w2 hw; have m_BM := zA (hw ▸ blk_put BM.out 0 (.int .u64 t230) rfl : w2.heap[gM]? = some (.cells #[.int .u64 t230] 26 (0, 0))); have m_BA := zA (hw ▸ blk_far BA.out (p := ⟨gM, 0, none⟩) NE.out _ : w2.heap[gA]? = some (.cells #[.slice A0_0 l0_0.length c0_0, .int .i64 a0_1] 64 (0, 0))); have m_HB := zA (hw ▸ below_set HB.out GM.out : Below w.heap.size w w2); clear hw BM BA HB; have BM := m_BM; have BA := m_BA; have HB := m_HB; clear m_BM m_BA m_HB; have hcA0 := (blk_cell BA.out 0).trans rfl; have hfA0 := blk_frozen BA.out 0; have hcA1 := (blk_cell BA.out 1).trans rfl; have hfA1 := blk_frozen BA.out 1; have hcM0 := (blk_cell BM.out 0).trans rfl; have hfM0 := blk_frozen BM.out 0) | ((with_reducible refine zG 108 rfl ?_); refine goesL_ (some 54) rfl rfl Tryd.func108 (by kernel_rfl) rfl #[.slice A0_0 l0_0.length c0_0, .int .i64 (wrap64 ((wrap64 (a1 - a0_1)) - 1))] rfl (by (try simp only [List.map_toArray, List.map_cons, List.map_nil]); first | done | rfl) ?_; refine (nat_Bit.calls k _ _ l0_0 (wrap64 ((wrap64 (a1 - a0_1)) - 1)) true t232 _ (C_below HR0_0.out HB.out) HC0_0.out A12.out).mono ?_; rintro e w8 ⟨rfl, hb⟩; refine ⟨_, rfl, ?_⟩; have m_HB := zA (below_step HB.out hb); have m_BA := zA (blk_below BA.out hb); have m_BM := zA (blk_below BM.out hb); clear hb HB BA BM; have HB := m_HB; have BA := m_BA; have BM := m_BM; clear m_HB m_BA m_BM; have hcA0 := (blk_cell BA.out 0).trans rfl; have hfA0 := blk_frozen BA.out 0; have hcA1 := (blk_cell BA.out 1).trans rfl; have hfA1 := blk_frozen BA.out 1; have hcM0 := (blk_cell BM.out 0).trans rfl; have hfM0 := blk_frozen BM.out 0) | ((with_reducible refine zG 109 rfl ?_); refine goesL_ (some 60) rfl rfl Tryd.func109 (by kernel_rfl) rfl #[.slice A0_0 l0_0.length c0_0] rfl (by (try simp only [List.map_toArray, List.map_cons, List.map_nil]); first | done | rfl) ?_; refine (nat_Low.calls k _ _ l0_0 t233 t234 _ (C_below HR0_0.out HB.out) HC0_0.out (laid_below hT HB.out) A13.out).mono ?_; rintro e w9 ⟨rfl, hb⟩; refine ⟨_, rfl, ?_⟩; have m_HB := zA (below_step HB.out hb); have m_BA := zA (blk_below BA.out hb); have m_BM := zA (blk_below BM.out hb); clear hb HB BA BM; have HB := m_HB; have BA := m_BA; have BM := m_BM; clear m_HB m_BA m_BM; have hcA0 := (blk_cell BA.out 0).trans rfl; have hfA0 := blk_frozen BA.out 0; have hcA1 := (blk_cell BA.out 1).trans rfl; have hfA1 := blk_frozen BA.out 1; have hcM0 := (blk_cell BM.out 0).trans rfl; have hfM0 := blk_frozen BM.out 0) | ((with_reducible refine zD 78 rfl ?_); refine goesV_ (some 78) rfl rfl #[] #[.pointer (some ⟨gM, 0, none⟩)] rfl rfl Tryd.func110 (by kernel_rfl) rfl #[.bool true, .pointer (some ⟨gM, 0, none⟩)] (by (try simp only [List.map_toArray, List.map_cons, List.map_nil]); first | done | (go_simp; done) | rfl) ?_; refine (hand_at_lit gM t230 true _ BM.out).mono ?_; rintro e_ w4 ⟨rfl, hb⟩; refine ⟨_, rfl, ?_⟩; have m_HB := zA (below_step HB.out hb); clear HB hb; have HB := m_HB; clear m_HB))
  go_ret2
  exact ⟨rfl, HB.out⟩
 rw [if_neg c24] at h
 have c24b0 := beq_eq_false_iff_ne.mpr c24
 clear c24
 simp only [Option.some.injEq, Prod.mk.injEq] at h
 obtain ⟨rfl, rfl⟩ := h
 go_enter Tryd.func77, Tryd.ntmps77
 go_wp2_with (first | ((with_reducible refine zD 2 rfl ?_); refine zn (N := 2) (cs := #[.slice A0_0 l0_0.length c0_0, .int .i64 a0_1]) (t := 64) rfl rfl ?_; intro gA hg w1 hbox hb; have GA := zA (hg ▸ below_size HB.out : w.heap.size ≤ gA); have m_HB := zA (below_step HB.out hb); clear HB hb hg; have HB := m_HB; clear m_HB; have BA := zA hbox; clear hbox; have hcA0 := (blk_cell BA.out 0).trans rfl; have hfA0 := blk_frozen BA.out 0; have hcA1 := (blk_cell BA.out 1).trans rfl; have hfA1 := blk_frozen BA.out 1) | ((with_reducible refine zG 107 rfl ?_); refine goesL_ (some 43) rfl rfl Tryd.func107 (by kernel_rfl) rfl #[.slice A0_0 l0_0.length c0_0, .int .i64 (wrap64 (a1 - a0_1))] rfl (by (try simp only [List.map_toArray, List.map_cons, List.map_nil]); first | done | rfl) ?_; refine (nat_Shr.calls k _ _ l0_0 (wrap64 (a1 - a0_1)) t225 t226 t227 _ (C_below HR0_0.out HB.out) HC0_0.out A10.out).mono ?_; rintro e w8 ⟨v228, rfl, ho0, hb⟩; refine ⟨_, rfl, ?_⟩; have m_HB := zA (below_step HB.out hb); have m_BA := zA (blk_below BA.out hb); clear hb HB BA; have HB := m_HB; have BA := m_BA; clear m_HB m_BA; have HO := zA ho0; clear ho0; obtain ⟨Ao, co, eo⟩ := R_slice HO.out; subst eo) | ((with_reducible refine zG 106 rfl ?_); refine goesL_ (some 48) rfl rfl Tryd.func106 (by kernel_rfl) rfl #[.slice Ao t225.length co] rfl (by (try simp only [List.map_toArray, List.map_cons, List.map_nil]); first | done | rfl) ?_; refine (round_word.calls _ _ t225 t230 _ (R_reads' HO.out).2.2 (R_reads' HO.out).2.1 A11.out).mono ?_; rintro e wd ⟨rfl, hd⟩; refine ⟨_, rfl, ?_⟩; have hb := hd.below; clear hd; have m_HB := zA (below_step HB.out hb); have m_BA := zA (blk_below BA.out hb); clear hb HB BA; have HB := m_HB; have BA := m_BA; clear m_HB m_BA) | ((with_reducible refine zD 12 rfl ?_); refine zn (N := 12) (cs := #[.int .u64 0]) (t := 26) rfl rfl ?_; intro gM hg w1 hbox hb; have GM := zA (hg ▸ below_size HB.out : w.heap.size ≤ gM); have NE := zA (by have q_ := blk_lt BA.out; rw [hg]; omega : gA ≠ gM); have m_HB := zA (below_step HB.out hb); have m_BA := zA (blk_below BA.out hb); clear hb HB BA; have HB := m_HB; have BA := m_BA; clear m_HB m_BA; have BM := zA hbox; clear hbox hg; have hcM0 := (blk_cell BM.out 0).trans rfl; have hfM0 := blk_frozen BM.out 0) | (refine gate_store (t := 26) (p := 12) (v := .tmp 48) rfl ?_; refine store_event (t := 26) (p := 12) (v := .tmp 48) (w1 := w1.setCell ⟨gM, 0, none⟩ (.int .u64 t230)) ?hg ?ho ?hn ?hr ?_; (case ho => rfl); (case hg => rfl); (case hn => rfl); (case hr => first | (go_simp; done) | (go_simp; rfl)); intro w2 hw; have m_BM := zA (hw ▸ blk_put BM.out 0 (.int .u64 t230) rfl : w2.heap[gM]? = some (.cells #[.int .u64 t230] 26 (0, 0))); have m_BA := zA (hw ▸ blk_far BA.out (p := ⟨gM, 0, none⟩) NE.out _ : w2.heap[gA]? = some (.cells #[.slice A0_0 l0_0.length c0_0, .int .i64 a0_1] 64 (0, 0))); have m_HB := zA (hw ▸ below_set HB.out GM.out : Below w.heap.size w w2); clear hw BM BA HB; have BM := m_BM; have BA := m_BA; have HB := m_HB; clear m_BM m_BA m_HB; have hcA0 := (blk_cell BA.out 0).trans rfl; have hfA0 := blk_frozen BA.out 0; have hcA1 := (blk_cell BA.out 1).trans rfl; have hfA1 := blk_frozen BA.out 1; have hcM0 := (blk_cell BM.out 0).trans rfl; have hfM0 := blk_frozen BM.out 0) | ((with_reducible refine zG 108 rfl ?_); refine goesL_ (some 54) rfl rfl Tryd.func108 (by kernel_rfl) rfl #[.slice A0_0 l0_0.length c0_0, .int .i64 (wrap64 ((wrap64 (a1 - a0_1)) - 1))] rfl (by (try simp only [List.map_toArray, List.map_cons, List.map_nil]); first | done | rfl) ?_; refine (nat_Bit.calls k _ _ l0_0 (wrap64 ((wrap64 (a1 - a0_1)) - 1)) true t232 _ (C_below HR0_0.out HB.out) HC0_0.out A12.out).mono ?_; rintro e w8 ⟨rfl, hb⟩; refine ⟨_, rfl, ?_⟩; have m_HB := zA (below_step HB.out hb); have m_BA := zA (blk_below BA.out hb); have m_BM := zA (blk_below BM.out hb); clear hb HB BA BM; have HB := m_HB; have BA := m_BA; have BM := m_BM; clear m_HB m_BA m_BM; have hcA0 := (blk_cell BA.out 0).trans rfl; have hfA0 := blk_frozen BA.out 0; have hcA1 := (blk_cell BA.out 1).trans rfl; have hfA1 := blk_frozen BA.out 1; have hcM0 := (blk_cell BM.out 0).trans rfl; have hfM0 := blk_frozen BM.out 0) | ((with_reducible refine zG 109 rfl ?_); refine goesL_ (some 60) rfl rfl Tryd.func109 (by kernel_rfl) rfl #[.slice A0_0 l0_0.length c0_0] rfl (by (try simp only [List.map_toArray, List.map_cons, List.map_nil]); first | done | rfl) ?_; refine (nat_Low.calls k _ _ l0_0 t233 t234 _ (C_below HR0_0.out HB.out) HC0_0.out (laid_below hT HB.out) A13.out).mono ?_; rintro e w9 ⟨rfl, hb⟩; refine ⟨_, rfl, ?_⟩; have m_HB := zA (below_step HB.out hb); have m_BA := zA (blk_below BA.out hb); have m_BM := zA (blk_below BM.out hb); clear hb HB BA BM; have HB := m_HB; have BA := m_BA; have BM := m_BM; clear m_HB m_BA m_BM; have hcA0 := (blk_cell BA.out 0).trans rfl; have hfA0 := blk_frozen BA.out 0; have hcA1 := (blk_cell BA.out 1).trans rfl; have hfA1 := blk_frozen BA.out 1; have hcM0 := (blk_cell BM.out 0).trans rfl; have hfM0 := blk_frozen BM.out 0) | ((with_reducible refine zD 78 rfl ?_); refine goesV_ (some 78) rfl rfl #[] #[.pointer (some ⟨gM, 0, none⟩)] rfl rfl Tryd.func110 (by kernel_rfl) rfl #[.bool false, .pointer (some ⟨gM, 0, none⟩)] (by (try simp only [List.map_toArray, List.map_cons, List.map_nil]); first | done | (go_simp; done) | rfl) ?_; refine (hand_at_lit gM t230 false _ BM.out).mono ?_; rintro e_ w4 ⟨rfl, hb⟩; refine ⟨_, rfl, ?_⟩; have m_HB := zA (below_step HB.out hb); clear HB hb; have HB := m_HB; clear m_HB))
 go_ret2
 exact ⟨rfl, HB.out⟩
def round_amount_tiny.f (k : Nat) (l0_0 : List Int) (a0_1 : Int) : Option (Bool) := (round_amount_zero.f l0_0 a0_1).bind fun t236 => (if t236 = true then (some false) else ((round_amount_top.f k l0_0 a0_1).bind fun t237 => (if t237 = (-1022) then ((round_amount_at.f k l0_0 a0_1 (wrap64 (t237 - 53))).bind fun bt238 => (some (decide (bt238.1 < 9007199254740992)))) else (some (decide (t237 < (-1022)))))))
theorem round_amount_tiny.mono : ∀ a0 a1 k, LeO (round_amount_tiny.f k a0 a1) (round_amount_tiny.f (k + 1) a0 a1) := by
 intro a0 a1 k
 unfold round_amount_tiny.f
 repeat' first
   | (with_reducible exact round_amount_at.mono _ _ _ _)
   | (with_reducible exact round_amount_top.mono _ _ _)
   | (with_reducible exact LeO.refl _)
   | (with_reducible exact LeO.none _)
   | (with_reducible refine LeO.ite ?_ ?_)
   | (with_reducible refine LeO.bind ?_ (fun _ => ?_))
   | exact round_amount_at.mono _ _ _ _
   | exact round_amount_top.mono _ _ _
   | exact LeO.none _
   | refine LeO.ite ?_ ?_
   | refine LeO.bind ?_ (fun _ => ?_)
set_option maxHeartbeats 8000000 in
set_option maxRecDepth 100000 in
theorem round_amount_tiny.calls (k : Nat) (A0_0 : Option Addr) (c0_0 : Nat) (l0_0 : List Int) (a0_1 : Int) (r : Bool) (w : World) (hr0_0 : Kd.C (Kd.int .u64) w A0_0 l0_0.length l0_0) (hc0_0 : l0_0.length ≤ c0_0) (hT : Laid w) (h : round_amount_tiny.f k l0_0 a0_1 = some r) :
  Calls Tryd.prog 36 #[.agg #[.slice A0_0 l0_0.length c0_0, .int .i64 a0_1]] w fun e w' => e = .returned (.bool r) ∧ Below w.heap.size w w' := by
 have hu64 := Tryd.underlying64
 have HR0_0 := zA hr0_0
 have HC0_0 := zA hc0_0
 clear hr0_0 hc0_0
 have HB := zA (Below.refl w.heap.size w)
 have H : ((round_amount_zero.f l0_0 a0_1).bind fun t236 => (if t236 = true then (some false) else ((round_amount_top.f k l0_0 a0_1).bind fun t237 => (if t237 = (-1022) then ((round_amount_at.f k l0_0 a0_1 (wrap64 (t237 - 53))).bind fun bt238 => (some (decide (bt238.1 < 9007199254740992)))) else (some (decide (t237 < (-1022)))))))) = some r := h
 clear h
 obtain ⟨t236, A2, H⟩ := zh H
 by_cases c3 : t236 = true
 ·subst c3
  rw [if_pos rfl] at H
  obtain rfl := Option.some.inj H
  go_enter Tryd.func36, Tryd.ntmps36
  go_wp2_with (first | ((with_reducible refine zD 1 rfl ?_); refine zn (N := 1) (cs := #[.slice A0_0 l0_0.length c0_0, .int .i64 a0_1]) (t := 64) rfl rfl ?_; intro gb235 hg w4 hbox hb; have BK235 := zA (hbox); have GW235 := zw hg; replace HB := ze hb; clear hb hbox hg; have hcz5_0 : w4.cell? ⟨gb235, 0, none⟩ = some (.slice A0_0 l0_0.length c0_0) := (blk_cell BK235.out 0).trans rfl; have hcz5_1 : w4.cell? ⟨gb235, 1, none⟩ = some (.int .i64 a0_1) := (blk_cell BK235.out 1).trans rfl; have hfz5_0 := blk_frozen BK235.out 0; have hfz5_1 := blk_frozen BK235.out 1) | ((with_reducible refine zG 50 rfl ?_); refine zL (some 7) rfl rfl Tryd.func50 #[.agg #[.slice A0_0 l0_0.length c0_0, .int .i64 a0_1]] rfl ?_; (with_reducible refine (round_amount_zero.calls _ _ l0_0 a0_1 true _ ?side1 ?side2 A2.out).mono ?_); (case side1 => exact zk (C_below HR0_0.out HB.out)); (case side2 => exact HC0_0.out); rintro e w6 ⟨rfl, hb⟩; refine ⟨_, rfl, ?_⟩; replace BK235 := zb BK235 hb; replace HB := zf hb))
  go_ret
  exact ⟨er, zs⟩
 replace c3 := Bool.eq_false_iff.mpr c3
 subst c3
 rw [if_neg (show ¬ (false = true) by decide)] at H
 obtain ⟨t237, A7, H⟩ := zh H
 by_cases c8 : t237 = (-1022)
 ·rw [if_pos c8] at H
  have c8b0 := beq_iff_eq.mpr c8
  have c8b1 := bne_eq_false_iff_eq.mpr c8
  clear c8
  obtain ⟨⟨t238, t239⟩, A9, H⟩ := zh H
  (try dsimp only at H)
  obtain rfl := Option.some.inj H
  go_enter Tryd.func36, Tryd.ntmps36
  go_wp2_with (first | ((with_reducible refine zD 1 rfl ?_); refine zn (N := 1) (cs := #[.slice A0_0 l0_0.length c0_0, .int .i64 a0_1]) (t := 64) rfl rfl ?_; intro gb235 hg w10 hbox hb; have BK235 := zA (hbox); have GW235 := zw hg; replace HB := ze hb; clear hb hbox hg; have hcz11_0 : w10.cell? ⟨gb235, 0, none⟩ = some (.slice A0_0 l0_0.length c0_0) := (blk_cell BK235.out 0).trans rfl; have hcz11_1 : w10.cell? ⟨gb235, 1, none⟩ = some (.int .i64 a0_1) := (blk_cell BK235.out 1).trans rfl; have hfz11_0 := blk_frozen BK235.out 0; have hfz11_1 := blk_frozen BK235.out 1) | ((with_reducible refine zG 50 rfl ?_); refine zL (some 7) rfl rfl Tryd.func50 #[.agg #[.slice A0_0 l0_0.length c0_0, .int .i64 a0_1]] rfl ?_; (with_reducible refine (round_amount_zero.calls _ _ l0_0 a0_1 false _ ?side1 ?side2 A2.out).mono ?_); (case side1 => exact zk (C_below HR0_0.out HB.out)); (case side2 => exact HC0_0.out); rintro e w12 ⟨rfl, hb⟩; refine ⟨_, rfl, ?_⟩; replace BK235 := zb BK235 hb; replace HB := zf hb; have hcz13_0 : w12.cell? ⟨gb235, 0, none⟩ = some (.slice A0_0 l0_0.length c0_0) := (blk_cell BK235.out 0).trans rfl; have hcz13_1 : w12.cell? ⟨gb235, 1, none⟩ = some (.int .i64 a0_1) := (blk_cell BK235.out 1).trans rfl; have hfz13_0 := blk_frozen BK235.out 0; have hfz13_1 := blk_frozen BK235.out 1) | ((with_reducible refine zG 76 rfl ?_); refine zL (some 9) rfl rfl Tryd.func76 #[.agg #[.slice A0_0 l0_0.length c0_0, .int .i64 a0_1]] rfl ?_; (with_reducible refine (round_amount_top.calls k _ _ l0_0 a0_1 t237 _ ?side1 ?side2 A7.out).mono ?_); (case side1 => exact zk (C_below HR0_0.out HB.out)); (case side2 => exact HC0_0.out); rintro e w14 ⟨rfl, hb⟩; refine ⟨_, rfl, ?_⟩; replace BK235 := zb BK235 hb; replace HB := zf hb; have hcz15_0 : w14.cell? ⟨gb235, 0, none⟩ = some (.slice A0_0 l0_0.length c0_0) := (blk_cell BK235.out 0).trans rfl; have hcz15_1 : w14.cell? ⟨gb235, 1, none⟩ = some (.int .i64 a0_1) := (blk_cell BK235.out 1).trans rfl; have hfz15_0 := blk_frozen BK235.out 0; have hfz15_1 := blk_frozen BK235.out 1) | ((with_reducible refine zG 77 rfl ?_); refine zL (some 18) rfl rfl Tryd.func77 #[.agg #[.slice A0_0 l0_0.length c0_0, .int .i64 a0_1], .int .i64 (wrap64 (t237 - 53))] rfl ?_; (with_reducible refine (round_amount_at.calls k _ _ l0_0 a0_1 (wrap64 (t237 - 53)) t238 t239 _ ?side1 ?side2 (laid_below hT zs) A9.out).mono ?_); (case side1 => exact zk (C_below HR0_0.out HB.out)); (case side2 => exact HC0_0.out); rintro e w16 ⟨rfl, hb⟩; refine ⟨_, rfl, ?_⟩; replace BK235 := zb BK235 hb; replace HB := zf hb))
  go_ret
  exact ⟨er, zs⟩
 rw [if_neg c8] at H
 have c8b0 := beq_eq_false_iff_ne.mpr c8
 have c8b1 := bne_iff_ne.mpr c8
 obtain rfl := Option.some.inj H
 go_enter Tryd.func36, Tryd.ntmps36
 go_wp2_with (first | ((with_reducible refine zD 1 rfl ?_); refine zn (N := 1) (cs := #[.slice A0_0 l0_0.length c0_0, .int .i64 a0_1]) (t := 64) rfl rfl ?_; intro gb235 hg w17 hbox hb; have BK235 := zA (hbox); have GW235 := zw hg; replace HB := ze hb; clear hb hbox hg; have hcz18_0 : w17.cell? ⟨gb235, 0, none⟩ = some (.slice A0_0 l0_0.length c0_0) := (blk_cell BK235.out 0).trans rfl; have hcz18_1 : w17.cell? ⟨gb235, 1, none⟩ = some (.int .i64 a0_1) := (blk_cell BK235.out 1).trans rfl; have hfz18_0 := blk_frozen BK235.out 0; have hfz18_1 := blk_frozen BK235.out 1) | ((with_reducible refine zG 50 rfl ?_); refine zL (some 7) rfl rfl Tryd.func50 #[.agg #[.slice A0_0 l0_0.length c0_0, .int .i64 a0_1]] rfl ?_; (with_reducible refine (round_amount_zero.calls _ _ l0_0 a0_1 false _ ?side1 ?side2 A2.out).mono ?_); (case side1 => exact zk (C_below HR0_0.out HB.out)); (case side2 => exact HC0_0.out); rintro e w19 ⟨rfl, hb⟩; refine ⟨_, rfl, ?_⟩; replace BK235 := zb BK235 hb; replace HB := zf hb; have hcz20_0 : w19.cell? ⟨gb235, 0, none⟩ = some (.slice A0_0 l0_0.length c0_0) := (blk_cell BK235.out 0).trans rfl; have hcz20_1 : w19.cell? ⟨gb235, 1, none⟩ = some (.int .i64 a0_1) := (blk_cell BK235.out 1).trans rfl; have hfz20_0 := blk_frozen BK235.out 0; have hfz20_1 := blk_frozen BK235.out 1) | ((with_reducible refine zG 76 rfl ?_); refine zL (some 9) rfl rfl Tryd.func76 #[.agg #[.slice A0_0 l0_0.length c0_0, .int .i64 a0_1]] rfl ?_; (with_reducible refine (round_amount_top.calls k _ _ l0_0 a0_1 t237 _ ?side1 ?side2 A7.out).mono ?_); (case side1 => exact zk (C_below HR0_0.out HB.out)); (case side2 => exact HC0_0.out); rintro e w21 ⟨rfl, hb⟩; refine ⟨_, rfl, ?_⟩; replace BK235 := zb BK235 hb; replace HB := zf hb))
 go_ret
 exact ⟨er, zs⟩
end Go.Proofs.YtnjfckadjklmfaaDoor.PAll
