/- Printed functions, merged by a program of this session. -/
import Derived.Test.YtdbhednhhmbooaaXNatOwnP0
import Derived.Test.YtdbhednhhmbooaaXNatOwnP1
import Derived.Laws.StructEq
import Derived.Test.YtdbhednhhmbooaaXNatOwnSh
namespace Go.Proofs.Ytdbhednhhmbooaa.PAll
open Go.RowKit Go.Proofs.YtdbhednhhmbooaaW.PrintWords Go.Proofs.YtdbhednhhmbooaaW.PrintLast Go.Proofs.YtdbhednhhmbooaaW.PrintMore
attribute [local go_sem] max2_int min2_int max_two min_two max_three min_three max_four min_four   -- for this text's walks alone
set_option linter.unusedVariables false
set_option linter.unusedSimpArgs false
attribute [local go_sem] ext65 ext71
def bits_Mul64.f (a0 : Int) (a1 : Int) : Option (Int × Int) := some (IntKind.u64.wrap ((IntKind.u64.wrap ((IntKind.u64.wrap ((a0 / 4294967296) * (a1 / 4294967296))) + ((IntKind.u64.wrap ((IntKind.u64.wrap ((a0 / 4294967296) * (Go.bits .and .u64 a1 4294967295))) + ((IntKind.u64.wrap ((Go.bits .and .u64 a0 4294967295) * (Go.bits .and .u64 a1 4294967295))) / 4294967296))) / 4294967296))) + ((IntKind.u64.wrap ((Go.bits .and .u64 (IntKind.u64.wrap ((IntKind.u64.wrap ((a0 / 4294967296) * (Go.bits .and .u64 a1 4294967295))) + ((IntKind.u64.wrap ((Go.bits .and .u64 a0 4294967295) * (Go.bits .and .u64 a1 4294967295))) / 4294967296))) 4294967295) + (IntKind.u64.wrap ((Go.bits .and .u64 a0 4294967295) * (a1 / 4294967296))))) / 4294967296)), IntKind.u64.wrap (a0 * a1))
set_option maxHeartbeats 8000000 in
set_option maxRecDepth 100000 in
theorem bits_Mul64.calls (a0 : Int) (a1 : Int) (r1 : Int) (r2 : Int) (w : World) (h : bits_Mul64.f a0 a1 = some (r1, r2)) :
  Calls Try.prog 64 #[.int .u64 a0, .int .u64 a1] w fun e w' => e = .returned (.tuple #[.int .u64 r1, .int .u64 r2]) ∧ Drawn0 w w' := by
 have H : (some (IntKind.u64.wrap ((IntKind.u64.wrap ((IntKind.u64.wrap ((a0 / 4294967296) * (a1 / 4294967296))) + ((IntKind.u64.wrap ((IntKind.u64.wrap ((a0 / 4294967296) * (Go.bits .and .u64 a1 4294967295))) + ((IntKind.u64.wrap ((Go.bits .and .u64 a0 4294967295) * (Go.bits .and .u64 a1 4294967295))) / 4294967296))) / 4294967296))) + ((IntKind.u64.wrap ((Go.bits .and .u64 (IntKind.u64.wrap ((IntKind.u64.wrap ((a0 / 4294967296) * (Go.bits .and .u64 a1 4294967295))) + ((IntKind.u64.wrap ((Go.bits .and .u64 a0 4294967295) * (Go.bits .and .u64 a1 4294967295))) / 4294967296))) 4294967295) + (IntKind.u64.wrap ((Go.bits .and .u64 a0 4294967295) * (a1 / 4294967296))))) / 4294967296)), IntKind.u64.wrap (a0 * a1))) = some (r1, r2) := h
 clear h
 simp only [Option.some.injEq, Prod.mk.injEq] at H
 obtain ⟨rfl, rfl⟩ := H
 go_enter Try.func64, Try.ntmps64
 go_wp2
 go_ret2
 exact ⟨by first | rfl | (simp; done) | (simp [*]; done), by repeat (first | exact Drawn0.refl _ | apply Drawn0.step)⟩
mutual
def nat_digit.j0 : Nat → Int → Int → Int → Int → Int → Option (Int)
 | 0, _, _, _, _, _ => none
 | k + 1, x2, x3, x4, x11, x12 => nat_digit.l0 k x2 x3 x4 x11 x12
def nat_digit.l0 : Nat → Int → Int → Int → Int → Int → Option (Int)
 | 0, _, _, _, _, _ => none
 | k + 1, x2, x3, x4, x11, x12 => (bits_Mul64.f x11 x4).bind fun bt273 => (if bt273.1 < x12 then (nat_digit.j2 k x2 x3 x4 x11 x12 true) else (if bt273.1 = x12 then (nat_digit.j2 k x2 x3 x4 x11 x12 (decide (bt273.2 ≤ x2))) else (nat_digit.j2 k x2 x3 x4 x11 x12 false)))
def nat_digit.j2 : Nat → Int → Int → Int → Int → Int → Bool → Option (Int)
 | 0, _, _, _, _, _, _ => none
 | k + 1, x2, x3, x4, x11, x12, x54 => if x54 = true then (some x11) else (if (add64c x12 x3 0) > 0 then (some (IntKind.u64.wrap (x11 - 1))) else (nat_digit.l0 k x2 x3 x4 (IntKind.u64.wrap (x11 - 1)) (add64s x12 x3 0)))
end
def nat_digit.f (k : Nat) (a0 : Int) (a1 : Int) (a2 : Int) (a3 : Int) (a4 : Int) : Option (Int) := if a0 < a3 then ((bits_Div64.f k a0 a1 a3).bind fun bt271 => (nat_digit.j0 k a2 a3 a4 bt271.1 bt271.2)) else (if (add64c a1 a3 0) > 0 then (some 18446744073709551615) else (nat_digit.j0 k a2 a3 a4 18446744073709551615 (add64s a1 a3 0)))
theorem nat_digit.mono_l : ∀ k, (∀ y0 y1 y2 y3 y4, LeO (nat_digit.j0 k y0 y1 y2 y3 y4) (nat_digit.j0 (k + 1) y0 y1 y2 y3 y4)) ∧ (∀ y0 y1 y2 y3 y4, LeO (nat_digit.l0 k y0 y1 y2 y3 y4) (nat_digit.l0 (k + 1) y0 y1 y2 y3 y4)) ∧ (∀ y0 y1 y2 y3 y4 y5, LeO (nat_digit.j2 k y0 y1 y2 y3 y4 y5) (nat_digit.j2 (k + 1) y0 y1 y2 y3 y4 y5))
 | 0 => ⟨fun _ _ _ _ _ r h => by simp [nat_digit.j0] at h, fun _ _ _ _ _ r h => by simp [nat_digit.l0] at h, fun _ _ _ _ _ _ r h => by simp [nat_digit.j2] at h⟩
 | k + 1 => by
  obtain ⟨ih0, ih1, ih2⟩ := nat_digit.mono_l k
  refine ⟨?_, ?_, ?_⟩
  ·intro y0 y1 y2 y3 y4
   unfold nat_digit.j0
   repeat' first
   | (with_reducible exact ih0 _ _ _ _ _)
   | (with_reducible exact ih1 _ _ _ _ _)
   | (with_reducible exact ih2 _ _ _ _ _ _)
   | (with_reducible exact bits_Div64.mono _ _ _ _)
   | (with_reducible exact LeO.refl _)
   | (with_reducible exact LeO.none _)
   | (with_reducible refine LeO.ite ?_ ?_)
   | (with_reducible refine LeO.bind ?_ (fun _ => ?_))
   | exact ih0 _ _ _ _ _
   | exact ih1 _ _ _ _ _
   | exact ih2 _ _ _ _ _ _
   | exact bits_Div64.mono _ _ _ _
   | exact LeO.none _
   | refine LeO.ite ?_ ?_
   | refine LeO.bind ?_ (fun _ => ?_)
  ·intro y0 y1 y2 y3 y4
   unfold nat_digit.l0
   repeat' first
   | (with_reducible exact ih0 _ _ _ _ _)
   | (with_reducible exact ih1 _ _ _ _ _)
   | (with_reducible exact ih2 _ _ _ _ _ _)
   | (with_reducible exact bits_Div64.mono _ _ _ _)
   | (with_reducible exact LeO.refl _)
   | (with_reducible exact LeO.none _)
   | (with_reducible refine LeO.ite ?_ ?_)
   | (with_reducible refine LeO.bind ?_ (fun _ => ?_))
   | exact ih0 _ _ _ _ _
   | exact ih1 _ _ _ _ _
   | exact ih2 _ _ _ _ _ _
   | exact bits_Div64.mono _ _ _ _
   | exact LeO.none _
   | refine LeO.ite ?_ ?_
   | refine LeO.bind ?_ (fun _ => ?_)
  ·intro y0 y1 y2 y3 y4 y5
   unfold nat_digit.j2
   repeat' first
   | (with_reducible exact ih0 _ _ _ _ _)
   | (with_reducible exact ih1 _ _ _ _ _)
   | (with_reducible exact ih2 _ _ _ _ _ _)
   | (with_reducible exact bits_Div64.mono _ _ _ _)
   | (with_reducible exact LeO.refl _)
   | (with_reducible exact LeO.none _)
   | (with_reducible refine LeO.ite ?_ ?_)
   | (with_reducible refine LeO.bind ?_ (fun _ => ?_))
   | exact ih0 _ _ _ _ _
   | exact ih1 _ _ _ _ _
   | exact ih2 _ _ _ _ _ _
   | exact bits_Div64.mono _ _ _ _
   | exact LeO.none _
   | refine LeO.ite ?_ ?_
   | refine LeO.bind ?_ (fun _ => ?_)
theorem nat_digit.mono : ∀ a0 a1 a2 a3 a4 k, LeO (nat_digit.f k a0 a1 a2 a3 a4) (nat_digit.f (k + 1) a0 a1 a2 a3 a4) := by
 intro a0 a1 a2 a3 a4 k
 obtain ⟨ih0, ih1, ih2⟩ := nat_digit.mono_l k
 unfold nat_digit.f
 repeat' first
   | (with_reducible exact ih0 _ _ _ _ _)
   | (with_reducible exact ih1 _ _ _ _ _)
   | (with_reducible exact ih2 _ _ _ _ _ _)
   | (with_reducible exact bits_Div64.mono _ _ _ _)
   | (with_reducible exact LeO.refl _)
   | (with_reducible exact LeO.none _)
   | (with_reducible refine LeO.ite ?_ ?_)
   | (with_reducible refine LeO.bind ?_ (fun _ => ?_))
   | exact ih0 _ _ _ _ _
   | exact ih1 _ _ _ _ _
   | exact ih2 _ _ _ _ _ _
   | exact bits_Div64.mono _ _ _ _
   | exact LeO.none _
   | refine LeO.ite ?_ ?_
   | refine LeO.bind ?_ (fun _ => ?_)
set_option maxHeartbeats 8000000 in
set_option maxRecDepth 100000 in
theorem nat_digit.calls (k : Nat) (a0 : Int) (a1 : Int) (a2 : Int) (a3 : Int) (a4 : Int) (r : Int) (w : World) (h : nat_digit.f k a0 a1 a2 a3 a4 = some r) :
  Calls Try.prog 68 #[.int .u64 a0, .int .u64 a1, .int .u64 a2, .int .u64 a3, .int .u64 a4] w fun e w' => e = .returned (.int .u64 r) ∧ Drawn0 w w' := by
 have H : (if a0 < a3 then ((bits_Div64.f k a0 a1 a3).bind fun bt271 => (nat_digit.j0 k a2 a3 a4 bt271.1 bt271.2)) else (if (add64c a1 a3 0) > 0 then (some 18446744073709551615) else (nat_digit.j0 k a2 a3 a4 18446744073709551615 (add64s a1 a3 0)))) = some r := h
 clear h
 have HC6 := Aside0.mk H
 clear H
 go_enter Try.func68, Try.ntmps68
 go_upto_if 19 with (fail)
 go_cut [11, 12] (fun v11 v12 wc => ∃ (kq : Nat) (x11_5 : Int) (x12_5 : Int), v11 = .int .u64 x11_5 ∧ v12 = .int .u64 x12_5 ∧ Aside0 (nat_digit.j0 kq a2 a3 a4 x11_5 x12_5 = some r) ∧ Aside0 (kq ≤ k) ∧ Drawn0 w wc)
 case first =>
  have H := HC6.out
  clear HC6
  by_cases c7 : a0 < a3
  ·rw [if_pos c7] at H
   have c7b0 : decide (a0 < a3) = true := decide_eq_true c7
   clear c7
   (first | rw [c7b0] | (simp only [i64_w, i32_w]; rw [c7b0]) | skip)
   replace H := Option.bind_eq_some_iff.mp H
   obtain ⟨⟨t271, t272⟩, A80, H⟩ := H
   (try dsimp only at H)
   have A8 := Aside0.mk A80
   clear A80
   have H' := Aside0.mk H
   clear H
   go_wp2_with (first | ((with_reducible refine gate_callee (f := 63) rfl ?_); refine goesL_ (some 24) rfl rfl Try.func63 (by kernel_rfl) rfl #[.int .u64 a0, .int .u64 a1, .int .u64 a3] rfl ga ?_; (with_reducible refine (bits_Div64.calls k a0 a1 a3 t271 t272 _ A8.out).mono ?_); rintro e w' ⟨rfl, ⟨nd, rfl⟩⟩; refine ⟨_, rfl, ?_⟩))
   go_meet
   case rel => exact ⟨_, (t271), (t272), (by first | rfl | (simp; done) | (simp [*]; done)), (by first | rfl | (simp; done) | (simp [*]; done)), H', ⟨by first | omega | exact Nat.le_refl _⟩, by repeat (first | exact Drawn0.refl _ | apply Drawn0.step)⟩
  ·rw [if_neg c7] at H
   have c7b0 : decide (a0 < a3) = false := decide_eq_false c7
   clear c7
   (first | rw [c7b0] | (simp only [i64_w, i32_w]; rw [c7b0]) | skip)
   by_cases c9 : (add64c a1 a3 0) > 0
   ·rw [if_pos c9] at H
    have c9b0 : decide (0 < (add64c a1 a3 0)) = true := decide_eq_true c9
    clear c9
    obtain rfl := Option.some.inj H
    go_wp2
    go_ret
    exact ⟨by first | rfl | (simp; done) | (simp [*]; done), by repeat (first | exact Drawn0.refl _ | apply Drawn0.step)⟩
   ·rw [if_neg c9] at H
    have c9b0 : decide (0 < (add64c a1 a3 0)) = false := decide_eq_false c9
    clear c9
    have H' := Aside0.mk H
    clear H
    go_wp2
    go_meet
    case rel => exact ⟨_, (18446744073709551615), (add64s a1 a3 0), (by first | rfl | (simp; done) | (simp [*]; done)), (by first | rfl | (simp; done) | (simp [*]; done)), H', ⟨by first | omega | exact Nat.le_refl _⟩, by repeat (first | exact Drawn0.refl _ | apply Drawn0.step)⟩
 case rest =>
  clear HC6
  try clear p2
  try clear c6
  try clear c7
  try clear c7b0
  try clear c9
  try clear c9b0
  obtain ⟨kq, x11_5, x12_5, rfl, rfl, HA, HJ5, ⟨mc5, rfl⟩⟩ := hcut
  cases kq with
  | zero => exact absurd HA.out (by simp [nat_digit.j0])
  | succ kj5 =>
   have H := HA.out
   clear HA
   simp only [nat_digit.j0] at H
   have H' := Aside0.mk H
   clear H
   go_wp2
   go_loopg [11, 12] kj5 (fun kq v11 v12 w' => ∃ (x11_2 : Int) (x12_2 : Int), v11 = .int .u64 x11_2 ∧ v12 = .int .u64 x12_2 ∧ Aside0 (nat_digit.l0 kq a2 a3 a4 x11_2 x12_2 = some r) ∧ Aside0 (kq ≤ kj5) ∧ Drawn0 w w')
   case atStart => exact ⟨(x11_5), (x12_5), (by first | rfl | (simp; done) | (simp [*]; done)), (by first | rfl | (simp; done) | (simp [*]; done)), H', ⟨Nat.le_refl _⟩, by repeat (first | exact Drawn0.refl _ | apply Drawn0.step)⟩
   case round =>
    clear H'
    try clear p2
    try clear c5
    try clear c6
    try clear c7
    try clear c7b0
    try clear c9
    try clear c9b0
    try clear p2
    obtain ⟨x11_2, x12_2, rfl, rfl, HA, HK2, ⟨m2, rfl⟩⟩ := hrel
    cases gk with
    | zero => exact absurd HA.out (by simp [nat_digit.l0])
    | succ k2 =>
     have H := HA.out
     clear HA
     simp only [nat_digit.l0] at H
     replace H := Option.bind_eq_some_iff.mp H
     obtain ⟨⟨t273, t274⟩, A100, H⟩ := H
     (try dsimp only at H)
     have A10 := Aside0.mk A100
     clear A100
     have HC11 := Aside0.mk H
     clear H
     go_upto_region 9 with (first | ((with_reducible refine gate_callee (f := 64) rfl ?_); refine goesL_ (some 39) rfl rfl Try.func64 (by kernel_rfl) rfl #[.int .u64 x11_2, .int .u64 a4] rfl ga ?_; (with_reducible refine (bits_Mul64.calls x11_2 a4 t273 t274 _ A10.out).mono ?_); rintro e w' ⟨rfl, ⟨nd, rfl⟩⟩; refine ⟨_, rfl, ?_⟩))
     (try simp only [Act.put, List.setIfInBounds_toArray, List.set_cons_zero, List.set_cons_succ])
     go_cut [54] (fun v54 wc => ∃ (kq : Nat) (x54_10 : Bool), v54 = .bool x54_10 ∧ Aside0 (nat_digit.j2 kq a2 a3 a4 x11_2 x12_2 x54_10 = some r) ∧ Aside0 (kq ≤ k2) ∧ Drawn0 w wc)
     case first =>
      have H := HC11.out
      clear HC11
      by_cases c12 : t273 < x12_2
      ·rw [if_pos c12] at H
       have c12b0 : decide (t273 < x12_2) = true := decide_eq_true c12
       clear c12
       (first | rw [c12b0] | (simp only [i64_w, i32_w]; rw [c12b0]) | skip)
       have H' := Aside0.mk H
       clear H
       go_wp2
       go_meet
       case rel => exact ⟨_, (true), (by first | rfl | (simp; done) | (simp [*]; done)), H', ⟨by have := HJ5.out; have := HK2.out; first | omega | exact Nat.le_refl _⟩, by repeat (first | exact Drawn0.refl _ | apply Drawn0.step)⟩
      ·rw [if_neg c12] at H
       have c12b0 : decide (t273 < x12_2) = false := decide_eq_false c12
       clear c12
       (first | rw [c12b0] | (simp only [i64_w, i32_w]; rw [c12b0]) | skip)
       by_cases c13 : t273 = x12_2
       ·rw [if_pos c13] at H
        have c13b0 : (t273 == x12_2) = true := beq_iff_eq.mpr c13
        have c13b1 : (t273 != x12_2) = false := bne_eq_false_iff_eq.mpr c13
        clear c13
        have H' := Aside0.mk H
        clear H
        go_wp2
        go_meet
        case rel => exact ⟨_, (decide (t274 ≤ a2)), (by first | rfl | (simp; done) | (simp [*]; done)), H', ⟨by have := HJ5.out; have := HK2.out; first | omega | exact Nat.le_refl _⟩, by repeat (first | exact Drawn0.refl _ | apply Drawn0.step)⟩
       ·rw [if_neg c13] at H
        have c13b0 : (t273 == x12_2) = false := beq_eq_false_iff_ne.mpr c13
        have c13b1 : (t273 != x12_2) = true := bne_iff_ne.mpr c13
        have H' := Aside0.mk H
        clear H
        go_wp2
        go_meet
        case rel => exact ⟨_, (false), (by first | rfl | (simp; done) | (simp [*]; done)), H', ⟨by have := HJ5.out; have := HK2.out; first | omega | exact Nat.le_refl _⟩, by repeat (first | exact Drawn0.refl _ | apply Drawn0.step)⟩
     case rest =>
      clear HC11
      try clear c1
      try clear p2
      try clear c5
      try clear c6
      try clear c7
      try clear c7b0
      try clear c9
      try clear c9b0
      try clear c12
      try clear c12b0
      try clear c13
      try clear c13b0
      try clear c13b1
      try clear p2
      obtain ⟨kq, x54_10, rfl, HA, HJ10, ⟨mc10, rfl⟩⟩ := hcut
      cases kq with
      | zero => exact absurd HA.out (by simp [nat_digit.j2])
      | succ kj10 =>
       have H := HA.out
       clear HA
       simp only [nat_digit.j2] at H
       by_cases c14 : x54_10 = true
       ·subst c14
        rw [if_pos rfl] at H
        obtain rfl := Option.some.inj H
        go_wp2
        go_ret
        exact ⟨by first | rfl | (simp; done) | (simp [*]; done), by repeat (first | exact Drawn0.refl _ | apply Drawn0.step)⟩
       ·replace c14 := Bool.eq_false_iff.mpr c14
        subst c14
        rw [if_neg (show ¬ (false = true) by decide)] at H
        by_cases c15 : (add64c x12_2 a3 0) > 0
        ·rw [if_pos c15] at H
         have c15b0 : decide (0 < (add64c x12_2 a3 0)) = true := decide_eq_true c15
         clear c15
         obtain rfl := Option.some.inj H
         go_wp2
         go_ret
         exact ⟨by first | rfl | (simp; done) | (simp [*]; done), by repeat (first | exact Drawn0.refl _ | apply Drawn0.step)⟩
        ·rw [if_neg c15] at H
         have c15b0 : decide (0 < (add64c x12_2 a3 0)) = false := decide_eq_false c15
         clear c15
         have H' := Aside0.mk H
         clear H
         go_wp2
         go_roundg kj10
         case measure => have := HJ5.out; have := HK2.out; have := HJ10.out; omega
         case rel => exact ⟨(IntKind.u64.wrap (x11_2 - 1)), (add64s x12_2 a3 0), (by first | rfl | (simp; done) | (simp [*]; done)), (by first | rfl | (simp; done) | (simp [*]; done)), H', ⟨by have := HJ5.out; have := HK2.out; have := HJ10.out; omega⟩, by repeat (first | exact Drawn0.refl _ | apply Drawn0.step)⟩
def nat_number_less.l0 : Nat → List Int → List Int → Int → Int → Int → List Int → Int → Int → Option (Bool × List Int)
 | 0, _, _, _, _, _, _, _, _ => none
 | k + 1, x0, x1, x2, x7, x8, x14, x15, x16 => if x16 < x15 then (if 0 ≤ x16 then (if x16 < (x14.length : Int) then ((bits_Mul64.f (rd x14 x16) x2).bind fun bt276 => (if x16 < (x0.length : Int) then (if x8 ≤ 1 then (nat_number_less.l0 k (x0.set (x16 : Int).toNat (sub64s (rd x0 x16) (add64s bt276.2 x7 0) x8)) x1 x2 (IntKind.u64.wrap (bt276.1 + (add64c bt276.2 x7 0))) (sub64c (rd x0 x16) (add64s bt276.2 x7 0) x8) x14 x15 (wrap64 (x16 + 1))) else (none)) else (none))) else (none)) else (none)) else (if 0 ≤ (x1.length : Int) then (if (x1.length : Int) < (x0.length : Int) then (if x8 ≤ 1 then (some (decide ((sub64c (rd x0 (x1.length : Int)) x7 x8) > 0), (x0.set ((x1.length : Int) : Int).toNat (sub64s (rd x0 (x1.length : Int)) x7 x8)))) else (none)) else (none)) else (none))
def nat_number_less.f (k : Nat) (l0 : List Int) (l1 : List Int) (a2 : Int) : Option (Bool × List Int) := nat_number_less.l0 k l0 l1 a2 0 0 l1 (l1.length : Int) 0
theorem nat_number_less.mono_l : ∀ k, (∀ y0 y1 y2 y3 y4 y5 y6 y7, LeO (nat_number_less.l0 k y0 y1 y2 y3 y4 y5 y6 y7) (nat_number_less.l0 (k + 1) y0 y1 y2 y3 y4 y5 y6 y7))
 | 0 => fun _ _ _ _ _ _ _ _ r h => by simp [nat_number_less.l0] at h
 | k + 1 => by
  have ih0 := nat_number_less.mono_l k
  ·intro y0 y1 y2 y3 y4 y5 y6 y7
   unfold nat_number_less.l0
   repeat' first
   | (with_reducible exact ih0 _ _ _ _ _ _ _ _)
   | (with_reducible exact LeO.refl _)
   | (with_reducible exact LeO.none _)
   | (with_reducible refine LeO.ite ?_ ?_)
   | (with_reducible refine LeO.bind ?_ (fun _ => ?_))
   | exact ih0 _ _ _ _ _ _ _ _
   | exact LeO.none _
   | refine LeO.ite ?_ ?_
   | refine LeO.bind ?_ (fun _ => ?_)
theorem nat_number_less.mono : ∀ a0 a1 a2 k, LeO (nat_number_less.f k a0 a1 a2) (nat_number_less.f (k + 1) a0 a1 a2) := by
 intro a0 a1 a2 k
 have ih0 := nat_number_less.mono_l k
 unfold nat_number_less.f
 repeat' first
   | (with_reducible exact ih0 _ _ _ _ _ _ _ _)
   | (with_reducible exact LeO.refl _)
   | (with_reducible exact LeO.none _)
   | (with_reducible refine LeO.ite ?_ ?_)
   | (with_reducible refine LeO.bind ?_ (fun _ => ?_))
   | exact ih0 _ _ _ _ _ _ _ _
   | exact LeO.none _
   | refine LeO.ite ?_ ?_
   | refine LeO.bind ?_ (fun _ => ?_)
def nat_number_back.l0 : Nat → List Int → List Int → Int → List Int → Int → Int → Option (List Int)
 | 0, _, _, _, _, _, _ => none
 | k + 1, x0, x1, x4, x7, x8, x9 => if x9 < x8 then (if 0 ≤ x9 then (if x9 < (x7.length : Int) then (if x9 < (x0.length : Int) then (if x4 ≤ 1 then (nat_number_back.l0 k (x0.set (x9 : Int).toNat (add64s (rd x0 x9) (rd x7 x9) x4)) x1 (add64c (rd x0 x9) (rd x7 x9) x4) x7 x8 (wrap64 (x9 + 1))) else (none)) else (none)) else (none)) else (none)) else (if 0 ≤ (x1.length : Int) then (if (x1.length : Int) < (x0.length : Int) then (some (x0.set ((x1.length : Int) : Int).toNat (IntKind.u64.wrap ((rd x0 (x1.length : Int)) + x4)))) else (none)) else (none))
def nat_number_back.f (k : Nat) (l0 : List Int) (l1 : List Int) : Option (List Int) := nat_number_back.l0 k l0 l1 0 l1 (l1.length : Int) 0
theorem nat_number_back.mono_l : ∀ k, (∀ y0 y1 y2 y3 y4 y5, LeO (nat_number_back.l0 k y0 y1 y2 y3 y4 y5) (nat_number_back.l0 (k + 1) y0 y1 y2 y3 y4 y5))
 | 0 => fun _ _ _ _ _ _ r h => by simp [nat_number_back.l0] at h
 | k + 1 => by
  have ih0 := nat_number_back.mono_l k
  ·intro y0 y1 y2 y3 y4 y5
   unfold nat_number_back.l0
   repeat' first
   | (with_reducible exact ih0 _ _ _ _ _ _)
   | (with_reducible exact LeO.refl _)
   | (with_reducible exact LeO.none _)
   | (with_reducible refine LeO.ite ?_ ?_)
   | (with_reducible refine LeO.bind ?_ (fun _ => ?_))
   | exact ih0 _ _ _ _ _ _
   | exact LeO.none _
   | refine LeO.ite ?_ ?_
   | refine LeO.bind ?_ (fun _ => ?_)
theorem nat_number_back.mono : ∀ a0 a1 k, LeO (nat_number_back.f k a0 a1) (nat_number_back.f (k + 1) a0 a1) := by
 intro a0 a1 k
 have ih0 := nat_number_back.mono_l k
 unfold nat_number_back.f
 repeat' first
   | (with_reducible exact ih0 _ _ _ _ _ _)
   | (with_reducible exact LeO.refl _)
   | (with_reducible exact LeO.none _)
   | (with_reducible refine LeO.ite ?_ ?_)
   | (with_reducible refine LeO.bind ?_ (fun _ => ?_))
   | exact ih0 _ _ _ _ _ _
   | exact LeO.none _
   | refine LeO.ite ?_ ?_
   | refine LeO.bind ?_ (fun _ => ?_)
theorem view_rd {A xs B : List Int} {off : Nat} (hA : A.length = off) (i : Int) (h0 : 0 ≤ i) (h1 : i < xs.length) : rd (A ++ xs ++ B) ((off : Int) + i) = rd xs i := by
 have e : ((off : Int) + i).toNat = off + i.toNat := by omega
 unfold rd
 rw [e, List.append_assoc, ← hA]
 simp only [List.getD_eq_getElem?_getD]
 rw [List.getElem?_append_right (by omega), Nat.add_sub_cancel_left, List.getElem?_append_left (by omega)]
theorem view_cell {k : IntKind} {e : TypeId} {w : World} {base : Nat} {ok : Nat → Prop} {g N C off : Nat} {A xs B : List Int} (h : Kd.R (Kd.int k) e w base ok (.slice (some ⟨g, 0, none⟩) N C) (A ++ xs ++ B)) (hA : A.length = off) (i : Int) (h0 : 0 ≤ i) (h1 : i < xs.length) :
  w.cell? ⟨g, off + i.toNat, none⟩ = some (.int k (rd xs i)) ∧ w.frozen? ⟨g, off + i.toNat, none⟩ = false := by
 have hN := (Kd.R_reads' h).1
 have hl : (A ++ xs ++ B).length = off + xs.length + B.length := by simp [hA]; omega
 have q := Kd.R_celln 0 h ((off : Int) + i) (by omega) (by omega)
 have e : ((off : Int) + i).toNat = off + i.toNat := by omega
 rw [e] at q
 have r := view_rd (B := B) hA i h0 h1
 refine ⟨?_, q.2⟩
 exact q.1.trans (congrArg (fun z => some (Value.int k z)) r)
theorem view_put {k : IntKind} {e : TypeId} {w : World} {base : Nat} {ok : Nat → Prop} {g N C off : Nat} {A xs B : List Int} (h : Kd.R (Kd.int k) e w base ok (.slice (some ⟨g, 0, none⟩) N C) (A ++ xs ++ B)) (hA : A.length = off) (i : Int) (h0 : 0 ≤ i) (h1 : i < xs.length) (x : Int) :
  Kd.R (Kd.int k) e (w.setCell ⟨g, off + i.toNat, none⟩ (.int k x)) base ok (.slice (some ⟨g, 0, none⟩) N C) (A ++ xs.set i.toNat x ++ B) ∧ w.grownBy (w.setCell ⟨g, off + i.toNat, none⟩ (.int k x)) (some g) := by
 have q := Kd.R_putg h ((off : Int) + i) x
 have e : ((off : Int) + i).toNat = off + i.toNat := by omega
 rw [e] at q
 have r : (A ++ xs ++ B).set (off + i.toNat) x = A ++ xs.set i.toNat x ++ B := by
  rw [List.append_assoc, ← hA, List.set_append_right _ _ (by omega), Nat.add_sub_cancel_left, List.set_append_left _ _ (by omega), List.append_assoc]
 rw [r] at q
 exact q
set_option maxHeartbeats 8000000 in
set_option maxRecDepth 100000 in
theorem nat_number_back.callsAt (w0 : World) (k : Nat) (P0_ : Nat → Prop) (g_ N_ C_ off_ m_ cw_ : Nat) (A_ B_ : List Int) (hA_ : A_.length = off_) (hcw_ : m_ ≤ cw_) (hg_ : w0.heap.size ≤ g_) (l0 : List Int) (A1 : Option Addr) (c1 : Nat) (l1 : List Int) (r : List Int) (w : World) (hB : Below w0.heap.size w0 w) (ho0 : Kd.R (Kd.int .u64) 47 w w0.heap.size P0_ (.slice (some ⟨g_, 0, none⟩) N_ C_) (A_ ++ l0 ++ B_)) (hl0 : l0.length = m_) (hr1 : ∀ W_, Kept w W_ (fun k_ => P0_ k_) → Kd.C (Kd.int .u64) W_ A1 l1.length l1) (hc1 : l1.length ≤ c1) (h : nat_number_back.f k l0 l1 = some r) :
  Calls Try.prog 70 #[.slice (some ⟨g_, off_, none⟩) m_ cw_, .slice A1 l1.length c1] w fun e w' => e = .returned (.tuple #[]) ∧ (Kd.R (Kd.int .u64) 47 w' w0.heap.size (fun k_ => (P0_ k_ ∨ w.heap.size ≤ k_)) (.slice (some ⟨g_, 0, none⟩) N_ C_) (A_ ++ r ++ B_) ∧ r.length = m_) ∧ Below w0.heap.size w0 w' ∧ Kept w w' (fun k_ => P0_ k_) := by
 have HO0 := Aside0.mk (show Kd.R (Kd.int .u64) 47 w w0.heap.size (fun k_ => (P0_ k_ ∨ w.heap.size ≤ k_)) (.slice (some ⟨g_, 0, none⟩) N_ C_) (A_ ++ l0 ++ B_) from Kd.R_mono ho0 (fun k_ hk => (.inl hk)))
 have HR1 := Aside0.mk hr1
 have HC1 := Aside0.mk hc1
 clear hr1 hc1
 have HK := Aside0.mk (Kept.refl w (fun k_ => P0_ k_))
 have HW0 := Aside0.mk hB.size
 have HB := Aside0.mk hB
 clear hB
 have H : (nat_number_back.l0 k l0 l1 0 l1 (l1.length : Int) 0) = some r := h
 clear h
 have H' := Aside0.mk H
 clear H
 go_enter Try.func70, Try.ntmps70
 go_wp2
 go_loopg [4, 9] k (fun kq v4 v9 w' => ∃ (x0_1 : List Int) (x4_1 : Int) (x9_1 : Int), v4 = .int .u64 x4_1 ∧ v9 = .int .i64 x9_1 ∧ Aside0 (nat_number_back.l0 kq x0_1 l1 x4_1 l1 (l1.length : Int) x9_1 = some r) ∧ Aside0 (kq ≤ k) ∧ Aside0 (Kd.R (Kd.int .u64) 47 w' w0.heap.size (fun k_ => (P0_ k_ ∨ w.heap.size ≤ k_)) (.slice (some ⟨g_, 0, none⟩) N_ C_) (A_ ++ x0_1 ++ B_)) ∧ Aside0 (x0_1.length = m_) ∧ Aside0 (Kept w w' (fun k_ => P0_ k_)) ∧ Aside0 (Below w0.heap.size w0 w'))
 case atStart => exact ⟨(l0), (0), (0), (by first | rfl | (simp; done) | (simp [*]; done)), (by first | rfl | (simp; done) | (simp [*]; done)), H', ⟨Nat.le_refl _⟩, ⟨by (with_reducible repeat (first | apply Kd.R_alloc | apply Kd.R_drewN | apply Kd.R_drew)); exact HO0.out⟩, ⟨hl0⟩, ⟨by repeat (first | (with_reducible first | exact HK.out | apply Kept.alloc | apply Kept.drewN | apply Kept.drew) | exact HK.out)⟩, ⟨bq⟩⟩
 case round =>
  clear H'
  try clear c1
  try clear p2
  obtain ⟨x0_1, x4_1, x9_1, rfl, rfl, HA, HK1, HO_0, HL_, HK, HB⟩ := hrel
  cases gk with
  | zero => exact absurd HA.out (by simp [nat_number_back.l0])
  | succ k1 =>
   have H := HA.out
   clear HA
   simp only [nat_number_back.l0] at H
   by_cases c3 : x9_1 < (l1.length : Int)
   ·rw [if_pos c3] at H
    have c3b0 : decide (x9_1 < (l1.length : Int)) = true := decide_eq_true c3
    clear c3
    replace H := dn H
    obtain ⟨c4, H⟩ := H
    have c4b0 : decide (0 ≤ x9_1) = true := decide_eq_true c4
    clear c4
    replace H := dn H
    obtain ⟨c5, H⟩ := H
    have c5b0 : decide (x9_1 < (l1.length : Int)) = true := decide_eq_true c5
    clear c5
    replace H := dn H
    obtain ⟨c6, H⟩ := H
    have c6b0 : decide (x9_1 < (x0_1.length : Int)) = true := decide_eq_true c6
    have c6m0 : decide (x9_1 < (m_ : Int)) = true := by rw [← HL_.out]; exact c6b0
    have c6mq := eq_true (show x9_1 < (m_ : Int) from of_decide_eq_true c6m0)
    clear c6
    replace H := dn H
    obtain ⟨c7, H⟩ := H
    have c7b0 := eq_true c7
    have c7b1 : decide (x4_1 ≤ 1) = true := decide_eq_true c7
    clear c7
    obtain ⟨y284, hy284⟩ : ∃ y_ : List Int, y_ = (x0_1.set (x9_1 : Int).toNat (add64s (rd x0_1 x9_1) (rd l1 x9_1) x4_1)) := ⟨_, rfl⟩
    replace H : (nat_number_back.l0 k1 y284 l1 (add64c (rd x0_1 x9_1) (rd l1 x9_1) x4_1) l1 (l1.length : Int) (wrap64 (x9_1 + 1))) = some r := by first | (rw [hy284]; with_reducible exact H) | (have H2_ := (Option.bind_some _ _).symm.trans H; rw [hy284]; with_reducible exact H2_) | (have H2_ := (Option.bind_some _ _).symm.trans H; with_reducible exact H2_) | with_reducible exact H | (rw [hy284]; exact H) | exact H
    have Ny284 := Aside0.mk hy284
    clear hy284
    have H' := Aside0.mk H
    clear H
    have p282 : 0 ≤ (x9_1 : Int) := od
    have q282 : x9_1 < (l1.length : Int) := od
    obtain ⟨ad282, e282, hx282_0⟩ := Kd.at_int (Kd.C_kept_now HR1.out HK.out) x9_1 p282 q282
    cases e282
    replace p282 := eq_true p282
    replace q282 := eq_true q282
    have p283 : 0 ≤ (x9_1 : Int) := od
    have q283 : x9_1 < (x0_1.length : Int) := od
    have hx283_0 := (view_cell HO_0.out hA_ x9_1 p283 q283).1
    replace p283 := eq_true p283
    replace q283 := eq_true q283
    have p8 : 0 ≤ (x9_1 : Int) := od
    have q8 : (x9_1 : Int) < ((x0_1.length : Int) : Int) := od
    obtain ⟨hx8_0, hf8_0⟩ := view_cell HO_0.out hA_ (x9_1 : Int) p8 q8
    replace p8 := eq_true p8
    replace q8 := eq_true q8
    have HP10 := view_put HO_0.out hA_ (x9_1 : Int) (by first | exact of_eq_true (by assumption) | omega) (by first | exact of_eq_true (by assumption) | omega) (add64s (rd x0_1 x9_1) (rd l1 x9_1) x4_1)
    go_wp2_with (first | ((with_reducible refine gate_store (t := 47) (p := 26) rfl ?_); refine store_event (t := 47) (p := 26) (v := ?vo_w11) (w1 := (wr.setCell ⟨g_, off_ + (x9_1 : Int).toNat, none⟩ (.int .u64 (add64s (rd x0_1 x9_1) (rd l1 x9_1) x4_1)))) ?hg ?ho ?hn ?hr ?_; (case ho => rfl); (case hg => rfl); (case hn => rfl); (case hr => first | (go_simp; done) | (go_simp; rfl)); intro w11 hw; have hg : wr.grownBy w11 (some g_) := (by rw [hw]; exact HP10.2); have hp_ : Kd.R (Kd.int .u64) 47 w11 w0.heap.size (fun k_ => (P0_ k_ ∨ w.heap.size ≤ k_)) (.slice (some ⟨g_, 0, none⟩) N_ C_) (A_ ++ y284 ++ B_) := (by rw [hw, Ny284.out]; exact HP10.1); clear HP10; have n0_ := Aside0.mk (hp_); have n1_ := Aside0.mk ((by rw [hw]; exact below_set (HB.out) hg_ : Below w0.heap.size w0 w11)); have n2_ := Aside0.mk (Kept.of_grown (S := (fun k_ => P0_ k_)) hg (by repeat (first | (with_reducible first | exact HK.out | apply Kept.alloc | apply Kept.drewN | apply Kept.drew) | exact HK.out)) (fun k_ e_ => (HO_0.out.1 k_ e_))); have n9_ : Aside0 (y284.length = m_) := ⟨by first | (rw [Ny284.out, List.length_set]; exact HL_.out)⟩; clear HL_; clear HO_0; clear HB; clear HK; have HL_ := n9_; have HO_0 := n0_; have HB := n1_; have HK := n2_; clear n0_ n1_ n2_ n9_; clear hg hw hp_))
    go_roundg k1
    case measure => have := HK1.out; omega
    case rel => exact ⟨(y284), (add64c (rd x0_1 x9_1) (rd l1 x9_1) x4_1), (wrap64 (x9_1 + 1)), (by first | rfl | (simp; done) | (simp [*]; done)), (by first | rfl | (simp; done) | (simp [*]; done)), H', ⟨by have := HK1.out; omega⟩, ⟨by (with_reducible repeat (first | apply Kd.R_alloc | apply Kd.R_drewN | apply Kd.R_drew)); exact HO_0.out⟩, HL_, ⟨by repeat (first | (with_reducible first | exact HK.out | apply Kept.alloc | apply Kept.drewN | apply Kept.drew) | exact HK.out)⟩, ⟨bq⟩⟩
   ·rw [if_neg c3] at H
    have c3b0 : decide (x9_1 < (l1.length : Int)) = false := decide_eq_false c3
    clear c3
    replace H := dn H
    obtain ⟨c12, H⟩ := H
    have c12b0 : decide (0 ≤ (l1.length : Int)) = true := decide_eq_true c12
    have c12b1 : decide (0 ≤ l1.length) = true := decide_eq_true (by omega)
    clear c12
    replace H := dn H
    obtain ⟨c13, H⟩ := H
    have c13b0 : decide ((l1.length : Int) < (x0_1.length : Int)) = true := decide_eq_true c13
    have c13m0 : decide ((l1.length : Int) < (m_ : Int)) = true := by rw [← HL_.out]; exact c13b0
    have c13mq := eq_true (show (l1.length : Int) < (m_ : Int) from of_decide_eq_true c13m0)
    have c13b1 : decide (l1.length < x0_1.length) = true := decide_eq_true (Int.ofNat_lt.mp c13)
    have c13m1 : decide (l1.length < m_) = true := by rw [← HL_.out]; exact c13b1
    clear c13
    obtain ⟨y286, hy286⟩ : ∃ y_ : List Int, y_ = (x0_1.set ((l1.length : Int) : Int).toNat (IntKind.u64.wrap ((rd x0_1 (l1.length : Int)) + x4_1))) := ⟨_, rfl⟩
    replace H : (some y286) = some r := by first | (rw [hy286]; with_reducible exact H) | (have H2_ := (Option.bind_some _ _).symm.trans H; rw [hy286]; with_reducible exact H2_) | (have H2_ := (Option.bind_some _ _).symm.trans H; with_reducible exact H2_) | with_reducible exact H | (rw [hy286]; exact H) | exact H
    have Ny286 := Aside0.mk hy286
    clear hy286
    obtain rfl := Option.some.inj H
    have p285 : 0 ≤ ((l1.length : Int) : Int) := od
    have q285 : (l1.length : Int) < (x0_1.length : Int) := od
    have hx285_0 := (view_cell HO_0.out hA_ (l1.length : Int) p285 q285).1
    (try simp only [Go.IntWalk.toNatUp] at hx285_0)
    replace p285 := eq_true p285
    replace q285 := eq_true q285
    have p14 : 0 ≤ ((l1.length : Int) : Int) := od
    have q14 : ((l1.length : Int) : Int) < ((x0_1.length : Int) : Int) := od
    obtain ⟨hx14_0, hf14_0⟩ := view_cell HO_0.out hA_ ((l1.length : Int) : Int) p14 q14
    (try simp only [Int.toNat_natCast] at hx14_0 hf14_0)
    replace p14 := eq_true p14
    replace q14 := eq_true q14
    have HP16 := view_put HO_0.out hA_ ((l1.length : Int) : Int) (by first | exact of_eq_true (by assumption) | omega) (by first | exact of_eq_true (by assumption) | omega) (IntKind.u64.wrap ((rd x0_1 (l1.length : Int)) + x4_1))
    go_wp2_with (first | ((with_reducible refine gate_store (t := 47) (p := 35) rfl ?_); refine store_event (t := 47) (p := 35) (v := ?vo_w17) (w1 := (wr.setCell ⟨g_, off_ + ((l1.length : Int) : Int).toNat, none⟩ (.int .u64 (IntKind.u64.wrap ((rd x0_1 (l1.length : Int)) + x4_1))))) ?hg ?ho ?hn ?hr ?_; (case ho => rfl); (case hg => rfl); (case hn => rfl); (case hr => first | (go_simp; done) | (go_simp; rfl)); intro w17 hw; have hg : wr.grownBy w17 (some g_) := (by rw [hw]; exact HP16.2); have hp_ : Kd.R (Kd.int .u64) 47 w17 w0.heap.size (fun k_ => (P0_ k_ ∨ w.heap.size ≤ k_)) (.slice (some ⟨g_, 0, none⟩) N_ C_) (A_ ++ y286 ++ B_) := (by rw [hw, Ny286.out]; exact HP16.1); clear HP16; have n0_ := Aside0.mk (hp_); have n1_ := Aside0.mk ((by rw [hw]; exact below_set (HB.out) hg_ : Below w0.heap.size w0 w17)); have n2_ := Aside0.mk (Kept.of_grown (S := (fun k_ => P0_ k_)) hg (by repeat (first | (with_reducible first | exact HK.out | apply Kept.alloc | apply Kept.drewN | apply Kept.drew) | exact HK.out)) (fun k_ e_ => (HO_0.out.1 k_ e_))); have n9_ : Aside0 (y286.length = m_) := ⟨by first | (rw [Ny286.out, List.length_set]; exact HL_.out)⟩; clear HL_; clear HO_0; clear HB; clear HK; have HL_ := n9_; have HO_0 := n0_; have HB := n1_; have HK := n2_; clear n0_ n1_ n2_ n9_; clear hg hw hp_))
    first | go_end0 | ((try simp only [Exit.inBlock, Exit.then]); refine bodyPost_ret (results_none rfl _ _ _) rfl ?_)
    exact ⟨er, ⟨by first | ((with_reducible repeat (first | apply Kd.R_alloc | apply Kd.R_drewN | apply Kd.R_drew)); exact HO_0.out) | (simpa [List.append_assoc] using HO_0.out), HL_.out⟩, bq, by repeat (first | (with_reducible first | exact HK.out | apply Kept.alloc | apply Kept.drewN | apply Kept.drew) | exact HK.out)⟩
set_option maxHeartbeats 8000000 in
set_option maxRecDepth 100000 in
theorem nat_number_less.callsAt (w0 : World) (k : Nat) (P0_ : Nat → Prop) (g_ N_ C_ off_ m_ cw_ : Nat) (A_ B_ : List Int) (hA_ : A_.length = off_) (hcw_ : m_ ≤ cw_) (hg_ : w0.heap.size ≤ g_) (l0 : List Int) (A1 : Option Addr) (c1 : Nat) (l1 : List Int) (a2 : Int) (r1 : Bool) (r2 : List Int) (w : World) (hB : Below w0.heap.size w0 w) (ho0 : Kd.R (Kd.int .u64) 47 w w0.heap.size P0_ (.slice (some ⟨g_, 0, none⟩) N_ C_) (A_ ++ l0 ++ B_)) (hl0 : l0.length = m_) (hr1 : ∀ W_, Kept w W_ (fun k_ => P0_ k_) → Kd.C (Kd.int .u64) W_ A1 l1.length l1) (hc1 : l1.length ≤ c1) (h : nat_number_less.f k l0 l1 a2 = some (r1, r2)) :
  Calls Try.prog 69 #[.slice (some ⟨g_, off_, none⟩) m_ cw_, .slice A1 l1.length c1, .int .u64 a2] w fun e w' => e = .returned (.bool r1) ∧ (Kd.R (Kd.int .u64) 47 w' w0.heap.size (fun k_ => (P0_ k_ ∨ w.heap.size ≤ k_)) (.slice (some ⟨g_, 0, none⟩) N_ C_) (A_ ++ r2 ++ B_) ∧ r2.length = m_) ∧ Below w0.heap.size w0 w' ∧ Kept w w' (fun k_ => P0_ k_) := by
 have HO0 := Aside0.mk (show Kd.R (Kd.int .u64) 47 w w0.heap.size (fun k_ => (P0_ k_ ∨ w.heap.size ≤ k_)) (.slice (some ⟨g_, 0, none⟩) N_ C_) (A_ ++ l0 ++ B_) from Kd.R_mono ho0 (fun k_ hk => (.inl hk)))
 have HR1 := Aside0.mk hr1
 have HC1 := Aside0.mk hc1
 clear hr1 hc1
 have HK := Aside0.mk (Kept.refl w (fun k_ => P0_ k_))
 have HW0 := Aside0.mk hB.size
 have HB := Aside0.mk hB
 clear hB
 have H : (nat_number_less.l0 k l0 l1 a2 0 0 l1 (l1.length : Int) 0) = some (r1, r2) := h
 clear h
 have H' := Aside0.mk H
 clear H
 go_enter Try.func69, Try.ntmps69
 go_wp2
 go_loopg [7, 8, 16] k (fun kq v7 v8 v16 w' => ∃ (x0_1 : List Int) (x7_1 : Int) (x8_1 : Int) (x16_1 : Int), v7 = .int .u64 x7_1 ∧ v8 = .int .u64 x8_1 ∧ v16 = .int .i64 x16_1 ∧ Aside0 (nat_number_less.l0 kq x0_1 l1 a2 x7_1 x8_1 l1 (l1.length : Int) x16_1 = some (r1, r2)) ∧ Aside0 (kq ≤ k) ∧ Aside0 (Kd.R (Kd.int .u64) 47 w' w0.heap.size (fun k_ => (P0_ k_ ∨ w.heap.size ≤ k_)) (.slice (some ⟨g_, 0, none⟩) N_ C_) (A_ ++ x0_1 ++ B_)) ∧ Aside0 (x0_1.length = m_) ∧ Aside0 (Kept w w' (fun k_ => P0_ k_)) ∧ Aside0 (Below w0.heap.size w0 w'))
 case atStart => exact ⟨(l0), (0), (0), (0), (by first | rfl | (simp; done) | (simp [*]; done)), (by first | rfl | (simp; done) | (simp [*]; done)), (by first | rfl | (simp; done) | (simp [*]; done)), H', ⟨Nat.le_refl _⟩, ⟨by (with_reducible repeat (first | apply Kd.R_alloc | apply Kd.R_drewN | apply Kd.R_drew)); exact HO0.out⟩, ⟨hl0⟩, ⟨by repeat (first | (with_reducible first | exact HK.out | apply Kept.alloc | apply Kept.drewN | apply Kept.drew) | exact HK.out)⟩, ⟨bq⟩⟩
 case round =>
  clear H'
  try clear c1
  try clear p2
  obtain ⟨x0_1, x7_1, x8_1, x16_1, rfl, rfl, rfl, HA, HK1, HO_0, HL_, HK, HB⟩ := hrel
  cases gk with
  | zero => exact absurd HA.out (by simp [nat_number_less.l0])
  | succ k1 =>
   have H := HA.out
   clear HA
   simp only [nat_number_less.l0] at H
   by_cases c4 : x16_1 < (l1.length : Int)
   ·rw [if_pos c4] at H
    have c4b0 : decide (x16_1 < (l1.length : Int)) = true := decide_eq_true c4
    clear c4
    replace H := dn H
    obtain ⟨c5, H⟩ := H
    have c5b0 : decide (0 ≤ x16_1) = true := decide_eq_true c5
    clear c5
    replace H := dn H
    obtain ⟨c6, H⟩ := H
    have c6b0 : decide (x16_1 < (l1.length : Int)) = true := decide_eq_true c6
    clear c6
    replace H := Option.bind_eq_some_iff.mp H
    obtain ⟨⟨t276, t277⟩, A70, H⟩ := H
    (try dsimp only at H)
    have A7 := Aside0.mk A70
    clear A70
    replace H := dn H
    obtain ⟨c8, H⟩ := H
    have c8b0 : decide (x16_1 < (x0_1.length : Int)) = true := decide_eq_true c8
    have c8m0 : decide (x16_1 < (m_ : Int)) = true := by rw [← HL_.out]; exact c8b0
    have c8mq := eq_true (show x16_1 < (m_ : Int) from of_decide_eq_true c8m0)
    clear c8
    replace H := dn H
    obtain ⟨c9, H⟩ := H
    have c9b0 := eq_true c9
    have c9b1 : decide (x8_1 ≤ 1) = true := decide_eq_true c9
    clear c9
    obtain ⟨y279, hy279⟩ : ∃ y_ : List Int, y_ = (x0_1.set (x16_1 : Int).toNat (sub64s (rd x0_1 x16_1) (add64s t277 x7_1 0) x8_1)) := ⟨_, rfl⟩
    replace H : (nat_number_less.l0 k1 y279 l1 a2 (IntKind.u64.wrap (t276 + (add64c t277 x7_1 0))) (sub64c (rd x0_1 x16_1) (add64s t277 x7_1 0) x8_1) l1 (l1.length : Int) (wrap64 (x16_1 + 1))) = some (r1, r2) := by first | (rw [hy279]; with_reducible exact H) | (have H2_ := (Option.bind_some _ _).symm.trans H; rw [hy279]; with_reducible exact H2_) | (have H2_ := (Option.bind_some _ _).symm.trans H; with_reducible exact H2_) | with_reducible exact H | (rw [hy279]; exact H) | exact H
    have Ny279 := Aside0.mk hy279
    clear hy279
    have H' := Aside0.mk H
    clear H
    have p275 : 0 ≤ (x16_1 : Int) := od
    have q275 : x16_1 < (l1.length : Int) := od
    obtain ⟨ad275, e275, hx275_0⟩ := Kd.at_int (Kd.C_kept_now HR1.out HK.out) x16_1 p275 q275
    cases e275
    replace p275 := eq_true p275
    replace q275 := eq_true q275
    go_wp2_with (first | ((with_reducible refine gate_callee (f := 64) rfl ?_); refine goesL_ (some 24) rfl rfl Try.func64 (by kernel_rfl) rfl #[.int .u64 (rd l1 x16_1), .int .u64 a2] rfl ga ?_; (with_reducible refine (bits_Mul64.calls (rd l1 x16_1) a2 t276 t277 _ A7.out).mono ?_); rintro e w' ⟨rfl, ⟨nd, rfl⟩⟩; refine ⟨_, rfl, ?_⟩; (try (rw [drewN_self wr]; generalize hq_ : World.drewN wr _ = wr; have n0_ : Aside0 (Kd.R (Kd.int .u64) 47 wr w0.heap.size (fun k_ => (P0_ k_ ∨ w.heap.size ≤ k_)) (.slice (some ⟨g_, 0, none⟩) N_ C_) (A_ ++ x0_1 ++ B_)) := ⟨by rw [← hq_]; exact (ru HO_0.out)⟩; have n1_ : Aside0 (Kept w wr (fun k_ => P0_ k_)) := ⟨by rw [← hq_]; exact (by repeat (first | (with_reducible first | exact HK.out | apply Kept.alloc | apply Kept.drewN | apply Kept.drew) | exact HK.out))⟩; have n2_ : Aside0 (Below w0.heap.size w0 wr) := ⟨by rw [← hq_]; exact bq⟩; clear HO_0 HK HB hq_; have HO_0 := n0_; have HK := n1_; have HB := n2_; clear n0_ n1_ n2_)); have p278 : 0 ≤ (x16_1 : Int) := od; have q278 : x16_1 < (x0_1.length : Int) := od; have hx278_0 := (view_cell HO_0.out hA_ x16_1 p278 q278).1; replace p278 := eq_true p278; replace q278 := eq_true q278; have p10 : 0 ≤ (x16_1 : Int) := od; have q10 : (x16_1 : Int) < ((x0_1.length : Int) : Int) := od; obtain ⟨hx10_0, hf10_0⟩ := view_cell HO_0.out hA_ (x16_1 : Int) p10 q10; replace p10 := eq_true p10; replace q10 := eq_true q10; obtain ⟨hy12_, hz12_⟩ := view_cell HO_0.out hA_ (x16_1 : Int) (od) (od); have HP12 := view_put HO_0.out hA_ (x16_1 : Int) (by first | exact of_eq_true (by assumption) | omega) (by first | exact of_eq_true (by assumption) | omega) (sub64s (rd x0_1 x16_1) (add64s t277 x7_1 0) x8_1)) | ((with_reducible refine gate_store (t := 47) (p := 48) rfl ?_); refine store_event (t := 47) (p := 48) (v := ?vo_w13) (w1 := (wr.setCell ⟨g_, off_ + (x16_1 : Int).toNat, none⟩ (.int .u64 (sub64s (rd x0_1 x16_1) (add64s t277 x7_1 0) x8_1)))) ?hg ?ho ?hn ?hr ?_; (case ho => rfl); (case hg => rfl); (case hn => rfl); (case hr => first | (go_simp; done) | (go_simp; rfl)); intro w13 hw; have hg : wr.grownBy w13 (some g_) := (by rw [hw]; exact HP12.2); have hp_ : Kd.R (Kd.int .u64) 47 w13 w0.heap.size (fun k_ => (P0_ k_ ∨ w.heap.size ≤ k_)) (.slice (some ⟨g_, 0, none⟩) N_ C_) (A_ ++ y279 ++ B_) := (by rw [hw, Ny279.out]; exact HP12.1); clear HP12; have n0_ := Aside0.mk (hp_); have n1_ := Aside0.mk ((by rw [hw]; exact below_set (HB.out) hg_ : Below w0.heap.size w0 w13)); have n2_ := Aside0.mk (Kept.of_grown (S := (fun k_ => P0_ k_)) hg (by repeat (first | (with_reducible first | exact HK.out | apply Kept.alloc | apply Kept.drewN | apply Kept.drew) | exact HK.out)) (fun k_ e_ => (HO_0.out.1 k_ e_))); have n9_ : Aside0 (y279.length = m_) := ⟨by first | (rw [Ny279.out, List.length_set]; exact HL_.out)⟩; clear HL_; clear HO_0; clear HB; clear HK; have HL_ := n9_; have HO_0 := n0_; have HB := n1_; have HK := n2_; clear n0_ n1_ n2_ n9_; clear hg hw hp_))
    go_roundg k1
    case measure => have := HK1.out; omega
    case rel => exact ⟨(y279), (IntKind.u64.wrap (t276 + (add64c t277 x7_1 0))), (sub64c (rd x0_1 x16_1) (add64s t277 x7_1 0) x8_1), (wrap64 (x16_1 + 1)), (by first | rfl | (simp; done) | (simp [*]; done)), (by first | rfl | (simp; done) | (simp [*]; done)), (by first | rfl | (simp; done) | (simp [*]; done)), H', ⟨by have := HK1.out; omega⟩, ⟨by (with_reducible repeat (first | apply Kd.R_alloc | apply Kd.R_drewN | apply Kd.R_drew)); exact HO_0.out⟩, HL_, ⟨by repeat (first | (with_reducible first | exact HK.out | apply Kept.alloc | apply Kept.drewN | apply Kept.drew) | exact HK.out)⟩, ⟨bq⟩⟩
   ·rw [if_neg c4] at H
    have c4b0 : decide (x16_1 < (l1.length : Int)) = false := decide_eq_false c4
    clear c4
    replace H := dn H
    obtain ⟨c14, H⟩ := H
    have c14b0 : decide (0 ≤ (l1.length : Int)) = true := decide_eq_true c14
    have c14b1 : decide (0 ≤ l1.length) = true := decide_eq_true (by omega)
    clear c14
    replace H := dn H
    obtain ⟨c15, H⟩ := H
    have c15b0 : decide ((l1.length : Int) < (x0_1.length : Int)) = true := decide_eq_true c15
    have c15m0 : decide ((l1.length : Int) < (m_ : Int)) = true := by rw [← HL_.out]; exact c15b0
    have c15mq := eq_true (show (l1.length : Int) < (m_ : Int) from of_decide_eq_true c15m0)
    have c15b1 : decide (l1.length < x0_1.length) = true := decide_eq_true (Int.ofNat_lt.mp c15)
    have c15m1 : decide (l1.length < m_) = true := by rw [← HL_.out]; exact c15b1
    clear c15
    replace H := dn H
    obtain ⟨c16, H⟩ := H
    have c16b0 := eq_true c16
    have c16b1 : decide (x8_1 ≤ 1) = true := decide_eq_true c16
    clear c16
    obtain ⟨y281, hy281⟩ : ∃ y_ : List Int, y_ = (x0_1.set ((l1.length : Int) : Int).toNat (sub64s (rd x0_1 (l1.length : Int)) x7_1 x8_1)) := ⟨_, rfl⟩
    replace H : (some (decide ((sub64c (rd x0_1 (l1.length : Int)) x7_1 x8_1) > 0), y281)) = some (r1, r2) := by first | (rw [hy281]; with_reducible exact H) | (have H2_ := (Option.bind_some _ _).symm.trans H; rw [hy281]; with_reducible exact H2_) | (have H2_ := (Option.bind_some _ _).symm.trans H; with_reducible exact H2_) | with_reducible exact H | (rw [hy281]; exact H) | exact H
    have Ny281 := Aside0.mk hy281
    clear hy281
    simp only [Option.some.injEq, Prod.mk.injEq] at H
    obtain ⟨rfl, rfl⟩ := H
    have p280 : 0 ≤ ((l1.length : Int) : Int) := od
    have q280 : (l1.length : Int) < (x0_1.length : Int) := od
    have hx280_0 := (view_cell HO_0.out hA_ (l1.length : Int) p280 q280).1
    (try simp only [Go.IntWalk.toNatUp] at hx280_0)
    replace p280 := eq_true p280
    replace q280 := eq_true q280
    have p17 : 0 ≤ ((l1.length : Int) : Int) := od
    have q17 : ((l1.length : Int) : Int) < ((x0_1.length : Int) : Int) := od
    obtain ⟨hx17_0, hf17_0⟩ := view_cell HO_0.out hA_ ((l1.length : Int) : Int) p17 q17
    (try simp only [Int.toNat_natCast] at hx17_0 hf17_0)
    replace p17 := eq_true p17
    replace q17 := eq_true q17
    have HP19 := view_put HO_0.out hA_ ((l1.length : Int) : Int) (by first | exact of_eq_true (by assumption) | omega) (by first | exact of_eq_true (by assumption) | omega) (sub64s (rd x0_1 (l1.length : Int)) x7_1 x8_1)
    go_wp2_with (first | ((with_reducible refine gate_store (t := 47) (p := 64) rfl ?_); refine store_event (t := 47) (p := 64) (v := ?vo_w20) (w1 := (wr.setCell ⟨g_, off_ + ((l1.length : Int) : Int).toNat, none⟩ (.int .u64 (sub64s (rd x0_1 (l1.length : Int)) x7_1 x8_1)))) ?hg ?ho ?hn ?hr ?_; (case ho => rfl); (case hg => rfl); (case hn => rfl); (case hr => first | (go_simp; done) | (go_simp; rfl)); intro w20 hw; have hg : wr.grownBy w20 (some g_) := (by rw [hw]; exact HP19.2); have hp_ : Kd.R (Kd.int .u64) 47 w20 w0.heap.size (fun k_ => (P0_ k_ ∨ w.heap.size ≤ k_)) (.slice (some ⟨g_, 0, none⟩) N_ C_) (A_ ++ y281 ++ B_) := (by rw [hw, Ny281.out]; exact HP19.1); clear HP19; have n0_ := Aside0.mk (hp_); have n1_ := Aside0.mk ((by rw [hw]; exact below_set (HB.out) hg_ : Below w0.heap.size w0 w20)); have n2_ := Aside0.mk (Kept.of_grown (S := (fun k_ => P0_ k_)) hg (by repeat (first | (with_reducible first | exact HK.out | apply Kept.alloc | apply Kept.drewN | apply Kept.drew) | exact HK.out)) (fun k_ e_ => (HO_0.out.1 k_ e_))); have n9_ : Aside0 (y281.length = m_) := ⟨by first | (rw [Ny281.out, List.length_set]; exact HL_.out)⟩; clear HL_; clear HO_0; clear HB; clear HK; have HL_ := n9_; have HO_0 := n0_; have HB := n1_; have HK := n2_; clear n0_ n1_ n2_ n9_; clear hg hw hp_))
    go_ret
    exact ⟨er, ⟨by first | ((with_reducible repeat (first | apply Kd.R_alloc | apply Kd.R_drewN | apply Kd.R_drew)); exact HO_0.out) | (simpa [List.append_assoc] using HO_0.out), HL_.out⟩, bq, by repeat (first | (with_reducible first | exact HK.out | apply Kept.alloc | apply Kept.drewN | apply Kept.drew) | exact HK.out)⟩
/-- A cut xs[L:H] of a slice, as a value. -/
def viewOf : Value → Int → Int → Value
 | .slice A N C, L, H => .slice (if C = L.toNat then A else A.map (·.add (L.toNat * 1))) (H.toNat - L.toNat) (C - L.toNat)
 | v, _, _ => v
theorem view_parts {U : List Int} {L H : Int} (h0 : 0 ≤ L) (h1 : L ≤ H) (h2 : H ≤ (U.length : Int)) : U.take L.toNat ++ (U.take H.toNat).drop L.toNat ++ U.drop H.toNat = U ∧ (U.take L.toNat).length = L.toNat ∧ ((U.take H.toNat).drop L.toNat).length = H.toNat - L.toNat := by
 refine ⟨?_, by rw [List.length_take]; omega, by rw [List.length_drop, List.length_take]; omega⟩
 have e : U.take L.toNat = (U.take H.toNat).take L.toNat := by rw [List.take_take]; congr 1; omega
 rw [e, List.take_append_drop, List.take_append_drop]
theorem view_value {e : TypeId} {w : World} {base : Nat} {ok : Nat → Prop} {v : Value} {U : List Int} {L H : Int} {Aq : Option Addr} {nq cq : Nat} (h : Kd.R (Kd.int .u64) e w base ok v U) (h0 : 0 ≤ L) (h1 : L < H) (h2 : H ≤ (U.length : Int)) (hq : Value.slice Aq nq cq = viewOf v L H) :
  ∃ g N C, v = .slice (some ⟨g, 0, none⟩) N C ∧ base ≤ g ∧ Aq = some ⟨g, L.toNat, none⟩ ∧ nq = H.toNat - L.toNat ∧ H.toNat - L.toNat ≤ cq := by
 obtain ⟨g, cap, he, hb, _, _⟩ := Kd.R_form h (by omega)
 have hc := (Kd.R_reads' (A := some ⟨g, 0, none⟩) (n := U.length) (c := cap) (by rw [← he]; exact h)).2.1
 rw [he] at hq
 simp only [viewOf] at hq
 injection hq with q1 q2 q3
 rw [if_neg (by omega)] at q1
 refine ⟨g, _, _, he, hb, ?_, q2, by omega⟩
 rw [q1, Nat.mul_one]; simp only [Option.map_some, add_plain]
def nat_number_backAt.f (k : Nat) (U : List Int) (L H : Int) (d : List Int) : Option (List Int) := if 0 ≤ L then (if L < H then (if H ≤ (U.length : Int) then ((nat_number_back.f k ((U.take H.toNat).drop L.toNat) d).bind fun r => (some (U.take L.toNat ++ r ++ U.drop H.toNat))) else (none)) else (none)) else (none)
theorem nat_number_backAt.calls {Aq : Option Addr} {nq cq : Nat} (k : Nat) (P0_ : Nat → Prop) (u9000_ : Value) (l0 : List Int) (L H : Int) (A1 : Option Addr) (c1 : Nat) (l1 : List Int) (r : List Int) (w0 w : World) (hq : Value.slice Aq nq cq = viewOf u9000_ L H) (hB : Below w0.heap.size w0 w) (ho0 : Kd.R (Kd.int .u64) 47 w w0.heap.size P0_ u9000_ l0) (hr1 : ∀ W_, Kept w W_ (fun k_ => P0_ k_) → Kd.C (Kd.int .u64) W_ A1 l1.length l1) (hc1 : l1.length ≤ c1) (h : nat_number_backAt.f k l0 L H l1 = some r) :
  Calls Try.prog 70 #[.slice Aq nq cq, .slice A1 l1.length c1] w fun e w' => e = .returned (.tuple #[]) ∧ Kd.R (Kd.int .u64) 47 w' w0.heap.size (fun k_ => (P0_ k_ ∨ w.heap.size ≤ k_)) u9000_ r ∧ Below w0.heap.size w0 w' ∧ Kept w w' (fun k_ => P0_ k_) := by
 unfold nat_number_backAt.f at h
 by_cases h0 : 0 ≤ L
 ·rw [if_pos h0] at h
  by_cases h1 : L < H
  ·rw [if_pos h1] at h
   by_cases h2 : H ≤ (l0.length : Int)
   ·rw [if_pos h2] at h
    obtain ⟨r0, hr0, h⟩ := Option.bind_eq_some_iff.mp h
    obtain rfl := Option.some.inj h
    obtain ⟨p1, p2, p3⟩ := view_parts h0 (Int.le_of_lt h1) h2
    obtain ⟨g, N, C, rfl, hb, rfl, rfl, hc⟩ := view_value ho0 h0 h1 h2 hq
    rw [← p1] at ho0
    refine (nat_number_back.callsAt w0 k P0_ g N C L.toNat (H.toNat - L.toNat) cq (l0.take L.toNat) (l0.drop H.toNat) p2 hc hb _ A1 c1 l1 r0 w hB ho0 p3 hr1 hc1 hr0).mono ?_
    rintro e w' ⟨rfl, ⟨ho, _⟩, hb2, hk⟩
    exact ⟨rfl, ho, hb2, hk⟩
   ·rw [if_neg h2] at h; cases h
  ·rw [if_neg h1] at h; cases h
 ·rw [if_neg h0] at h; cases h
def nat_number_lessAt.f (k : Nat) (U : List Int) (L H : Int) (d : List Int) (n : Int) : Option (Bool × List Int) := if 0 ≤ L then (if L < H then (if H ≤ (U.length : Int) then ((nat_number_less.f k ((U.take H.toNat).drop L.toNat) d n).bind fun r => (some (r.1, U.take L.toNat ++ r.2 ++ U.drop H.toNat))) else (none)) else (none)) else (none)
theorem nat_number_lessAt.calls {Aq : Option Addr} {nq cq : Nat} (k : Nat) (P0_ : Nat → Prop) (u9000_ : Value) (l0 : List Int) (L H : Int) (A1 : Option Addr) (c1 : Nat) (l1 : List Int) (a2 : Int) (r1 : Bool) (r2 : List Int) (w0 w : World) (hq : Value.slice Aq nq cq = viewOf u9000_ L H) (hB : Below w0.heap.size w0 w) (ho0 : Kd.R (Kd.int .u64) 47 w w0.heap.size P0_ u9000_ l0) (hr1 : ∀ W_, Kept w W_ (fun k_ => P0_ k_) → Kd.C (Kd.int .u64) W_ A1 l1.length l1) (hc1 : l1.length ≤ c1) (h : nat_number_lessAt.f k l0 L H l1 a2 = some (r1, r2)) :
  Calls Try.prog 69 #[.slice Aq nq cq, .slice A1 l1.length c1, .int .u64 a2] w fun e w' => e = .returned (.bool r1) ∧ Kd.R (Kd.int .u64) 47 w' w0.heap.size (fun k_ => (P0_ k_ ∨ w.heap.size ≤ k_)) u9000_ r2 ∧ Below w0.heap.size w0 w' ∧ Kept w w' (fun k_ => P0_ k_) := by
 unfold nat_number_lessAt.f at h
 by_cases h0 : 0 ≤ L
 ·rw [if_pos h0] at h
  by_cases h1 : L < H
  ·rw [if_pos h1] at h
   by_cases h2 : H ≤ (l0.length : Int)
   ·rw [if_pos h2] at h
    obtain ⟨⟨s1, s2⟩, hr0, h⟩ := Option.bind_eq_some_iff.mp h
    have h' := Option.some.inj h
    injection h' with e1 e2
    dsimp only at e1 e2
    subst e1 e2
    obtain ⟨p1, p2, p3⟩ := view_parts h0 (Int.le_of_lt h1) h2
    obtain ⟨g, N, C, rfl, hb, rfl, rfl, hc⟩ := view_value ho0 h0 h1 h2 hq
    rw [← p1] at ho0
    refine (nat_number_less.callsAt w0 k P0_ g N C L.toNat (H.toNat - L.toNat) cq (l0.take L.toNat) (l0.drop H.toNat) p2 hc hb _ A1 c1 l1 a2 s1 s2 w hB ho0 p3 hr1 hc1 hr0).mono ?_
    rintro e w' ⟨rfl, ⟨ho, _⟩, hb2, hk⟩
    exact ⟨rfl, ho, hb2, hk⟩
   ·rw [if_neg h2] at h; cases h
  ·rw [if_neg h1] at h; cases h
 ·rw [if_neg h0] at h; cases h
end Go.Proofs.Ytdbhednhhmbooaa.PAll
