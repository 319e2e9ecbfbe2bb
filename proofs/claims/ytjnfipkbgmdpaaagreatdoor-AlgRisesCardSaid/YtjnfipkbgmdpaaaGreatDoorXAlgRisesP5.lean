/- Printed functions. -/
import Derived.Test.YtjnfipkbgmdpaaaGreatDoorXAlgRisesP4
namespace Go.Proofs.YtjnfipkbgmdpaaaGreatDoor.PAll
open RowKit YtjnfipkbgmdpaaaGreatDoorW.PrintWords YtjnfipkbgmdpaaaGreatDoorW.PrintLast YtjnfipkbgmdpaaaGreatDoorW.PrintMore YtjnfipkbgmdpaaaGreatDoorW.PrintWords.Kd
attribute [local go_sem] Z1k Z1l Z1G Z1H Z16 Z17 Z1m Z1n
set_option linter.unusedVariables false
set_option maxHeartbeats 8000000
set_option maxRecDepth 100000
set_option linter.unusedSimpArgs false
attribute [local go_sem] fld77_0 fld77_1 fld77_2 ext153 ext154
def Z08.l0 : Nat → List Int → List Int → Int → Option (Int)
 | 0, _, _, _ => none
 | k + 1, x0, x1, x5 => if x5 ≥ 0 then (if 0 ≤ x5 then (if x5 < (x0.length : Int) then (if x5 < (x1.length : Int) then (if (rd x0 x5) < (rd x1 x5) then (some (-1)) else (if (rd x0 x5) > (rd x1 x5) then (some 1) else (Z08.l0 k x0 x1 (wrap64 (x5 - 1))))) else (none)) else (none)) else (none)) else (some 0)
def Z08.f (k : Nat) (l0 : List Int) (l1 : List Int) : Option (Int) := if (l0.length : Int) = (l1.length : Int) then (Z08.l0 k l0 l1 (wrap64 ((l0.length : Int) - 1))) else (if (l0.length : Int) < (l1.length : Int) then (some (-1)) else (some 1))
theorem Z08.calls (k : Nat) (A0 : Option Addr) (c0 : Nat) (l0 : List Int) (A1 : Option Addr) (c1 : Nat) (l1 : List Int) (r : Int) (w : World) (hr0 : Kd.C Zu w A0 l0.length l0) (hc0 : l0.length ≤ c0) (hr1 : Kd.C Zu w A1 l1.length l1) (hc1 : l1.length ≤ c1) (h : Z08.f k l0 l1 = some r) :
  Calls Tryz.prog 121 #[.slice A0 l0.length c0, .slice A1 l1.length c1] w fun e w' => e = .returned (.int .i64 r) ∧ Drawn0 w w' := by
 have a4 := zA hr0;have aj := zA hc0;clear hr0 hc0;have a5 := zA hr1;have ak := zA hc1;clear hr1 hc1;have H := h
 unfold Z08.f at H
 clear h
 by_cases c3 : (l0.length : Int) = (l1.length : Int)
 ·rw [if_pos c3] at H;have aa := eT c3;have ab := nF c3
  have ac : (l0.length == l1.length) = true := by first | simpa using c3 | (simp at c3 ⊢; omega)
  clear c3;have H' := zA H;clear H;go_enter Tryz.func121, Tryz.ntmps121
  go_wp2
  repeat (go_quiet (fail); try go_wp2)
  go_loopg [5] k (fun kq v5 w' => ∃ (a1 : Int), v5 = .int .i64 a1 ∧ Aside0 (Z08.l0 kq l0 l1 a1 = some r) ∧ Aside0 (kq ≤ k) ∧ Drawn0 w w')
  case atStart => exact ⟨(wrap64 ((l0.length : Int) - 1)), zi, H', zB2, by repeat (first | exact Drawn0.refl _ | apply Drawn0.step)⟩
  case round =>
   clear H';obtain ⟨a1, rfl, HA, HK1, ⟨m1, rfl⟩⟩ := hrel
   cases gk with
   | zero => exact absurd HA.out (by simp [Z08.l0])
   | succ k1 =>
    have H := HA.out;clear HA;simp only [Z08.l0] at H
    by_cases c4 : a1 ≥ 0
    ·rw [if_pos c4] at H;have ad := dT c4;clear c4;replace H := dn H;obtain ⟨c5, H⟩ := H;have ag := dT c5;clear c5;replace H := dn H;obtain ⟨c6, H⟩ := H;have ah := dT c6;clear c6;replace H := dn H;obtain ⟨c7, H⟩ := H;have ai := dT c7;clear c7
     by_cases c8 : (rd l0 a1) < (rd l1 a1)
     ·rw [if_pos c8] at H;have ae := dT c8;clear c8;obtain rfl := zk4 H;have p193 : 0 ≤ (a1 : Int) := od;have q193 : a1 < (l0.length : Int) := od;obtain ⟨ad193, e193, a2⟩ := Kd.Zw a4.out a1 p193 q193;cases e193;replace p193 := eq_true p193;replace q193 := eq_true q193;have p194 : 0 ≤ (a1 : Int) := od;have q194 : a1 < (l1.length : Int) := od;obtain ⟨ad194, e194, a3⟩ := Kd.Zw a5.out a1 p194 q194;cases e194;replace p194 := eq_true p194;replace q194 := eq_true q194
      go_wp2
      repeat (go_quiet (fail); try go_wp2)
      go_ret;exact ⟨by first | rfl | (simp; done) | (simp [*]; done), by repeat (first | exact Drawn0.refl _ | apply Drawn0.step)⟩
     rw [if_neg c8] at H;have ae := dF c8;clear c8
     by_cases c9 : (rd l0 a1) > (rd l1 a1)
     ·rw [if_pos c9] at H;have af := dT c9;clear c9;obtain rfl := zk4 H;have p193 : 0 ≤ (a1 : Int) := od;have q193 : a1 < (l0.length : Int) := od;obtain ⟨ad193, e193, a2⟩ := Kd.Zw a4.out a1 p193 q193;cases e193;replace p193 := eq_true p193;replace q193 := eq_true q193;have p194 : 0 ≤ (a1 : Int) := od;have q194 : a1 < (l1.length : Int) := od;obtain ⟨ad194, e194, a3⟩ := Kd.Zw a5.out a1 p194 q194;cases e194;replace p194 := eq_true p194;replace q194 := eq_true q194;have p195 : 0 ≤ (a1 : Int) := od;have q195 : a1 < (l0.length : Int) := od;obtain ⟨ad195, e195, a6⟩ := Kd.Zw a4.out a1 p195 q195;obtain rfl : ad193 = ad195 := (by injection e195);replace p195 := eq_true p195;replace q195 := eq_true q195;have p196 : 0 ≤ (a1 : Int) := od;have q196 : a1 < (l1.length : Int) := od;obtain ⟨ad196, e196, a7⟩ := Kd.Zw a5.out a1 p196 q196;obtain rfl : ad194 = ad196 := (by injection e196);replace p196 := eq_true p196;replace q196 := eq_true q196
      go_wp2
      repeat (go_quiet (fail); try go_wp2)
      go_ret;exact ⟨by first | rfl | (simp; done) | (simp [*]; done), by repeat (first | exact Drawn0.refl _ | apply Drawn0.step)⟩
     rw [if_neg c9] at H;have af := dF c9;clear c9;have H' := zA H;clear H;have p193 : 0 ≤ (a1 : Int) := od;have q193 : a1 < (l0.length : Int) := od;obtain ⟨ad193, e193, a2⟩ := Kd.Zw a4.out a1 p193 q193;cases e193;replace p193 := eq_true p193;replace q193 := eq_true q193;have p194 : 0 ≤ (a1 : Int) := od;have q194 : a1 < (l1.length : Int) := od;obtain ⟨ad194, e194, a3⟩ := Kd.Zw a5.out a1 p194 q194;cases e194;replace p194 := eq_true p194;replace q194 := eq_true q194;have p195 : 0 ≤ (a1 : Int) := od;have q195 : a1 < (l0.length : Int) := od;obtain ⟨ad195, e195, a6⟩ := Kd.Zw a4.out a1 p195 q195;obtain rfl : ad193 = ad195 := (by injection e195);replace p195 := eq_true p195;replace q195 := eq_true q195;have p196 : 0 ≤ (a1 : Int) := od;have q196 : a1 < (l1.length : Int) := od;obtain ⟨ad196, e196, a7⟩ := Kd.Zw a5.out a1 p196 q196;obtain rfl : ad194 = ad196 := (by injection e196);replace p196 := eq_true p196;replace q196 := eq_true q196
     go_wp2
     repeat (go_quiet (fail); try go_wp2)
     go_roundg k1
     case measure => have := HK1.out; omega
     case rel => exact ⟨(wrap64 (a1 - 1)), zi, H', zB1, by repeat (first | exact Drawn0.refl _ | apply Drawn0.step)⟩
    rw [if_neg c4] at H;have ad := dF c4;clear c4;obtain rfl := zk4 H
    go_wp2
    repeat (go_quiet (fail); try go_wp2)
    go_ret;exact ⟨by first | rfl | (simp; done) | (simp [*]; done), by repeat (first | exact Drawn0.refl _ | apply Drawn0.step)⟩
 rw [if_neg c3] at H;have aa := eF c3;have ab := nT c3
 have ac : (l0.length == l1.length) = false := by first | simpa using c3 | (simp at c3 ⊢; omega)
 by_cases c10 : (l0.length : Int) < (l1.length : Int)
 ·rw [if_pos c10] at H;have a8 := dT c10;have a9 : decide (l0.length < l1.length) = true := dT (Int.ofNat_lt.mp c10);clear c10;obtain rfl := zk4 H;go_enter Tryz.func121, Tryz.ntmps121
  go_wp2
  repeat (go_quiet (fail); try go_wp2)
  go_ret;exact ⟨by first | rfl | (simp; done) | (simp [*]; done), by repeat (first | exact Drawn0.refl _ | apply Drawn0.step)⟩
 rw [if_neg c10] at H;have a8 := dF c10;have a9 : decide (l0.length < l1.length) = false := dF (fun h => c10 (Int.ofNat_lt.mpr h));clear c10;obtain rfl := zk4 H;go_enter Tryz.func121, Tryz.ntmps121
 go_wp2
 repeat (go_quiet (fail); try go_wp2)
 go_ret;exact ⟨by first | rfl | (simp; done) | (simp [*]; done), by repeat (first | exact Drawn0.refl _ | apply Drawn0.step)⟩
def Z0F.f (k : Nat) (a0 : Int) : Option (Int) := (Z1c.f k a0).bind fun a1 => (some (wrap64 (64 - a1)))
theorem Z0F.calls (k : Nat) (a0 : Int) (r : Int) (w : World) (h : Z0F.f k a0 = some r) :
  Calls Tryz.prog 123 #[.int .u64 a0] w fun e w' => e = .returned (.int .i64 r) ∧ Drawn0 w w' := by
 have H := h
 unfold Z0F.f at H
 clear h;obtain ⟨a1, A2, H⟩ := zh H;obtain rfl := zk4 H;go_enter Tryz.func123, Tryz.ntmps123
 go_wp2_with (first | ((with_reducible refine zG 120 rfl ?_); refine zC (some 4) Tryz.func120 (Z1c.calls k a0 a1 _ A2.out) ?_; rintro e w' ⟨rfl, ⟨nd, rfl⟩⟩; refine ⟨_, rfl, ?_⟩))
 go_ret;exact ⟨by first | rfl | (simp; done) | (simp [*]; done), by repeat (first | exact Drawn0.refl _ | apply Drawn0.step)⟩
mutual
def ZA.j2 : Nat → Int → Int → Int → Int → Int → Int → Int → Int → Option (Int × Int)
 | 0, _, _, _, _, _, _, _, _ => none
 | k + 1, x2, x8, x9, x10, x11, x13, x14, x15 => if x9 = 0 then (none) else (ZA.l1 k x2 x8 x9 x10 x14 x15 (IntKind.u64.wrap ((IntKind.u64.wrap ((IntKind.u64.wrap ((IntKind.u64.wrap (x11 * 4294967296)) + x13)) - (IntKind.u64.wrap (x15 * x2)))) - (IntKind.u64.wrap ((IntKind.u64.wrap (Int.tdiv (IntKind.u64.wrap ((IntKind.u64.wrap ((IntKind.u64.wrap (x11 * 4294967296)) + x13)) - (IntKind.u64.wrap (x15 * x2)))) x9)) * x9)))) (IntKind.u64.wrap ((IntKind.u64.wrap ((IntKind.u64.wrap (x11 * 4294967296)) + x13)) - (IntKind.u64.wrap (x15 * x2)))) (IntKind.u64.wrap (Int.tdiv (IntKind.u64.wrap ((IntKind.u64.wrap ((IntKind.u64.wrap (x11 * 4294967296)) + x13)) - (IntKind.u64.wrap (x15 * x2)))) x9)))
def ZA.l1 : Nat → Int → Int → Int → Int → Int → Int → Int → Int → Int → Option (Int × Int)
 | 0, _, _, _, _, _, _, _, _, _ => none
 | k + 1, x2, x8, x9, x10, x14, x15, x16, x17, x18 => if x18 ≥ 4294967296 then (ZA.j4 k x2 x8 x9 x10 x14 x15 x16 x17 x18 true) else (ZA.j4 k x2 x8 x9 x10 x14 x15 x16 x17 x18 (decide ((IntKind.u64.wrap (x18 * x10)) > (IntKind.u64.wrap ((IntKind.u64.wrap (4294967296 * x16)) + x14)))))
def ZA.j4 : Nat → Int → Int → Int → Int → Int → Int → Int → Int → Int → Bool → Option (Int × Int)
 | 0, _, _, _, _, _, _, _, _, _, _ => none
 | k + 1, x2, x8, x9, x10, x14, x15, x16, x17, x18, a1 => if a1 = true then (if (IntKind.u64.wrap (x16 + x9)) ≥ 4294967296 then (if 0 ≤ x8 then (some (IntKind.u64.wrap ((IntKind.u64.wrap (x15 * 4294967296)) + (IntKind.u64.wrap (x18 - 1))), shr .u64 (IntKind.u64.wrap ((IntKind.u64.wrap ((IntKind.u64.wrap (x17 * 4294967296)) + x14)) - (IntKind.u64.wrap ((IntKind.u64.wrap (x18 - 1)) * x2)))) x8)) else (none)) else (ZA.l1 k x2 x8 x9 x10 x14 x15 (IntKind.u64.wrap (x16 + x9)) x17 (IntKind.u64.wrap (x18 - 1)))) else (if 0 ≤ x8 then (some (IntKind.u64.wrap ((IntKind.u64.wrap (x15 * 4294967296)) + x18), shr .u64 (IntKind.u64.wrap ((IntKind.u64.wrap ((IntKind.u64.wrap (x17 * 4294967296)) + x14)) - (IntKind.u64.wrap (x18 * x2)))) x8)) else (none))
def ZA.l0 : Nat → Int → Int → Int → Int → Int → Int → Int → Int → Int → Option (Int × Int)
 | 0, _, _, _, _, _, _, _, _, _ => none
 | k + 1, x2, x8, x9, x10, x11, x13, x14, x15, x16 => if x15 ≥ 4294967296 then (ZA.j1 k x2 x8 x9 x10 x11 x13 x14 x15 x16 true) else (ZA.j1 k x2 x8 x9 x10 x11 x13 x14 x15 x16 (decide ((IntKind.u64.wrap (x15 * x10)) > (IntKind.u64.wrap ((IntKind.u64.wrap (4294967296 * x16)) + x13)))))
def ZA.j1 : Nat → Int → Int → Int → Int → Int → Int → Int → Int → Int → Bool → Option (Int × Int)
 | 0, _, _, _, _, _, _, _, _, _, _ => none
 | k + 1, x2, x8, x9, x10, x11, x13, x14, x15, x16, x78 => if x78 = true then (if (IntKind.u64.wrap (x16 + x9)) ≥ 4294967296 then (ZA.j2 k x2 x8 x9 x10 x11 x13 x14 (IntKind.u64.wrap (x15 - 1))) else (ZA.l0 k x2 x8 x9 x10 x11 x13 x14 (IntKind.u64.wrap (x15 - 1)) (IntKind.u64.wrap (x16 + x9)))) else (ZA.j2 k x2 x8 x9 x10 x11 x13 x14 x15)
end
def ZA.f (k : Nat) (a0 : Int) (a1 : Int) (a2 : Int) : Option (Int × Int) := if a2 = 0 then (none) else (if a2 ≤ a0 then (none) else (if a0 = 0 then (some (IntKind.u64.wrap (Int.tdiv a1 a2), Int.tmod a1 a2)) else ((Z0F.f k a2).bind fun a3 => (if 0 ≤ (IntKind.u64.wrap (a3)) then (if 0 ≤ (IntKind.u64.wrap (64 - (IntKind.u64.wrap (a3)))) then (if ((shl .u64 a2 (IntKind.u64.wrap (a3))) / 4294967296) = 0 then (none) else (ZA.l0 k (shl .u64 a2 (IntKind.u64.wrap (a3))) (IntKind.u64.wrap (a3)) ((shl .u64 a2 (IntKind.u64.wrap (a3))) / 4294967296) (Go.bits .and .u64 (shl .u64 a2 (IntKind.u64.wrap (a3))) 4294967295) (Go.bits .or .u64 (shl .u64 a0 (IntKind.u64.wrap (a3))) (shr .u64 a1 (IntKind.u64.wrap (64 - (IntKind.u64.wrap (a3)))))) ((shl .u64 a1 (IntKind.u64.wrap (a3))) / 4294967296) (Go.bits .and .u64 (shl .u64 a1 (IntKind.u64.wrap (a3))) 4294967295) (IntKind.u64.wrap (Int.tdiv (Go.bits .or .u64 (shl .u64 a0 (IntKind.u64.wrap (a3))) (shr .u64 a1 (IntKind.u64.wrap (64 - (IntKind.u64.wrap (a3)))))) ((shl .u64 a2 (IntKind.u64.wrap (a3))) / 4294967296))) (IntKind.u64.wrap ((Go.bits .or .u64 (shl .u64 a0 (IntKind.u64.wrap (a3))) (shr .u64 a1 (IntKind.u64.wrap (64 - (IntKind.u64.wrap (a3)))))) - (IntKind.u64.wrap ((IntKind.u64.wrap (Int.tdiv (Go.bits .or .u64 (shl .u64 a0 (IntKind.u64.wrap (a3))) (shr .u64 a1 (IntKind.u64.wrap (64 - (IntKind.u64.wrap (a3)))))) ((shl .u64 a2 (IntKind.u64.wrap (a3))) / 4294967296))) * ((shl .u64 a2 (IntKind.u64.wrap (a3))) / 4294967296))))))) else (none)) else (none)))))
theorem ZA.calls (k : Nat) (a0 : Int) (a1 : Int) (a2 : Int) (r1 : Int) (r2 : Int) (w : World) (h : ZA.f k a0 a1 a2 = some (r1, r2)) :
  Calls Tryz.prog 155 #[.int .u64 a0, .int .u64 a1, .int .u64 a2] w fun e w' => e = .returned (.tuple #[.int .u64 r1, .int .u64 r2]) ∧ Drawn0 w w' := by
 have H := h
 unfold ZA.f at H
 clear h
 by_cases c4 : a2 = 0
 ·rw [if_pos c4] at H;exact absurd H (by simp)
 rw [if_neg c4] at H;have aV := eF c4;have aW := nT c4
 by_cases c5 : a2 ≤ a0
 ·rw [if_pos c5] at H;exact absurd H (by simp)
 rw [if_neg c5] at H;have aX := dF c5;clear c5
 by_cases c6 : a0 = 0
 ·rw [if_pos c6] at H;have aF := eT c6;have aG := nF c6;clear c6;simp only [zk3, zk5] at H;obtain ⟨rfl, rfl⟩ := H;go_enter Tryz.func155, Tryz.ntmps155
  go_wp2
  repeat (go_quiet (fail); try go_wp2)
  go_ret2
  exact ⟨by first | rfl | (simp; done) | (simp [*]; done), by repeat (first | exact Drawn0.refl _ | apply Drawn0.step)⟩
 rw [if_neg c6] at H;have aF := eF c6;have aG := nT c6;obtain ⟨al, A7, H⟩ := zh H;generalize ac : IntKind.u64.wrap (al) = ab at H;(try rw [ac] at A7);replace H := dn H;obtain ⟨c9, H⟩ := H;have aY := eq_true c9;have az := dT c9;clear c9;generalize a4 : shl .u64 a2 (ab) = a3 at H;(try rw [a4] at A7);have hji10_ : (IntKind.u64.wrap (a2 * 2 ^ min (ab).toNat 64)) = a3 := a4;have hji10z : (ab) ≤ 64 → (IntKind.u64.wrap (a2 * 2 ^ (ab).toNat)) = a3 := Z2m a4;have aJ := eq_true (od : 0 ≤ (ab));generalize a5 : shl .u64 a0 (ab) = ad at H;(try rw [a5] at A7);have hji12_ : (IntKind.u64.wrap (a0 * 2 ^ min (ab).toNat 64)) = ad := a5;have hji12z : (ab) ≤ 64 → (IntKind.u64.wrap (a0 * 2 ^ (ab).toNat)) = ad := Z2m a5;generalize aa : IntKind.u64.wrap (64 - (ab)) = am at H;(try rw [aa] at A7);replace H := dn H;obtain ⟨c14, H⟩ := H;have aK := eq_true c14;have aL := dT c14;clear c14;generalize a6 : shr .u64 a1 (am) = ae at H;(try rw [a6] at A7);have hji15_ : (a1 / 2 ^ min (am).toNat 64) = ae := a6;have hji15z : (am) ≤ 64 → (a1 / 2 ^ (am).toNat) = ae := Z2n a6;have aM := eq_true (od : 0 ≤ (ab));generalize a7 : shl .u64 a1 (ab) = a8 at H;(try rw [a7] at A7);have hji17_ : (IntKind.u64.wrap (a1 * 2 ^ min (ab).toNat 64)) = a8 := a7;have hji17z : (ab) ≤ 64 → (IntKind.u64.wrap (a1 * 2 ^ (ab).toNat)) = a8 := Z2m a7
 by_cases c18 : ((a3) / 4294967296) = 0
 ·rw [if_pos c18] at H;exact absurd H (by simp)
 rw [if_neg c18] at H;have aN := eF c18;have aO := nT c18;have av := zA H;clear H;go_enter Tryz.func155, Tryz.ntmps155
 go_upto_block 0 with (first | (go_at_call 123; (with_reducible refine (Z0F.calls k a2 al _ A7.out).mono ?_); rintro e w' ⟨rfl, ⟨nd, rfl⟩⟩; (try first | exact ⟨rfl, _, World.drewN_drewN _ _ _⟩ | exact ⟨rfl, _, Eq.trans (World.drewN_drewN _ _ _) (congrArg (World.drewN _) (Nat.add_assoc _ _ _))⟩)))
 repeat (go_quiet (first | (go_at_call 123; (with_reducible refine (Z0F.calls k a2 al _ A7.out).mono ?_); rintro e w' ⟨rfl, ⟨nd, rfl⟩⟩; (try first | exact ⟨rfl, _, World.drewN_drewN _ _ _⟩ | exact ⟨rfl, _, Eq.trans (World.drewN_drewN _ _ _) (congrArg (World.drewN _) (Nat.add_assoc _ _ _))⟩))); go_upto_block 0 with (first | (go_at_call 123; (with_reducible refine (Z0F.calls k a2 al _ A7.out).mono ?_); rintro e w' ⟨rfl, ⟨nd, rfl⟩⟩; (try first | exact ⟨rfl, _, World.drewN_drewN _ _ _⟩ | exact ⟨rfl, _, Eq.trans (World.drewN_drewN _ _ _) (congrArg (World.drewN _) (Nat.add_assoc _ _ _))⟩))))
 (try simp only [Act.put, zkm, zkv, zkw])
 go_cut [15] (fun v15 wc => ∃ (kq : Nat) (a9 : Int), v15 = .int .u64 a9 ∧ Aside0 (ZA.j2 kq a3 ab ((a3) / 4294967296) (Go.bits .and .u64 (a3) 4294967295) (Go.bits .or .u64 (ad) (ae)) ((a8) / 4294967296) (Go.bits .and .u64 (a8) 4294967295) a9 = some (r1, r2)) ∧ Aside0 (kq ≤ k) ∧ Drawn0 w wc)
 case first =>
  have H := av.out;clear av;have H' := zA H;clear H
  go_wp2
  repeat (go_quiet (fail); try go_wp2)
  go_loopg [15, 16] k (fun kq v15 v16 w' => ∃ (ag : Int) (ah : Int), v15 = .int .u64 ag ∧ v16 = .int .u64 ah ∧ Aside0 (ZA.l0 kq a3 ab ((a3) / 4294967296) (Go.bits .and .u64 (a3) 4294967295) (Go.bits .or .u64 (ad) (ae)) ((a8) / 4294967296) (Go.bits .and .u64 (a8) 4294967295) ag ah = some (r1, r2)) ∧ Aside0 (kq ≤ k) ∧ Drawn0 w w')
  case atStart => exact ⟨(IntKind.u64.wrap (Int.tdiv (Go.bits .or .u64 (ad) (ae)) ((a3) / 4294967296))), (IntKind.u64.wrap ((Go.bits .or .u64 (ad) (ae)) - (IntKind.u64.wrap ((IntKind.u64.wrap (Int.tdiv (Go.bits .or .u64 (ad) (ae)) ((a3) / 4294967296))) * ((a3) / 4294967296))))), (by first | rfl | (simp; done) | (simp only [← a4, ← a5, ← a6] <;> (first | rfl | simp)) | (simp [*]; done)), (by first | rfl | (simp; done) | (simp only [← a4, ← a5, ← a6] <;> (first | rfl | simp)) | (simp [*]; done)), H', zB2, by repeat (first | exact Drawn0.refl _ | apply Drawn0.step)⟩
  case round =>
   clear H';obtain ⟨ag, ah, rfl, rfl, HA, HK1, ⟨m1, rfl⟩⟩ := hrel
   cases gk with
   | zero => exact absurd HA.out (by simp [ZA.l0])
   | succ k1 =>
    have H := HA.out;clear HA;simp only [ZA.l0] at H;have aw := zA H;clear H
    go_upto_region 17 with (fail)
    repeat (go_quiet (fail); go_upto_region 17 with (fail))
    go_cut [78] (fun v78 wc => ∃ (kq : Nat) (ak : Bool), v78 = .bool ak ∧ Aside0 (ZA.j1 kq a3 ab ((a3) / 4294967296) (Go.bits .and .u64 (a3) 4294967295) (Go.bits .or .u64 (ad) (ae)) ((a8) / 4294967296) (Go.bits .and .u64 (a8) 4294967295) ag ah ak = some (r1, r2)) ∧ Aside0 (kq ≤ k1) ∧ Drawn0 w wc)
    case first =>
     have H := aw.out;clear aw
     by_cases c21 : ag ≥ 4294967296
     ·rw [if_pos c21] at H;have an := dT c21;clear c21;(try rw [an]);have H' := zA H;clear H
      go_wp2
      repeat (go_quiet (fail); try go_wp2)
      go_meet
      case rel => exact ⟨_, (true), zi, (by first | exact H' | (simp only [ac, a4, a5, aa, a6, a7]; exact H') | (simp only [ac, a4, a5, aa, a6, a7] at H' ⊢; exact H')), ⟨by have := HK1.out; first | omega | exact zk6 _⟩, by repeat (first | exact Drawn0.refl _ | apply Drawn0.step)⟩
     rw [if_neg c21] at H;have an := dF c21;clear c21;(try rw [an]);have H' := zA H;clear H
     go_wp2
     repeat (go_quiet (fail); try go_wp2)
     go_meet
     case rel => exact ⟨_, (decide ((IntKind.u64.wrap (ag * (Go.bits .and .u64 (a3) 4294967295))) > (IntKind.u64.wrap ((IntKind.u64.wrap (4294967296 * ah)) + ((a8) / 4294967296))))), (by first | rfl | (simp; done) | (simp only [← a4, ← a7] <;> (first | rfl | simp)) | (simp [*]; done)), (by first | exact H' | (simp only [ac, a4, a5, aa, a6, a7]; exact H') | (simp only [ac, a4, a5, aa, a6, a7] at H' ⊢; exact H')), ⟨by have := HK1.out; first | omega | exact zk6 _⟩, by repeat (first | exact Drawn0.refl _ | apply Drawn0.step)⟩
    case rest =>
     clear aw;obtain ⟨kq, ak, rfl, HA, ao, ⟨mc19, rfl⟩⟩ := hcut
     cases kq with
     | zero => exact absurd HA.out (by simp [ZA.j1])
     | succ aH =>
      have H := HA.out;clear HA;simp only [ZA.j1] at H
      by_cases c22 : ak = true
      ·subst c22;rw [if_pos rfl] at H
       by_cases c23 : (IntKind.u64.wrap (ah + ((a3) / 4294967296))) ≥ 4294967296
       ·rw [if_pos c23] at H;have aD : decide (4294967296 ≤ (IntKind.u64.wrap (ah + ((a3) / 4294967296)))) = true := dT c23;clear c23;have H' := zA H;clear H
        go_wp2
        repeat (go_quiet (fail); try go_wp2)
        go_meet
        case rel => exact ⟨_, (IntKind.u64.wrap (ag - 1)), zi, (by first | exact H' | (simp only [ac, a4, a5, aa, a6, a7]; exact H') | (simp only [ac, a4, a5, aa, a6, a7] at H' ⊢; exact H')), ⟨by have := HK1.out; have := ao.out; first | omega | exact zk6 _⟩, by repeat (first | exact Drawn0.refl _ | apply Drawn0.step)⟩
       rw [if_neg c23] at H;have aD : decide (4294967296 ≤ (IntKind.u64.wrap (ah + ((a3) / 4294967296)))) = false := dF c23;clear c23;have H' := zA H;clear H
       go_wp2
       repeat (go_quiet (fail); try go_wp2)
       go_roundg aH
       case measure => have := HK1.out; have := ao.out; omega
       case rel => exact ⟨(IntKind.u64.wrap (ag - 1)), (IntKind.u64.wrap (ah + ((a3) / 4294967296))), zi, (by first | rfl | (simp; done) | (simp only [← a4] <;> (first | rfl | simp)) | (simp [*]; done)), (by first | exact H' | (simp only [ac, a4, a5, aa, a6, a7]; exact H') | (simp only [ac, a4, a5, aa, a6, a7] at H' ⊢; exact H')), ⟨by have := HK1.out; have := ao.out; omega⟩, by repeat (first | exact Drawn0.refl _ | apply Drawn0.step)⟩
      replace c22 := Bool.eq_false_iff.mpr c22;subst c22;rw [if_neg (show ¬ (false = true) by decide)] at H;have H' := zA H;clear H
      go_wp2
      repeat (go_quiet (fail); try go_wp2)
      go_meet
      case rel => exact ⟨_, (ag), zi, (by first | exact H' | (simp only [ac, a4, a5, aa, a6, a7]; exact H') | (simp only [ac, a4, a5, aa, a6, a7] at H' ⊢; exact H')), ⟨by have := HK1.out; have := ao.out; first | omega | exact zk6 _⟩, by repeat (first | exact Drawn0.refl _ | apply Drawn0.step)⟩
 case rest =>
  clear av;obtain ⟨kq, a9, rfl, HA, ap, ⟨mc18, rfl⟩⟩ := hcut
  cases kq with
  | zero => exact absurd HA.out (by simp [ZA.j2])
  | succ ay =>
   have H := HA.out;clear HA;simp only [ZA.j2] at H
   by_cases c24 : ((a3) / 4294967296) = 0
   ·rw [if_pos c24] at H;exact absurd H (by simp)
   rw [if_neg c24] at H;have aP := eF c24;have aQ := nT c24;have H' := zA H;clear H
   go_wp2
   repeat (go_quiet (fail); try go_wp2)
   go_loopg [16, 18] ay (fun kq v16 v18 w' => ∃ (ai : Int) (af : Int), v16 = .int .u64 ai ∧ v18 = .int .u64 af ∧ Aside0 (ZA.l1 kq a3 ab ((a3) / 4294967296) (Go.bits .and .u64 (a3) 4294967295) (Go.bits .and .u64 (a8) 4294967295) a9 ai (IntKind.u64.wrap ((IntKind.u64.wrap ((IntKind.u64.wrap ((Go.bits .or .u64 (ad) (ae)) * 4294967296)) + ((a8) / 4294967296))) - (IntKind.u64.wrap (a9 * a3)))) af = some (r1, r2)) ∧ Aside0 (kq ≤ ay) ∧ Drawn0 w w')
   case atStart => exact ⟨(IntKind.u64.wrap ((IntKind.u64.wrap ((IntKind.u64.wrap ((IntKind.u64.wrap ((Go.bits .or .u64 (ad) (ae)) * 4294967296)) + ((a8) / 4294967296))) - (IntKind.u64.wrap (a9 * a3)))) - (IntKind.u64.wrap ((IntKind.u64.wrap (Int.tdiv (IntKind.u64.wrap ((IntKind.u64.wrap ((IntKind.u64.wrap ((Go.bits .or .u64 (ad) (ae)) * 4294967296)) + ((a8) / 4294967296))) - (IntKind.u64.wrap (a9 * a3)))) ((a3) / 4294967296))) * ((a3) / 4294967296))))), (IntKind.u64.wrap (Int.tdiv (IntKind.u64.wrap ((IntKind.u64.wrap ((IntKind.u64.wrap ((Go.bits .or .u64 (ad) (ae)) * 4294967296)) + ((a8) / 4294967296))) - (IntKind.u64.wrap (a9 * a3)))) ((a3) / 4294967296))), (by first | rfl | (simp; done) | (simp only [← a4, ← a5, ← a6, ← a7] <;> (first | rfl | simp)) | (simp [*]; done)), (by first | rfl | (simp; done) | (simp only [← a4, ← a5, ← a6, ← a7] <;> (first | rfl | simp)) | (simp [*]; done)), H', zB2, by repeat (first | exact Drawn0.refl _ | apply Drawn0.step)⟩
   case round =>
    clear H';obtain ⟨ai, af, rfl, rfl, HA, HK2, ⟨m2, rfl⟩⟩ := hrel
    cases gk with
    | zero => exact absurd HA.out (by simp [ZA.l1])
    | succ k2 =>
     have H := HA.out;clear HA;simp only [ZA.l1] at H;have ax := zA H;clear H
     go_upto_region 24 with (fail)
     repeat (go_quiet (fail); go_upto_region 24 with (fail))
     go_cut [113] (fun v113 wc => ∃ (kq : Nat) (aj : Bool), v113 = .bool aj ∧ Aside0 (ZA.j4 kq a3 ab ((a3) / 4294967296) (Go.bits .and .u64 (a3) 4294967295) (Go.bits .and .u64 (a8) 4294967295) a9 ai (IntKind.u64.wrap ((IntKind.u64.wrap ((IntKind.u64.wrap ((Go.bits .or .u64 (ad) (ae)) * 4294967296)) + ((a8) / 4294967296))) - (IntKind.u64.wrap (a9 * a3)))) af aj = some (r1, r2)) ∧ Aside0 (kq ≤ k2) ∧ Drawn0 w wc)
     case first =>
      have H := ax.out;clear ax
      by_cases c26 : af ≥ 4294967296
      ·rw [if_pos c26] at H;have aq := dT c26;clear c26;(try rw [aq]);have H' := zA H;clear H
       go_wp2
       repeat (go_quiet (fail); try go_wp2)
       go_meet
       case rel => exact ⟨_, (true), zi, (by first | exact H' | (simp only [ac, a4, a5, aa, a6, a7]; exact H') | (simp only [ac, a4, a5, aa, a6, a7] at H' ⊢; exact H')), ⟨by have := ap.out; have := HK2.out; first | omega | exact zk6 _⟩, by repeat (first | exact Drawn0.refl _ | apply Drawn0.step)⟩
      rw [if_neg c26] at H;have aq := dF c26;clear c26;(try rw [aq]);have H' := zA H;clear H
      go_wp2
      repeat (go_quiet (fail); try go_wp2)
      go_meet
      case rel => exact ⟨_, (decide ((IntKind.u64.wrap (af * (Go.bits .and .u64 (a3) 4294967295))) > (IntKind.u64.wrap ((IntKind.u64.wrap (4294967296 * ai)) + (Go.bits .and .u64 (a8) 4294967295))))), (by first | rfl | (simp; done) | (simp only [← a4, ← a7] <;> (first | rfl | simp)) | (simp [*]; done)), (by first | exact H' | (simp only [ac, a4, a5, aa, a6, a7]; exact H') | (simp only [ac, a4, a5, aa, a6, a7] at H' ⊢; exact H')), ⟨by have := ap.out; have := HK2.out; first | omega | exact zk6 _⟩, by repeat (first | exact Drawn0.refl _ | apply Drawn0.step)⟩
     case rest =>
      clear ax;obtain ⟨kq, aj, rfl, HA, aA, ⟨mc24, rfl⟩⟩ := hcut
      cases kq with
      | zero => exact absurd HA.out (by simp [ZA.j4])
      | succ aI =>
       have H := HA.out;clear HA;simp only [ZA.j4] at H
       by_cases c27 : aj = true
       ·subst c27;rw [if_pos rfl] at H
        by_cases c28 : (IntKind.u64.wrap (ai + ((a3) / 4294967296))) ≥ 4294967296
        ·rw [if_pos c28] at H;have aE : decide (4294967296 ≤ (IntKind.u64.wrap (ai + ((a3) / 4294967296)))) = true := dT c28;clear c28;replace H := dn H;obtain ⟨c29, H⟩ := H;have aR := eq_true c29;have aS := dT c29;clear c29;generalize ar : shr .u64 (IntKind.u64.wrap ((IntKind.u64.wrap ((IntKind.u64.wrap ((IntKind.u64.wrap ((IntKind.u64.wrap ((IntKind.u64.wrap ((Go.bits .or .u64 (ad) (ae)) * 4294967296)) + ((a8) / 4294967296))) - (IntKind.u64.wrap (a9 * a3)))) * 4294967296)) + (Go.bits .and .u64 (a8) 4294967295))) - (IntKind.u64.wrap ((IntKind.u64.wrap (af - 1)) * a3)))) ab = aB at H;have hji30_ : ((IntKind.u64.wrap ((IntKind.u64.wrap ((IntKind.u64.wrap ((IntKind.u64.wrap ((IntKind.u64.wrap ((IntKind.u64.wrap ((Go.bits .or .u64 (ad) (ae)) * 4294967296)) + ((a8) / 4294967296))) - (IntKind.u64.wrap (a9 * a3)))) * 4294967296)) + (Go.bits .and .u64 (a8) 4294967295))) - (IntKind.u64.wrap ((IntKind.u64.wrap (af - 1)) * a3)))) / 2 ^ min ab.toNat 64) = aB := ar;have hji30z : ab ≤ 64 → ((IntKind.u64.wrap ((IntKind.u64.wrap ((IntKind.u64.wrap ((IntKind.u64.wrap ((IntKind.u64.wrap ((IntKind.u64.wrap ((Go.bits .or .u64 (ad) (ae)) * 4294967296)) + ((a8) / 4294967296))) - (IntKind.u64.wrap (a9 * a3)))) * 4294967296)) + (Go.bits .and .u64 (a8) 4294967295))) - (IntKind.u64.wrap ((IntKind.u64.wrap (af - 1)) * a3)))) / 2 ^ ab.toNat) = aB := Z2n ar;simp only [zk3, zk5] at H;obtain ⟨rfl, rfl⟩ := H
         go_wp2
         repeat (go_quiet (fail); try go_wp2)
         go_ret2
         exact ⟨by first | rfl | (simp; done) | (simp only [← ac, ← a4, ← a5, ← aa, ← a6, ← a7, ← ar] <;> (first | rfl | simp)) | (simp [*]; done), by repeat (first | exact Drawn0.refl _ | apply Drawn0.step)⟩
        rw [if_neg c28] at H;have aE : decide (4294967296 ≤ (IntKind.u64.wrap (ai + ((a3) / 4294967296)))) = false := dF c28;clear c28;have H' := zA H;clear H
        go_wp2
        repeat (go_quiet (fail); try go_wp2)
        go_roundg aI
        case measure => have := ap.out; have := HK2.out; have := aA.out; omega
        case rel => exact ⟨(IntKind.u64.wrap (ai + ((a3) / 4294967296))), (IntKind.u64.wrap (af - 1)), (by first | rfl | (simp; done) | (simp only [← a4] <;> (first | rfl | simp)) | (simp [*]; done)), zi, (by first | exact H' | (simp only [ac, a4, a5, aa, a6, a7]; exact H') | (simp only [ac, a4, a5, aa, a6, a7] at H' ⊢; exact H')), ⟨by have := ap.out; have := HK2.out; have := aA.out; omega⟩, by repeat (first | exact Drawn0.refl _ | apply Drawn0.step)⟩
       replace c27 := Bool.eq_false_iff.mpr c27;subst c27;rw [if_neg (show ¬ (false = true) by decide)] at H;replace H := dn H;obtain ⟨c31, H⟩ := H;have aT := eq_true c31;have aU := dT c31;clear c31;generalize au : shr .u64 (IntKind.u64.wrap ((IntKind.u64.wrap ((IntKind.u64.wrap ((IntKind.u64.wrap ((IntKind.u64.wrap ((IntKind.u64.wrap ((Go.bits .or .u64 (ad) (ae)) * 4294967296)) + ((a8) / 4294967296))) - (IntKind.u64.wrap (a9 * a3)))) * 4294967296)) + (Go.bits .and .u64 (a8) 4294967295))) - (IntKind.u64.wrap (af * a3)))) ab = aC at H;have hji32_ : ((IntKind.u64.wrap ((IntKind.u64.wrap ((IntKind.u64.wrap ((IntKind.u64.wrap ((IntKind.u64.wrap ((IntKind.u64.wrap ((Go.bits .or .u64 (ad) (ae)) * 4294967296)) + ((a8) / 4294967296))) - (IntKind.u64.wrap (a9 * a3)))) * 4294967296)) + (Go.bits .and .u64 (a8) 4294967295))) - (IntKind.u64.wrap (af * a3)))) / 2 ^ min ab.toNat 64) = aC := au;have hji32z : ab ≤ 64 → ((IntKind.u64.wrap ((IntKind.u64.wrap ((IntKind.u64.wrap ((IntKind.u64.wrap ((IntKind.u64.wrap ((IntKind.u64.wrap ((Go.bits .or .u64 (ad) (ae)) * 4294967296)) + ((a8) / 4294967296))) - (IntKind.u64.wrap (a9 * a3)))) * 4294967296)) + (Go.bits .and .u64 (a8) 4294967295))) - (IntKind.u64.wrap (af * a3)))) / 2 ^ ab.toNat) = aC := Z2n au;simp only [zk3, zk5] at H;obtain ⟨rfl, rfl⟩ := H
       go_wp2
       repeat (go_quiet (fail); try go_wp2)
       go_ret2
       exact ⟨by first | rfl | (simp; done) | (simp only [← ac, ← a4, ← a5, ← aa, ← a6, ← a7, ← au] <;> (first | rfl | simp)) | (simp [*]; done), by repeat (first | exact Drawn0.refl _ | apply Drawn0.step)⟩
def Z00.l0 : Nat → List Int → Int → List Int → Int → Int → Option (List Int × Int)
 | 0, _, _, _, _, _ => none
 | k + 1, x0, x1, x6, x7, x8 => if x8 ≥ 0 then (if 0 ≤ x8 then (if x8 < (x0.length : Int) then ((ZA.f k x7 (rd x0 x8) x1).bind fun a1 => (if x8 < (x6.length : Int) then (Z00.l0 k x0 x1 (x6.set (x8 : Int).toNat a1.1) a1.2 (wrap64 (x8 - 1))) else (none))) else (none)) else (none)) else ((ZY.f k x6).bind fun a2 => (some (a2, x7)))
def Z00.f (k : Nat) (l0 : List Int) (a1 : Int) : Option (List Int × Int) := if 0 ≤ (l0.length : Int) then (if ((l0.length : Int) : Int).toNat ≤ 35184372088832 then (Z00.l0 k l0 a1 (List.replicate ((l0.length : Int) : Int).toNat 0) 0 (wrap64 ((l0.length : Int) - 1))) else (none)) else (none)
theorem Z00.calls (k : Nat) (A0 : Option Addr) (c0 : Nat) (l0 : List Int) (a1 : Int) (r1 : List Int) (r2 : Int) (w : World) (hr0 : Kd.C Zu w A0 l0.length l0) (hc0 : l0.length ≤ c0) (h : Z00.f k l0 a1 = some (r1, r2)) :
  Calls Tryz.prog 122 #[.slice A0 l0.length c0, .int .u64 a1] w fun e w' => ∃ v0_ : Value, e = .returned (.tuple #[v0_, .int .u64 r2]) ∧ Kd.V Zu 22 w' w.heap.size (fun k_ => (w.heap.size ≤ k_)) v0_ r1 ∧ Below w.heap.size w w' := by
 have aq := zA hr0;have aF := zA hc0;clear hr0 hc0;have HB := zA (Below.refl w.heap.size w);have H := h
 unfold Z00.f at H
 clear h;replace H := dn H;obtain ⟨c3, H⟩ := H;have ay := eq_true c3;have aA := dT c3;clear c3;replace H := dn H;obtain ⟨c4, H⟩ := H;have aB := eq_true c4;have aC := dT c4;clear c4;obtain ⟨aj, a6⟩ : ∃ y_ : List Int, y_ = (List.replicate ((l0.length : Int) : Int).toNat 0) := ⟨_, rfl⟩;(first | replace H := zRb a6 H | rw [← a6] at H | skip);have ab := zA a6;clear a6;have H' := zA H;clear H;go_enter Tryz.func122, Tryz.ntmps122
 go_wp2_with (first | ((with_reducible refine zD 11 rfl ?_); refine Z2t Zu _ 22 rfl (N := 11) rfl 97 _ _ rfl (l0.length : Int) rfl rfl Tryz.underlying97 (.int .u64 0) 8 info22 rfl (by decide) (by omega) 0 (ok := fun _ => True) (okp := fun _ => True) rfl (fun _ hk => hk) trivial (od) (zk2 (zka _ (od : (l0.length : Int).toNat ≤ 35184372088832)) (by omega)) (Below.refl _ _) (zk6 _) ?_; intro v200 w5 aa hb hg_ hnew_; clear hg_ hnew_; (first | rw [← ab.out] at aa | (simp only [Int.reduceToNat] at aa; rw [← ab.out] at aa)); have ag := zA (Zl (Z25 (M := fun k_ => (w.heap.size ≤ k_)) aa (Z2 bq) (fun k_ h_ => h_)) (Z2 bq)); replace HB := ze hb; clear hb aa))
 go_loopg [7, 8] k (fun kq v7 v8 w' => ∃ (a4 : List Int) (a8 : Int) (a2 : Int), v7 = .int .u64 a8 ∧ v8 = .int .i64 a2 ∧ Aside0 (Z00.l0 kq l0 a1 a4 a8 a2 = some (r1, r2)) ∧ Aside0 (kq ≤ k) ∧ Aside0 (Kd.R Zu 22 w' w.heap.size (fun k_ => (w.heap.size ≤ k_)) v200 a4) ∧ Aside0 (Below w.heap.size w w'))
 case atStart => exact ⟨(aj), (0), (wrap64 ((l0.length : Int) - 1)), zi, zi, H', zB2, ⟨ru (ZB ag.out (fun _ hk => hk.1))⟩, ⟨bq⟩⟩
 case round =>
  clear H';obtain ⟨a4, a8, a2, rfl, rfl, HA, HK1, a3, HB⟩ := hrel
  cases gk with
  | zero => exact absurd HA.out (by simp [Z00.l0])
  | succ k1 =>
   have H := HA.out;clear HA;simp only [Z00.l0] at H
   by_cases c7 : a2 ≥ 0
   ·rw [if_pos c7] at H;have ak := dT c7;clear c7;replace H := dn H;obtain ⟨c8, H⟩ := H;have aD := dT c8;clear c8;replace H := dn H;obtain ⟨c9, H⟩ := H;have aE := dT c9;clear c9;obtain ⟨⟨a9, ac⟩, ar, H⟩ := zh H;(try dsimp only at H);replace H := dn H;obtain ⟨c11, H⟩ := H;have ax := dT c11;clear c11;obtain ⟨ad, a7⟩ : ∃ y_ : List Int, y_ = (a4.set (a2 : Int).toNat a9) := ⟨_, rfl⟩;(first | replace H := zRb a7 H | rw [← a7] at H | skip);have ah := zA a7;clear a7;have H' := zA H;clear H;have p202 : 0 ≤ (a2 : Int) := od;have q202 : a2 < (l0.length : Int) := od;obtain ⟨ad202, e202, a5⟩ := Kd.Zw aq.out a2 p202 q202;cases e202;replace a5 := (HB.out.cell (World.block_lt_of_cell? w _ a5)).trans a5;replace p202 := eq_true p202;replace q202 := eq_true q202
    go_wp2_with (first | ((with_reducible refine zG 155 rfl ?_); refine zC (some 28) Tryz.func155 (ZA.calls k1 a8 (rd l0 a2) a1 a9 ac _ ar.out) ?_; rintro e w' ⟨rfl, ⟨nd, rfl⟩⟩; refine ⟨_, rfl, ?_⟩; (try (rw [Z2v wr]; generalize hq_ : World.drewN wr _ = wr; have n0_ : Aside0 (Kd.R Zu 22 wr w.heap.size (fun k_ => (w.heap.size ≤ k_)) v200 a4) := ⟨by rw [← hq_]; exact (ru a3.out)⟩; have n1_ : Aside0 (Below w.heap.size w wr) := ⟨by rw [← hq_]; exact bq⟩; clear a3 HB hq_; have a3 := n0_; have HB := n1_; clear n0_ n1_)); have p12 : 0 ≤ (a2 : Int) := od; have q12 : (a2 : Int) < ((a4.length : Int) : Int) := od; obtain ⟨go12, al, ae, af, gl12, cl12, HG12⟩ := Z0K a3.out (by omega); (first | cases ae | (injection ae with ea_ en_ ec_; (first | subst ea_ | (injection ea_ with ea_; subst ea_)); subst ec_; clear en_)); have GB12 := zA af; have GG12 := zA HG12; clear af gl12 HG12; obtain ⟨au, hf12_0⟩ := Z03 0 a3.out (a2 : Int) p12 q12; replace p12 := eq_true p12; replace q12 := eq_true q12; obtain ⟨hy13_, hz13_⟩ := Z03 0 a3.out (a2 : Int) (od) (od); have HP13 := Z0V a3.out (a2 : Int) a9) | ((with_reducible refine ZQ (t := 22) (p := 31) rfl ?_); refine ZN (t := 22) (p := 31) (v := ?vo_w14) (w1 := (wr.setCell ⟨go12, (a2 : Int).toNat, none⟩ (.int .u64 a9))) ?hg ?ho ?hn ?hr ?_; (case ho => rfl); (case hg => rfl); (case hn => rfl); (case hr => first | (go_simp; done) | (go_simp; rfl)); intro w14 hw; have hg : wr.grownBy w14 (some go12) := (by rw [hw]; exact HP13.2); have hp_ : Kd.R Zu 22 w14 w.heap.size (fun k_ => (w.heap.size ≤ k_)) (.slice (some ⟨go12, 0, none⟩) a4.length al) ad := (by rw [hw, ah.out]; exact HP13.1); clear HP13; replace a3 := zA (hp_); replace HB := zA ((by rw [hw]; exact Zy (HB.out) GB12.out : Below w.heap.size w w14)); clear hg hw hp_))
    go_roundg k1
    case measure => have := HK1.out; omega
    case rel => exact ⟨(ad), (ac), (wrap64 (a2 - 1)), zi, zi, H', zB1, ⟨ru a3.out⟩, ⟨bq⟩⟩
   rw [if_neg c7] at H;have ak := dF c7;clear c7;obtain ⟨am, av, H⟩ := zh H;simp only [zk3, zk5] at H;obtain ⟨rfl, rfl⟩ := H;obtain ⟨an, ao, ap⟩ := Zx a3.out;subst ap
   go_wp2_with (first | ((with_reducible refine zG 87 rfl ?_); refine zC (some 33) Tryz.func87 (ZY.calls k1 (fun k_ => some k_ = (.slice an a4.length ao : Value).ownBlock) _ _ a4 am _ (R_V (Z1j rfl (a3.out))) av.out) ?_; rintro e w17 ⟨v207, rfl, aw, hb⟩; refine ⟨_, rfl, ?_⟩; have ai := zA (Zj (Z5 (ok' := fun k_ => (w.heap.size ≤ k_)) aw (fun k_ hk_ => Or.elim hk_ (fun hs_ => ((a3.out).1 k_ hs_.symm)) (fun hn_ => (zk2 (Z2 bq) hn_)))) (Z2 bq)); replace a3 := zA (Zt (ru a3.out) hb); replace HB := ze hb))
   go_ret2
   exact ⟨_, er, vu ai.out, bq⟩
mutual
def Z02.j0 : Nat → Int → Int → Int → Int → Int → Option (Int)
 | 0, _, _, _, _, _ => none
 | k + 1, x2, x3, x4, x11, x12 => Z02.l0 k x2 x3 x4 x11 x12
def Z02.l0 : Nat → Int → Int → Int → Int → Int → Option (Int)
 | 0, _, _, _, _, _ => none
 | k + 1, x2, x3, x4, x11, x12 => (Z1S.f x11 x4).bind fun a1 => (if a1.1 < x12 then (Z02.j2 k x2 x3 x4 x11 x12 true) else (if a1.1 = x12 then (Z02.j2 k x2 x3 x4 x11 x12 (decide (a1.2 ≤ x2))) else (Z02.j2 k x2 x3 x4 x11 x12 false)))
def Z02.j2 : Nat → Int → Int → Int → Int → Int → Bool → Option (Int)
 | 0, _, _, _, _, _, _ => none
 | k + 1, x2, x3, x4, x11, x12, x54 => if x54 = true then (some x11) else (if (add64c x12 x3 0) > 0 then (some (IntKind.u64.wrap (x11 - 1))) else (Z02.l0 k x2 x3 x4 (IntKind.u64.wrap (x11 - 1)) (add64s x12 x3 0)))
end
def Z02.f (k : Nat) (a0 : Int) (a1 : Int) (a2 : Int) (a3 : Int) (a4 : Int) : Option (Int) := if a0 < a3 then ((ZA.f k a0 a1 a3).bind fun a5 => (Z02.j0 k a2 a3 a4 a5.1 a5.2)) else (if (add64c a1 a3 0) > 0 then (some 18446744073709551615) else (Z02.j0 k a2 a3 a4 18446744073709551615 (add64s a1 a3 0)))
theorem Z02.calls (k : Nat) (a0 : Int) (a1 : Int) (a2 : Int) (a3 : Int) (a4 : Int) (r : Int) (w : World) (h : Z02.f k a0 a1 a2 a3 a4 = some r) :
  Calls Tryz.prog 124 #[.int .u64 a0, .int .u64 a1, .int .u64 a2, .int .u64 a3, .int .u64 a4] w fun e w' => e = .returned (.int .u64 r) ∧ Drawn0 w w' := by
 have H := h
 unfold Z02.f at H
 clear h;have af := zA H;clear H;go_enter Tryz.func124, Tryz.ntmps124
 go_upto_if 19 with (fail)
 go_cut [11, 12] (fun v11 v12 wc => ∃ (kq : Nat) (a8 : Int) (a9 : Int), v11 = .int .u64 a8 ∧ v12 = .int .u64 a9 ∧ Aside0 (Z02.j0 kq a2 a3 a4 a8 a9 = some r) ∧ Aside0 (kq ≤ k) ∧ Drawn0 w wc)
 case first =>
  have H := af.out;clear af
  by_cases c7 : a0 < a3
  ·rw [if_pos c7] at H;have ac := dT c7;clear c7;(try rw [ac]);obtain ⟨⟨ag, ah⟩, A8, H⟩ := zh H;(try dsimp only at H);have H' := zA H;clear H
   go_wp2_with (first | ((with_reducible refine zG 155 rfl ?_); refine zC (some 24) Tryz.func155 (ZA.calls k a0 a1 a3 ag ah _ A8.out) ?_; rintro e w' ⟨rfl, ⟨nd, rfl⟩⟩; refine ⟨_, rfl, ?_⟩))
   go_meet
   case rel => exact ⟨_, (ag), (ah), zi, zi, H', zB0, by repeat (first | exact Drawn0.refl _ | apply Drawn0.step)⟩
  rw [if_neg c7] at H;have ac := dF c7;clear c7;(try rw [ac])
  by_cases c9 : (add64c a1 a3 0) > 0
  ·rw [if_pos c9] at H;have ao := dT c9;clear c9;obtain rfl := zk4 H
   go_wp2
   go_ret;exact ⟨by first | rfl | (simp; done) | (simp [*]; done), by repeat (first | exact Drawn0.refl _ | apply Drawn0.step)⟩
  rw [if_neg c9] at H;have ao := dF c9;clear c9;have H' := zA H;clear H
  go_wp2
  go_meet
  case rel => exact ⟨_, (18446744073709551615), (add64s a1 a3 0), zi, zi, H', zB0, by repeat (first | exact Drawn0.refl _ | apply Drawn0.step)⟩
 case rest =>
  clear af;obtain ⟨kq, a8, a9, rfl, rfl, HA, ab, ⟨mc5, rfl⟩⟩ := hcut
  cases kq with
  | zero => exact absurd HA.out (by simp [Z02.j0])
  | succ an =>
   have H := HA.out;clear HA;simp only [Z02.j0] at H;have H' := zA H;clear H
   go_wp2
   go_loopg [11, 12] an (fun kq v11 v12 w' => ∃ (a6 : Int) (a5 : Int), v11 = .int .u64 a6 ∧ v12 = .int .u64 a5 ∧ Aside0 (Z02.l0 kq a2 a3 a4 a6 a5 = some r) ∧ Aside0 (kq ≤ an) ∧ Drawn0 w w')
   case atStart => exact ⟨(a8), (a9), zi, zi, H', zB2, by repeat (first | exact Drawn0.refl _ | apply Drawn0.step)⟩
   case round =>
    clear H';obtain ⟨a6, a5, rfl, rfl, HA, HK2, ⟨m2, rfl⟩⟩ := hrel
    cases gk with
    | zero => exact absurd HA.out (by simp [Z02.l0])
    | succ k2 =>
     have H := HA.out;clear HA;simp only [Z02.l0] at H;obtain ⟨⟨ad, ai⟩, aq, H⟩ := zh H;(try dsimp only at H);have ae := zA H;clear H
     go_upto_region 9 with (first | ((with_reducible refine zG 152 rfl ?_); refine zC (some 39) Tryz.func152 (Z1S.calls a6 a4 ad ai _ aq.out) ?_; rintro e w' ⟨rfl, ⟨nd, rfl⟩⟩; refine ⟨_, rfl, ?_⟩))
     (try simp only [Act.put, zkm, zkv, zkw])
     go_cut [54] (fun v54 wc => ∃ (kq : Nat) (a7 : Bool), v54 = .bool a7 ∧ Aside0 (Z02.j2 kq a2 a3 a4 a6 a5 a7 = some r) ∧ Aside0 (kq ≤ k2) ∧ Drawn0 w wc)
     case first =>
      have H := ae.out;clear ae
      by_cases c12 : ad < a5
      ·rw [if_pos c12] at H;have aa := dT c12;clear c12;(try rw [aa]);have H' := zA H;clear H
       go_wp2
       go_meet
       case rel => exact ⟨_, (true), zi, H', ⟨by have := ab.out; have := HK2.out; first | omega | exact zk6 _⟩, by repeat (first | exact Drawn0.refl _ | apply Drawn0.step)⟩
      rw [if_neg c12] at H;have aa := dF c12;clear c12;(try rw [aa])
      by_cases c13 : ad = a5
      ·rw [if_pos c13] at H;have ak := eT c13;have al := nF c13;clear c13;have H' := zA H;clear H
       go_wp2
       go_meet
       case rel => exact ⟨_, (decide (ai ≤ a2)), zi, H', ⟨by have := ab.out; have := HK2.out; first | omega | exact zk6 _⟩, by repeat (first | exact Drawn0.refl _ | apply Drawn0.step)⟩
      rw [if_neg c13] at H;have ak := eF c13;have al := nT c13;have H' := zA H;clear H
      go_wp2
      go_meet
      case rel => exact ⟨_, (false), zi, H', ⟨by have := ab.out; have := HK2.out; first | omega | exact zk6 _⟩, by repeat (first | exact Drawn0.refl _ | apply Drawn0.step)⟩
     case rest =>
      clear ae;obtain ⟨kq, a7, rfl, HA, aj, ⟨mc10, rfl⟩⟩ := hcut
      cases kq with
      | zero => exact absurd HA.out (by simp [Z02.j2])
      | succ ap =>
       have H := HA.out;clear HA;simp only [Z02.j2] at H
       by_cases c14 : a7 = true
       ·subst c14;rw [if_pos rfl] at H;obtain rfl := zk4 H
        go_wp2
        go_ret;exact ⟨by first | rfl | (simp; done) | (simp [*]; done), by repeat (first | exact Drawn0.refl _ | apply Drawn0.step)⟩
       replace c14 := Bool.eq_false_iff.mpr c14;subst c14;rw [if_neg (show ¬ (false = true) by decide)] at H
       by_cases c15 : (add64c a5 a3 0) > 0
       ·rw [if_pos c15] at H;have am := dT c15;clear c15;obtain rfl := zk4 H
        go_wp2
        go_ret;exact ⟨by first | rfl | (simp; done) | (simp [*]; done), by repeat (first | exact Drawn0.refl _ | apply Drawn0.step)⟩
       rw [if_neg c15] at H;have am := dF c15;clear c15;have H' := zA H;clear H
       go_wp2
       go_roundg ap
       case measure => have := ab.out; have := HK2.out; have := aj.out; omega
       case rel => exact ⟨(IntKind.u64.wrap (a6 - 1)), (add64s a5 a3 0), zi, zi, H', ⟨by have := ab.out; have := HK2.out; have := aj.out; omega⟩, by repeat (first | exact Drawn0.refl _ | apply Drawn0.step)⟩
def Z0v.l0 : Nat → List Int → List Int → Int → Int → Int → List Int → Int → Int → Option (Bool × List Int)
 | 0, _, _, _, _, _, _, _, _ => none
 | k + 1, x0, x1, x2, x7, x8, x14, x15, x16 => if x16 < x15 then (if 0 ≤ x16 then (if x16 < (x14.length : Int) then ((Z1S.f (rd x14 x16) x2).bind fun a1 => (if x16 < (x0.length : Int) then (if x8 ≤ 1 then (Z0v.l0 k (x0.set (x16 : Int).toNat (sub64s (rd x0 x16) (add64s a1.2 x7 0) x8)) x1 x2 (IntKind.u64.wrap (a1.1 + (add64c a1.2 x7 0))) (sub64c (rd x0 x16) (add64s a1.2 x7 0) x8) x14 x15 (wrap64 (x16 + 1))) else (none)) else (none))) else (none)) else (none)) else (if 0 ≤ (x1.length : Int) then (if (x1.length : Int) < (x0.length : Int) then (if x8 ≤ 1 then (some (decide ((sub64c (rd x0 (x1.length : Int)) x7 x8) > 0), (x0.set ((x1.length : Int) : Int).toNat (sub64s (rd x0 (x1.length : Int)) x7 x8)))) else (none)) else (none)) else (none))
def Z0v.f (k : Nat) (l0 : List Int) (l1 : List Int) (a2 : Int) : Option (Bool × List Int) := Z0v.l0 k l0 l1 a2 0 0 l1 (l1.length : Int) 0
def Z0w.l0 : Nat → List Int → List Int → Int → List Int → Int → Int → Option (List Int)
 | 0, _, _, _, _, _, _ => none
 | k + 1, x0, x1, x4, x7, x8, x9 => if x9 < x8 then (if 0 ≤ x9 then (if x9 < (x7.length : Int) then (if x9 < (x0.length : Int) then (if x4 ≤ 1 then (Z0w.l0 k (x0.set (x9 : Int).toNat (add64s (rd x0 x9) (rd x7 x9) x4)) x1 (add64c (rd x0 x9) (rd x7 x9) x4) x7 x8 (wrap64 (x9 + 1))) else (none)) else (none)) else (none)) else (none)) else (if 0 ≤ (x1.length : Int) then (if (x1.length : Int) < (x0.length : Int) then (some (x0.set ((x1.length : Int) : Int).toNat (IntKind.u64.wrap ((rd x0 (x1.length : Int)) + x4)))) else (none)) else (none))
def Z0w.f (k : Nat) (l0 : List Int) (l1 : List Int) : Option (List Int) := Z0w.l0 k l0 l1 0 l1 (l1.length : Int) 0
theorem view_rd {A xs B : List Int} {off : Nat} (hA : A.length = off) (i : Int) (h0 : 0 ≤ i) (h1 : i < xs.length) : rd (A ++ xs ++ B) ((off : Int) + i) = rd xs i := by
 have e : ((off : Int) + i).toNat = off + i.toNat := by omega
 unfold rd
 rw [e, zkS, ← hA];simp only [List.getD_eq_getElem?_getD];rw [List.getElem?_append_right (by omega), Nat.add_sub_cancel_left, List.getElem?_append_left (by omega)]
theorem view_cell {k : IntKind} {e : TypeId} {w : World} {base : Nat} {ok : Nat → Prop} {g N C off : Nat} {A xs B : List Int} (h : Kd.R (Kd.int k) e w base ok (.slice (some ⟨g, 0, none⟩) N C) (A ++ xs ++ B)) (hA : A.length = off) (i : Int) (h0 : 0 ≤ i) (h1 : i < xs.length) :
  w.cell? ⟨g, off + i.toNat, none⟩ = some (.int k (rd xs i)) ∧ w.frozen? ⟨g, off + i.toNat, none⟩ = false := by
 have hN := (Z8 h).1
 have hl : (A ++ xs ++ B).length = off + xs.length + B.length := by simp [hA]; omega
 have q := Z03 0 h ((off : Int) + i) (by omega) (by omega)
 have e : ((off : Int) + i).toNat = off + i.toNat := by omega
 rw [e] at q;have r := view_rd (B := B) hA i h0 h1;refine ⟨?_, q.2⟩;exact q.1.trans (congrArg (fun z => some (Value.int k z)) r)
theorem view_put {k : IntKind} {e : TypeId} {w : World} {base : Nat} {ok : Nat → Prop} {g N C off : Nat} {A xs B : List Int} (h : Kd.R (Kd.int k) e w base ok (.slice (some ⟨g, 0, none⟩) N C) (A ++ xs ++ B)) (hA : A.length = off) (i : Int) (h0 : 0 ≤ i) (h1 : i < xs.length) (x : Int) :
  Kd.R (Kd.int k) e (w.setCell ⟨g, off + i.toNat, none⟩ (.int k x)) base ok (.slice (some ⟨g, 0, none⟩) N C) (A ++ xs.set i.toNat x ++ B) ∧ w.grownBy (w.setCell ⟨g, off + i.toNat, none⟩ (.int k x)) (some g) := by
 have q := Z0V h ((off : Int) + i) x
 have e : ((off : Int) + i).toNat = off + i.toNat := by omega
 rw [e] at q
 have r : (A ++ xs ++ B).set (off + i.toNat) x = A ++ xs.set i.toNat x ++ B := by
  rw [zkS, ← hA, List.set_append_right _ _ (by omega), Nat.add_sub_cancel_left, List.set_append_left _ _ (by omega), zkS]
 rw [r] at q;exact q
theorem Z0w.callsAt (w0 : World) (k : Nat) (P0_ : Nat → Prop) (g_ N_ C_ off_ m_ cw_ : Nat) (A_ B_ : List Int) (hA_ : A_.length = off_) (hcw_ : m_ ≤ cw_) (hg_ : w0.heap.size ≤ g_) (l0 : List Int) (A1 : Option Addr) (c1 : Nat) (l1 : List Int) (r : List Int) (w : World) (hB : Below w0.heap.size w0 w) (aj : Kd.R Zu 22 w w0.heap.size P0_ (.slice (some ⟨g_, 0, none⟩) N_ C_) (A_ ++ l0 ++ B_)) (hl0 : l0.length = m_) (hr1 : ∀ W_, Kept w W_ (fun k_ => P0_ k_) → Kd.C Zu W_ A1 l1.length l1) (hc1 : l1.length ≤ c1) (h : Z0w.f k l0 l1 = some r) :
  Calls Tryz.prog 126 #[.slice (some ⟨g_, off_, none⟩) m_ cw_, .slice A1 l1.length c1] w fun e w' => e = .returned (.tuple #[]) ∧ (Kd.R Zu 22 w' w0.heap.size (fun k_ => (P0_ k_ ∨ w.heap.size ≤ k_)) (.slice (some ⟨g_, 0, none⟩) N_ C_) (A_ ++ r ++ B_) ∧ r.length = m_) ∧ Below w0.heap.size w0 w' ∧ Kept w w' (fun k_ => P0_ k_) := by
 have ak := zA (show Kd.R Zu 22 w w0.heap.size (fun k_ => (P0_ k_ ∨ w.heap.size ≤ k_)) (.slice (some ⟨g_, 0, none⟩) N_ C_) (A_ ++ l0 ++ B_) from ZB aj (fun k_ hk => (.inl hk)));have al := zA hr1;have av := zA hc1;clear hr1 hc1;have HK := zA (Kept.refl w (fun k_ => P0_ k_));have HW0 := zA hB.size;have HB := zA hB;clear hB;have H : (Z0w.l0 k l0 l1 0 l1 (l1.length : Int) 0) = some r := h;clear h;have H' := zA H;clear H;go_enter Tryz.func126, Tryz.ntmps126
 go_wp2
 go_loopg [4, 9] k (fun kq v4 v9 w' => ∃ (a2 : List Int) (a4 : Int) (a1 : Int), v4 = .int .u64 a4 ∧ v9 = .int .i64 a1 ∧ Aside0 (Z0w.l0 kq a2 l1 a4 l1 (l1.length : Int) a1 = some r) ∧ Aside0 (kq ≤ k) ∧ Aside0 (Kd.R Zu 22 w' w0.heap.size (fun k_ => (P0_ k_ ∨ w.heap.size ≤ k_)) (.slice (some ⟨g_, 0, none⟩) N_ C_) (A_ ++ a2 ++ B_)) ∧ Aside0 (a2.length = m_) ∧ Aside0 (Kept w w' (fun k_ => P0_ k_)) ∧ Aside0 (Below w0.heap.size w0 w'))
 case atStart => exact ⟨(l0), (0), (0), zi, zi, H', zB2, ⟨ru ak.out⟩, ⟨hl0⟩, ⟨by repeat (first | (with_reducible first | exact HK.out | apply Kept.alloc | apply Kept.drewN | apply Kept.drew) | exact HK.out)⟩, ⟨bq⟩⟩
 case round =>
  clear H';obtain ⟨a2, a4, a1, rfl, rfl, HA, HK1, a3, HL_, HK, HB⟩ := hrel
  cases gk with
  | zero => exact absurd HA.out (by simp [Z0w.l0])
  | succ k1 =>
   have H := HA.out;clear HA;simp only [Z0w.l0] at H
   by_cases c3 : a1 < (l1.length : Int)
   ·rw [if_pos c3] at H;have af := dT c3;clear c3;replace H := dn H;obtain ⟨c4, H⟩ := H;have ap := dT c4;clear c4;replace H := dn H;obtain ⟨c5, H⟩ := H;have aq := dT c5;clear c5;replace H := dn H;obtain ⟨c6, H⟩ := H;have ag := dT c6
    have c6m0 : decide (a1 < (m_ : Int)) = true := by rw [← HL_.out]; exact ag
    have c6mq := eq_true (show a1 < (m_ : Int) from of_decide_eq_true c6m0);clear c6;replace H := dn H;obtain ⟨c7, H⟩ := H;have ar := eq_true c7;have au := dT c7;clear c7;obtain ⟨a7, a5⟩ : ∃ y_ : List Int, y_ = (a2.set (a1 : Int).toNat (add64s (rd a2 a1) (rd l1 a1) a4)) := ⟨_, rfl⟩;(first | replace H := zRb a5 H | rw [← a5] at H | skip);have a9 := zA a5;clear a5;have H' := zA H;clear H;have p220 : 0 ≤ (a1 : Int) := od;have q220 : a1 < (l1.length : Int) := od;obtain ⟨ad220, e220, ah⟩ := Kd.Zw (Z6x al.out HK.out) a1 p220 q220;cases e220;replace p220 := eq_true p220;replace q220 := eq_true q220;have p221 : 0 ≤ (a1 : Int) := od;have q221 : a1 < (a2.length : Int) := od;have ai := (view_cell a3.out hA_ a1 p221 q221).1;replace p221 := eq_true p221;replace q221 := eq_true q221;have p8 : 0 ≤ (a1 : Int) := od;have q8 : (a1 : Int) < ((a2.length : Int) : Int) := od;obtain ⟨am, hf8_0⟩ := view_cell a3.out hA_ (a1 : Int) p8 q8;replace p8 := eq_true p8;replace q8 := eq_true q8;have HP10 := view_put a3.out hA_ (a1 : Int) (by first | exact of_eq_true (by assumption) | omega) (by first | exact of_eq_true (by assumption) | omega) (add64s (rd a2 a1) (rd l1 a1) a4)
    go_wp2_with (first | ((with_reducible refine ZQ (t := 22) (p := 26) rfl ?_); refine ZN (t := 22) (p := 26) (v := ?vo_w11) (w1 := (wr.setCell ⟨g_, off_ + (a1 : Int).toNat, none⟩ (.int .u64 (add64s (rd a2 a1) (rd l1 a1) a4)))) ?hg ?ho ?hn ?hr ?_; (case ho => rfl); (case hg => rfl); (case hn => rfl); (case hr => first | (go_simp; done) | (go_simp; rfl)); intro w11 hw; have hg : wr.grownBy w11 (some g_) := (by rw [hw]; exact HP10.2); have hp_ : Kd.R Zu 22 w11 w0.heap.size (fun k_ => (P0_ k_ ∨ w.heap.size ≤ k_)) (.slice (some ⟨g_, 0, none⟩) N_ C_) (A_ ++ a7 ++ B_) := (by rw [hw, a9.out]; exact HP10.1); clear HP10; have n0_ := zA (hp_); have n1_ := zA ((by rw [hw]; exact Zy (HB.out) hg_ : Below w0.heap.size w0 w11)); have n2_ := zA (Kept.of_grown (S := (fun k_ => P0_ k_)) hg (by repeat (first | (with_reducible first | exact HK.out | apply Kept.alloc | apply Kept.drewN | apply Kept.drew) | exact HK.out)) (fun k_ e_ => (a3.out.1 k_ e_))); have n9_ : Aside0 (a7.length = m_) := ⟨by first | (rw [a9.out, zk9]; exact HL_.out)⟩; clear HL_; clear a3; clear HB; clear HK; have HL_ := n9_; have a3 := n0_; have HB := n1_; have HK := n2_; clear n0_ n1_ n2_ n9_; clear hg hw hp_))
    go_roundg k1
    case measure => have := HK1.out; omega
    case rel => exact ⟨(a7), (add64c (rd a2 a1) (rd l1 a1) a4), (wrap64 (a1 + 1)), zi, zi, H', zB1, ⟨ru a3.out⟩, HL_, ⟨by repeat (first | (with_reducible first | exact HK.out | apply Kept.alloc | apply Kept.drewN | apply Kept.drew) | exact HK.out)⟩, ⟨bq⟩⟩
   rw [if_neg c3] at H;have af := dF c3;clear c3;replace H := dn H;obtain ⟨c12, H⟩ := H;have an := dT c12;have ao : decide (0 ≤ l1.length) = true := dT (by omega);clear c12;replace H := dn H;obtain ⟨c13, H⟩ := H;have ad := dT c13
   have c13m0 : decide ((l1.length : Int) < (m_ : Int)) = true := by rw [← HL_.out]; exact ad
   have c13mq := eq_true (show (l1.length : Int) < (m_ : Int) from of_decide_eq_true c13m0);have ae : decide (l1.length < a2.length) = true := dT (Int.ofNat_lt.mp c13)
   have c13m1 : decide (l1.length < m_) = true := by rw [← HL_.out]; exact ae
   clear c13;obtain ⟨a8, a6⟩ : ∃ y_ : List Int, y_ = (a2.set ((l1.length : Int) : Int).toNat (IntKind.u64.wrap ((rd a2 (l1.length : Int)) + a4))) := ⟨_, rfl⟩;replace H : (some a8) = some r := zR a6 H;have aa := zA a6;clear a6;obtain rfl := zk4 H;have p223 : 0 ≤ ((l1.length : Int) : Int) := od;have q223 : (l1.length : Int) < (a2.length : Int) := od;have ab := (view_cell a3.out hA_ (l1.length : Int) p223 q223).1;(try simp only [Go.IntWalk.toNatUp] at ab);replace p223 := eq_true p223;replace q223 := eq_true q223;have p14 : 0 ≤ ((l1.length : Int) : Int) := od;have q14 : ((l1.length : Int) : Int) < ((a2.length : Int) : Int) := od;obtain ⟨ac, hf14_0⟩ := view_cell a3.out hA_ ((l1.length : Int) : Int) p14 q14;(try simp only [zk0] at ac hf14_0);replace p14 := eq_true p14;replace q14 := eq_true q14;have HP16 := view_put a3.out hA_ ((l1.length : Int) : Int) (by first | exact of_eq_true (by assumption) | omega) (by first | exact of_eq_true (by assumption) | omega) (IntKind.u64.wrap ((rd a2 (l1.length : Int)) + a4))
   go_wp2_with (first | ((with_reducible refine ZQ (t := 22) (p := 35) rfl ?_); refine ZN (t := 22) (p := 35) (v := ?vo_w17) (w1 := (wr.setCell ⟨g_, off_ + ((l1.length : Int) : Int).toNat, none⟩ (.int .u64 (IntKind.u64.wrap ((rd a2 (l1.length : Int)) + a4))))) ?hg ?ho ?hn ?hr ?_; (case ho => rfl); (case hg => rfl); (case hn => rfl); (case hr => first | (go_simp; done) | (go_simp; rfl)); intro w17 hw; have hg : wr.grownBy w17 (some g_) := (by rw [hw]; exact HP16.2); have hp_ : Kd.R Zu 22 w17 w0.heap.size (fun k_ => (P0_ k_ ∨ w.heap.size ≤ k_)) (.slice (some ⟨g_, 0, none⟩) N_ C_) (A_ ++ a8 ++ B_) := (by rw [hw, aa.out]; exact HP16.1); clear HP16; have n0_ := zA (hp_); have n1_ := zA ((by rw [hw]; exact Zy (HB.out) hg_ : Below w0.heap.size w0 w17)); have n2_ := zA (Kept.of_grown (S := (fun k_ => P0_ k_)) hg (by repeat (first | (with_reducible first | exact HK.out | apply Kept.alloc | apply Kept.drewN | apply Kept.drew) | exact HK.out)) (fun k_ e_ => (a3.out.1 k_ e_))); have n9_ : Aside0 (a8.length = m_) := ⟨by first | (rw [aa.out, zk9]; exact HL_.out)⟩; clear HL_; clear a3; clear HB; clear HK; have HL_ := n9_; have a3 := n0_; have HB := n1_; have HK := n2_; clear n0_ n1_ n2_ n9_; clear hg hw hp_))
   first | go_end0 | ((try simp only [Exit.inBlock, Exit.then]); refine bodyPost_ret (results_none rfl _ _ _) rfl ?_)
   exact ⟨er, ⟨by first | ((with_reducible repeat (first | apply Z38 | apply Z39 | apply Z0U)); exact a3.out) | (simpa [zkS] using a3.out), HL_.out⟩, bq, by repeat (first | (with_reducible first | exact HK.out | apply Kept.alloc | apply Kept.drewN | apply Kept.drew) | exact HK.out)⟩
theorem Z0v.callsAt (w0 : World) (k : Nat) (P0_ : Nat → Prop) (g_ N_ C_ off_ m_ cw_ : Nat) (A_ B_ : List Int) (hA_ : A_.length = off_) (hcw_ : m_ ≤ cw_) (hg_ : w0.heap.size ≤ g_) (l0 : List Int) (A1 : Option Addr) (c1 : Nat) (l1 : List Int) (a2 : Int) (r1 : Bool) (r2 : List Int) (w : World) (hB : Below w0.heap.size w0 w) (an : Kd.R Zu 22 w w0.heap.size P0_ (.slice (some ⟨g_, 0, none⟩) N_ C_) (A_ ++ l0 ++ B_)) (hl0 : l0.length = m_) (hr1 : ∀ W_, Kept w W_ (fun k_ => P0_ k_) → Kd.C Zu W_ A1 l1.length l1) (hc1 : l1.length ≤ c1) (h : Z0v.f k l0 l1 a2 = some (r1, r2)) :
  Calls Tryz.prog 125 #[.slice (some ⟨g_, off_, none⟩) m_ cw_, .slice A1 l1.length c1, .int .u64 a2] w fun e w' => e = .returned (.bool r1) ∧ (Kd.R Zu 22 w' w0.heap.size (fun k_ => (P0_ k_ ∨ w.heap.size ≤ k_)) (.slice (some ⟨g_, 0, none⟩) N_ C_) (A_ ++ r2 ++ B_) ∧ r2.length = m_) ∧ Below w0.heap.size w0 w' ∧ Kept w w' (fun k_ => P0_ k_) := by
 have ao := zA (show Kd.R Zu 22 w w0.heap.size (fun k_ => (P0_ k_ ∨ w.heap.size ≤ k_)) (.slice (some ⟨g_, 0, none⟩) N_ C_) (A_ ++ l0 ++ B_) from ZB an (fun k_ hk => (.inl hk)));have ap := zA hr1;have aC := zA hc1;clear hr1 hc1;have HK := zA (Kept.refl w (fun k_ => P0_ k_));have HW0 := zA hB.size;have HB := zA hB;clear hB;have H : (Z0v.l0 k l0 l1 a2 0 0 l1 (l1.length : Int) 0) = some (r1, r2) := h;clear h;have H' := zA H;clear H;go_enter Tryz.func125, Tryz.ntmps125
 go_wp2
 go_loopg [7, 8, 16] k (fun kq v7 v8 v16 w' => ∃ (a3 : List Int) (a5 : Int) (a6 : Int) (a1 : Int), v7 = .int .u64 a5 ∧ v8 = .int .u64 a6 ∧ v16 = .int .i64 a1 ∧ Aside0 (Z0v.l0 kq a3 l1 a2 a5 a6 l1 (l1.length : Int) a1 = some (r1, r2)) ∧ Aside0 (kq ≤ k) ∧ Aside0 (Kd.R Zu 22 w' w0.heap.size (fun k_ => (P0_ k_ ∨ w.heap.size ≤ k_)) (.slice (some ⟨g_, 0, none⟩) N_ C_) (A_ ++ a3 ++ B_)) ∧ Aside0 (a3.length = m_) ∧ Aside0 (Kept w w' (fun k_ => P0_ k_)) ∧ Aside0 (Below w0.heap.size w0 w'))
 case atStart => exact ⟨(l0), (0), (0), (0), zi, zi, zi, H', zB2, ⟨ru ao.out⟩, ⟨hl0⟩, ⟨by repeat (first | (with_reducible first | exact HK.out | apply Kept.alloc | apply Kept.drewN | apply Kept.drew) | exact HK.out)⟩, ⟨bq⟩⟩
 case round =>
  clear H';obtain ⟨a3, a5, a6, a1, rfl, rfl, rfl, HA, HK1, a4, HL_, HK, HB⟩ := hrel
  cases gk with
  | zero => exact absurd HA.out (by simp [Z0v.l0])
  | succ k1 =>
   have H := HA.out;clear HA;simp only [Z0v.l0] at H
   by_cases c4 : a1 < (l1.length : Int)
   ·rw [if_pos c4] at H;have aj := dT c4;clear c4;replace H := dn H;obtain ⟨c5, H⟩ := H;have ax := dT c5;clear c5;replace H := dn H;obtain ⟨c6, H⟩ := H;have ay := dT c6;clear c6;obtain ⟨⟨ae, a7⟩, A7, H⟩ := zh H;(try dsimp only at H);replace H := dn H;obtain ⟨c8, H⟩ := H;have ak := dT c8
    have c8m0 : decide (a1 < (m_ : Int)) = true := by rw [← HL_.out]; exact ak
    have c8mq := eq_true (show a1 < (m_ : Int) from of_decide_eq_true c8m0);clear c8;replace H := dn H;obtain ⟨c9, H⟩ := H;have aA := eq_true c9;have aB := dT c9;clear c9;obtain ⟨aa, a8⟩ : ∃ y_ : List Int, y_ = (a3.set (a1 : Int).toNat (sub64s (rd a3 a1) (add64s a7 a5 0) a6)) := ⟨_, rfl⟩;(first | replace H := zRb a8 H | rw [← a8] at H | skip);have ab := zA a8;clear a8;have H' := zA H;clear H;have p213 : 0 ≤ (a1 : Int) := od;have q213 : a1 < (l1.length : Int) := od;obtain ⟨ad213, e213, al⟩ := Kd.Zw (Z6x ap.out HK.out) a1 p213 q213;cases e213;replace p213 := eq_true p213;replace q213 := eq_true q213
    go_wp2_with (first | ((with_reducible refine zG 152 rfl ?_); refine zC (some 24) Tryz.func152 (Z1S.calls (rd l1 a1) a2 ae a7 _ A7.out) ?_; rintro e w' ⟨rfl, ⟨nd, rfl⟩⟩; refine ⟨_, rfl, ?_⟩; (try (rw [Z2v wr]; generalize hq_ : World.drewN wr _ = wr; have n0_ : Aside0 (Kd.R Zu 22 wr w0.heap.size (fun k_ => (P0_ k_ ∨ w.heap.size ≤ k_)) (.slice (some ⟨g_, 0, none⟩) N_ C_) (A_ ++ a3 ++ B_)) := ⟨by rw [← hq_]; exact (ru a4.out)⟩; have n1_ : Aside0 (Kept w wr (fun k_ => P0_ k_)) := ⟨by rw [← hq_]; exact (by repeat (first | (with_reducible first | exact HK.out | apply Kept.alloc | apply Kept.drewN | apply Kept.drew) | exact HK.out))⟩; have n2_ : Aside0 (Below w0.heap.size w0 wr) := ⟨by rw [← hq_]; exact bq⟩; clear a4 HK HB hq_; have a4 := n0_; have HK := n1_; have HB := n2_; clear n0_ n1_ n2_)); have p216 : 0 ≤ (a1 : Int) := od; have q216 : a1 < (a3.length : Int) := od; have am := (view_cell a4.out hA_ a1 p216 q216).1; replace p216 := eq_true p216; replace q216 := eq_true q216; have p10 : 0 ≤ (a1 : Int) := od; have q10 : (a1 : Int) < ((a3.length : Int) : Int) := od; obtain ⟨aq, hf10_0⟩ := view_cell a4.out hA_ (a1 : Int) p10 q10; replace p10 := eq_true p10; replace q10 := eq_true q10; obtain ⟨hy12_, hz12_⟩ := view_cell a4.out hA_ (a1 : Int) (od) (od); have HP12 := view_put a4.out hA_ (a1 : Int) (by first | exact of_eq_true (by assumption) | omega) (by first | exact of_eq_true (by assumption) | omega) (sub64s (rd a3 a1) (add64s a7 a5 0) a6)) | ((with_reducible refine ZQ (t := 22) (p := 48) rfl ?_); refine ZN (t := 22) (p := 48) (v := ?vo_w13) (w1 := (wr.setCell ⟨g_, off_ + (a1 : Int).toNat, none⟩ (.int .u64 (sub64s (rd a3 a1) (add64s a7 a5 0) a6)))) ?hg ?ho ?hn ?hr ?_; (case ho => rfl); (case hg => rfl); (case hn => rfl); (case hr => first | (go_simp; done) | (go_simp; rfl)); intro w13 hw; have hg : wr.grownBy w13 (some g_) := (by rw [hw]; exact HP12.2); have hp_ : Kd.R Zu 22 w13 w0.heap.size (fun k_ => (P0_ k_ ∨ w.heap.size ≤ k_)) (.slice (some ⟨g_, 0, none⟩) N_ C_) (A_ ++ aa ++ B_) := (by rw [hw, ab.out]; exact HP12.1); clear HP12; have n0_ := zA (hp_); have n1_ := zA ((by rw [hw]; exact Zy (HB.out) hg_ : Below w0.heap.size w0 w13)); have n2_ := zA (Kept.of_grown (S := (fun k_ => P0_ k_)) hg (by repeat (first | (with_reducible first | exact HK.out | apply Kept.alloc | apply Kept.drewN | apply Kept.drew) | exact HK.out)) (fun k_ e_ => (a4.out.1 k_ e_))); have n9_ : Aside0 (aa.length = m_) := ⟨by first | (rw [ab.out, zk9]; exact HL_.out)⟩; clear HL_; clear a4; clear HB; clear HK; have HL_ := n9_; have a4 := n0_; have HB := n1_; have HK := n2_; clear n0_ n1_ n2_ n9_; clear hg hw hp_))
    go_roundg k1
    case measure => have := HK1.out; omega
    case rel => exact ⟨(aa), (IntKind.u64.wrap (ae + (add64c a7 a5 0))), (sub64c (rd a3 a1) (add64s a7 a5 0) a6), (wrap64 (a1 + 1)), zi, zi, zi, H', zB1, ⟨ru a4.out⟩, HL_, ⟨by repeat (first | (with_reducible first | exact HK.out | apply Kept.alloc | apply Kept.drewN | apply Kept.drew) | exact HK.out)⟩, ⟨bq⟩⟩
   rw [if_neg c4] at H;have aj := dF c4;clear c4;replace H := dn H;obtain ⟨c14, H⟩ := H;have ar := dT c14;have au : decide (0 ≤ l1.length) = true := dT (by omega);clear c14;replace H := dn H;obtain ⟨c15, H⟩ := H;have ah := dT c15
   have c15m0 : decide ((l1.length : Int) < (m_ : Int)) = true := by rw [← HL_.out]; exact ah
   have c15mq := eq_true (show (l1.length : Int) < (m_ : Int) from of_decide_eq_true c15m0);have ai : decide (l1.length < a3.length) = true := dT (Int.ofNat_lt.mp c15)
   have c15m1 : decide (l1.length < m_) = true := by rw [← HL_.out]; exact ai
   clear c15;replace H := dn H;obtain ⟨c16, H⟩ := H;have av := eq_true c16;have aw := dT c16;clear c16;obtain ⟨af, a9⟩ : ∃ y_ : List Int, y_ = (a3.set ((l1.length : Int) : Int).toNat (sub64s (rd a3 (l1.length : Int)) a5 a6)) := ⟨_, rfl⟩;(first | replace H := zRb a9 H | rw [← a9] at H | skip);have ac := zA a9;clear a9;simp only [zk3, zk5] at H;obtain ⟨rfl, rfl⟩ := H;have p218 : 0 ≤ ((l1.length : Int) : Int) := od;have q218 : (l1.length : Int) < (a3.length : Int) := od;have ad := (view_cell a4.out hA_ (l1.length : Int) p218 q218).1;(try simp only [Go.IntWalk.toNatUp] at ad);replace p218 := eq_true p218;replace q218 := eq_true q218;have p17 : 0 ≤ ((l1.length : Int) : Int) := od;have q17 : ((l1.length : Int) : Int) < ((a3.length : Int) : Int) := od;obtain ⟨ag, hf17_0⟩ := view_cell a4.out hA_ ((l1.length : Int) : Int) p17 q17;(try simp only [zk0] at ag hf17_0);replace p17 := eq_true p17;replace q17 := eq_true q17;have HP19 := view_put a4.out hA_ ((l1.length : Int) : Int) (by first | exact of_eq_true (by assumption) | omega) (by first | exact of_eq_true (by assumption) | omega) (sub64s (rd a3 (l1.length : Int)) a5 a6)
   go_wp2_with (first | ((with_reducible refine ZQ (t := 22) (p := 64) rfl ?_); refine ZN (t := 22) (p := 64) (v := ?vo_w20) (w1 := (wr.setCell ⟨g_, off_ + ((l1.length : Int) : Int).toNat, none⟩ (.int .u64 (sub64s (rd a3 (l1.length : Int)) a5 a6)))) ?hg ?ho ?hn ?hr ?_; (case ho => rfl); (case hg => rfl); (case hn => rfl); (case hr => first | (go_simp; done) | (go_simp; rfl)); intro w20 hw; have hg : wr.grownBy w20 (some g_) := (by rw [hw]; exact HP19.2); have hp_ : Kd.R Zu 22 w20 w0.heap.size (fun k_ => (P0_ k_ ∨ w.heap.size ≤ k_)) (.slice (some ⟨g_, 0, none⟩) N_ C_) (A_ ++ af ++ B_) := (by rw [hw, ac.out]; exact HP19.1); clear HP19; have n0_ := zA (hp_); have n1_ := zA ((by rw [hw]; exact Zy (HB.out) hg_ : Below w0.heap.size w0 w20)); have n2_ := zA (Kept.of_grown (S := (fun k_ => P0_ k_)) hg (by repeat (first | (with_reducible first | exact HK.out | apply Kept.alloc | apply Kept.drewN | apply Kept.drew) | exact HK.out)) (fun k_ e_ => (a4.out.1 k_ e_))); have n9_ : Aside0 (af.length = m_) := ⟨by first | (rw [ac.out, zk9]; exact HL_.out)⟩; clear HL_; clear a4; clear HB; clear HK; have HL_ := n9_; have a4 := n0_; have HB := n1_; have HK := n2_; clear n0_ n1_ n2_ n9_; clear hg hw hp_))
   go_ret;exact ⟨er, ⟨by first | ((with_reducible repeat (first | apply Z38 | apply Z39 | apply Z0U)); exact a4.out) | (simpa [zkS] using a4.out), HL_.out⟩, bq, by repeat (first | (with_reducible first | exact HK.out | apply Kept.alloc | apply Kept.drewN | apply Kept.drew) | exact HK.out)⟩
/-- A cut xs[L:H] of a slice, as a value. -/
def viewOf : Value → Int → Int → Value
 | .slice A N C, L, H => .slice (if C = L.toNat then A else A.map (·.add (L.toNat * 1))) (H.toNat - L.toNat) (C - L.toNat)
 | v, _, _ => v
theorem view_parts {U : List Int} {L H : Int} (h0 : 0 ≤ L) (h1 : L ≤ H) (h2 : H ≤ (U.length : Int)) : U.take L.toNat ++ (U.take H.toNat).drop L.toNat ++ U.drop H.toNat = U ∧ (U.take L.toNat).length = L.toNat ∧ ((U.take H.toNat).drop L.toNat).length = H.toNat - L.toNat := by
 refine ⟨?_, by rw [zk8]; omega, by rw [zke, zk8]; omega⟩
 have e : U.take L.toNat = (U.take H.toNat).take L.toNat := by rw [List.take_take]; congr 1; omega
 rw [e, Zk8, Zk8]
theorem view_value {e : TypeId} {w : World} {base : Nat} {ok : Nat → Prop} {v : Value} {U : List Int} {L H : Int} {Aq : Option Addr} {nq cq : Nat} (h : Kd.R Zu e w base ok v U) (h0 : 0 ≤ L) (h1 : L < H) (h2 : H ≤ (U.length : Int)) (hq : Value.slice Aq nq cq = viewOf v L H) :
  ∃ g N C, v = .slice (some ⟨g, 0, none⟩) N C ∧ base ≤ g ∧ Aq = some ⟨g, L.toNat, none⟩ ∧ nq = H.toNat - L.toNat ∧ H.toNat - L.toNat ≤ cq := by
 obtain ⟨g, cap, he, hb, _, _⟩ := Z0K h (by omega);have hc := (Z8 (A := some ⟨g, 0, none⟩) (n := U.length) (c := cap) (by rw [← he]; exact h)).2.1;rw [he] at hq;simp only [viewOf] at hq
 injection hq with q1 q2 q3
 rw [if_neg (by omega)] at q1;refine ⟨g, _, _, he, hb, ?_, q2, by omega⟩;rw [q1, Nat.mul_one]; simp only [Option.map_some, Z2z]
def Z1W.f (k : Nat) (U : List Int) (L H : Int) (d : List Int) : Option (List Int) := if 0 ≤ L then (if L < H then (if H ≤ (U.length : Int) then ((Z0w.f k ((U.take H.toNat).drop L.toNat) d).bind fun r => (some (U.take L.toNat ++ r ++ U.drop H.toNat))) else (none)) else (none)) else (none)
theorem Z1W.calls {Aq : Option Addr} {nq cq : Nat} (k : Nat) (P0_ : Nat → Prop) (u9000_ : Value) (l0 : List Int) (L H : Int) (A1 : Option Addr) (c1 : Nat) (l1 : List Int) (r : List Int) (w0 w : World) (hq : Value.slice Aq nq cq = viewOf u9000_ L H) (hB : Below w0.heap.size w0 w) (a1 : Kd.R Zu 22 w w0.heap.size P0_ u9000_ l0) (hr1 : ∀ W_, Kept w W_ (fun k_ => P0_ k_) → Kd.C Zu W_ A1 l1.length l1) (hc1 : l1.length ≤ c1) (h : Z1W.f k l0 L H l1 = some r) :
  Calls Tryz.prog 126 #[.slice Aq nq cq, .slice A1 l1.length c1] w fun e w' => e = .returned (.tuple #[]) ∧ Kd.R Zu 22 w' w0.heap.size (fun k_ => (P0_ k_ ∨ w.heap.size ≤ k_)) u9000_ r ∧ Below w0.heap.size w0 w' ∧ Kept w w' (fun k_ => P0_ k_) := by
 unfold Z1W.f at h
 by_cases h0 : 0 ≤ L
 ·rw [if_pos h0] at h
  by_cases h1 : L < H
  ·rw [if_pos h1] at h
   by_cases h2 : H ≤ (l0.length : Int)
   ·rw [if_pos h2] at h;obtain ⟨r0, hr0, h⟩ := Option.bind_eq_some_iff.mp h;obtain rfl := zk4 h;obtain ⟨p1, p2, p3⟩ := view_parts h0 (Int.le_of_lt h1) h2;obtain ⟨g, N, C, rfl, hb, rfl, rfl, hc⟩ := view_value a1 h0 h1 h2 hq;rw [← p1] at a1;refine (Z0w.callsAt w0 k P0_ g N C L.toNat (H.toNat - L.toNat) cq (l0.take L.toNat) (l0.drop H.toNat) p2 hc hb _ A1 c1 l1 r0 w hB a1 p3 hr1 hc1 hr0).mono ?_;rintro e w' ⟨rfl, ⟨ho, _⟩, hb2, hk⟩;exact ⟨rfl, ho, hb2, hk⟩
   rw [if_neg h2] at h; cases h
  rw [if_neg h1] at h; cases h
 rw [if_neg h0] at h; cases h
def Z1A.f (k : Nat) (U : List Int) (L H : Int) (d : List Int) (n : Int) : Option (Bool × List Int) := if 0 ≤ L then (if L < H then (if H ≤ (U.length : Int) then ((Z0v.f k ((U.take H.toNat).drop L.toNat) d n).bind fun r => (some (r.1, U.take L.toNat ++ r.2 ++ U.drop H.toNat))) else (none)) else (none)) else (none)
theorem Z1A.calls {Aq : Option Addr} {nq cq : Nat} (k : Nat) (P0_ : Nat → Prop) (u9000_ : Value) (l0 : List Int) (L H : Int) (A1 : Option Addr) (c1 : Nat) (l1 : List Int) (a2 : Int) (r1 : Bool) (r2 : List Int) (w0 w : World) (hq : Value.slice Aq nq cq = viewOf u9000_ L H) (hB : Below w0.heap.size w0 w) (a1 : Kd.R Zu 22 w w0.heap.size P0_ u9000_ l0) (hr1 : ∀ W_, Kept w W_ (fun k_ => P0_ k_) → Kd.C Zu W_ A1 l1.length l1) (hc1 : l1.length ≤ c1) (h : Z1A.f k l0 L H l1 a2 = some (r1, r2)) :
  Calls Tryz.prog 125 #[.slice Aq nq cq, .slice A1 l1.length c1, .int .u64 a2] w fun e w' => e = .returned (.bool r1) ∧ Kd.R Zu 22 w' w0.heap.size (fun k_ => (P0_ k_ ∨ w.heap.size ≤ k_)) u9000_ r2 ∧ Below w0.heap.size w0 w' ∧ Kept w w' (fun k_ => P0_ k_) := by
 unfold Z1A.f at h
 by_cases h0 : 0 ≤ L
 ·rw [if_pos h0] at h
  by_cases h1 : L < H
  ·rw [if_pos h1] at h
   by_cases h2 : H ≤ (l0.length : Int)
   ·rw [if_pos h2] at h;obtain ⟨⟨s1, s2⟩, hr0, h⟩ := Option.bind_eq_some_iff.mp h;have h' := zk4 h
    injection h' with e1 e2
    dsimp only at e1 e2;subst e1 e2;obtain ⟨p1, p2, p3⟩ := view_parts h0 (Int.le_of_lt h1) h2;obtain ⟨g, N, C, rfl, hb, rfl, rfl, hc⟩ := view_value a1 h0 h1 h2 hq;rw [← p1] at a1;refine (Z0v.callsAt w0 k P0_ g N C L.toNat (H.toNat - L.toNat) cq (l0.take L.toNat) (l0.drop H.toNat) p2 hc hb _ A1 c1 l1 a2 s1 s2 w hB a1 p3 hr1 hc1 hr0).mono ?_;rintro e w' ⟨rfl, ⟨ho, _⟩, hb2, hk⟩;exact ⟨rfl, ho, hb2, hk⟩
   rw [if_neg h2] at h; cases h
  rw [if_neg h1] at h; cases h
 rw [if_neg h0] at h; cases h
end Go.Proofs.YtjnfipkbgmdpaaaGreatDoor.PAll
