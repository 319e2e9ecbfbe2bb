/- Printed functions. -/
import Derived.Test.YtnjfckadjklmfaaDoorXRoundWithinP6
namespace Go.Proofs.YtnjfckadjklmfaaDoor.PAll
open RowKit YtnjfckadjklmfaaDoorW.PrintWords YtnjfckadjklmfaaDoorW.PrintLast YtnjfckadjklmfaaDoorW.PrintMore YtnjfckadjklmfaaDoorW.PrintWords.Kd
attribute [local go_sem] Z0V Z0W Z1d Z1e Z0E Z0F Z0X Z0Y
set_option linter.unusedVariables false
set_option maxHeartbeats 8000000
set_option maxRecDepth 100000
set_option linter.unusedSimpArgs false
attribute [local go_sem] fld75_0 fld75_1 fld75_2 ext118 ext119
def Z1G.f (k : Nat) (a2 : Bool) (a3 : List Int) (a4 : Int) (a5 : Bool) (a6 : List Int) (a7 : Int) : Option (Int) := (Z2N.f k a2 a3 a4 a5 a6 a7).bind fun a1 => (if a1.2 = 0 then (if a1.1 > 0 then (some 2) else (some 0)) else (some a1.2))
theorem Z1G.calls (k : Nat) (a5 : Bool) (aa : Option Addr) (ab : Nat) (a3 : List Int) (a6 : Int) (a7 : Bool) (a8 : Option Addr) (a9 : Nat) (a2 : List Int) (a4 : Int) (r : Int) (w : World) (ac : Kd.C Zu w aa a3.length a3) (ad : a3.length ≤ ab) (ae : Kd.C Zu w a8 a2.length a2) (af : a2.length ≤ a9) (hT : Laid w) (h : Z1G.f k a5 a3 a6 a7 a2 a4 = some r) :
  Calls Tryd.prog 49 #[.agg #[.bool a5, .slice aa a3.length ab, .int .i64 a6, .bool a7, .slice a8 a2.length a9, .int .i64 a4]] w fun e w' => e = .returned (.int .i64 r) ∧ Below w.heap.size w w' := by
 have hu49 := Tryd.underlying49;have hu25 := Tryd.underlying25;have aj := zA ac;have ak := zA ad;clear ac ad;have al := zA ae;have am := zA af;clear ae af;have HB := zA (Below.refl w.heap.size w);have H := h
 unfold Z1G.f at H
 clear h;obtain ⟨⟨ah, ai⟩, A2, H⟩ := zh H;(try dsimp only at H)
 by_cases c3 : ai = 0
 rw [if_pos c3] at H;have an := eT c3;have ao := nF c3;clear c3
 by_cases c4 : ah > 0
 rw [if_pos c4] at H;have ap := dT c4;clear c4;rotate_left;rw [if_neg c4] at H;have ap := dF c4;clear c4;rotate_left;rw [if_neg c3] at H;have an := eF c3;have ao := nT c3;rotate_left
 all_goals
  obtain rfl := zk1 H;go_enter Tryd.func49, Tryd.ntmps49
  go_wp2_with (first | ((with_reducible refine zD 1 rfl ?_); refine zn (N := 1) (cs := #[.bool a5, .slice aa a3.length ab, .int .i64 a6, .bool a7, .slice a8 a2.length a9, .int .i64 a4]) (t := 49) rfl rfl ?_; intro ag hg w5 hbox hb; have a1 := zA (hbox); have aF := zw hg; replace HB := ze hb; clear hb hbox hg; have aq := zM0 a1; have ar := zM1 a1; have au := zM2 a1; have av := zM3 a1; have aw : w5.cell? ⟨ag, 4, none⟩ = some (.slice a8 a2.length a9) := (Z3 a1.out 4).trans rfl; have ax : w5.cell? ⟨ag, 5, none⟩ = some (.int .i64 a4) := (Z3 a1.out 5).trans rfl; have ay := Z2 a1.out 0; have aA := Z2 a1.out 1; have aB := Z2 a1.out 2; have aC := Z2 a1.out 3; have aD := Z2 a1.out 4; have aE := Z2 a1.out 5) | ((with_reducible refine zG 87 rfl ?_); refine zC (some 10) Tryd.func87 (Z2N.calls k a5 _ _ a3 a6 a7 _ _ a2 a4 ah ai _ (zk (Za aj.out HB.out)) (ak.out) (zk (Za al.out HB.out)) (am.out) (laid_below hT zs) A2.out) ?_; rintro e w7 ⟨rfl, hb⟩; refine ⟨_, rfl, ?_⟩; replace a1 := zb a1 hb; replace HB := zf hb))
  go_ret;exact ⟨er, zs⟩
def Z1W.f (a0 : Int) : Option (Int) := some (Go.bits .andNot .u64 a0 9223372036854775808)
theorem Z1W.calls (a0 : Int) (r : Int) (w : World) (h : Z1W.f a0 = some r) :
  Calls Tryd.prog 48 #[.int .u64 a0] w fun e w' => e = .returned (.int .u64 r) ∧ Drawn0 w w' := by
 have H := h
 unfold Z1W.f at H
 clear h;obtain rfl := zk1 H;go_enter Tryd.func48, Tryd.ntmps48
 go_wp2
 go_ret;exact ⟨by first | rfl | (simp; done) | (simp [*]; done), by repeat (first | exact Drawn0.refl _ | apply Drawn0.step)⟩
def Z2t.f (a0 : Int) : Option (Int) := (Z1W.f a0).bind fun a1 => (some a1)
theorem Z2t.calls (a0 : Int) (r : Int) (w : World) (h : Z2t.f a0 = some r) :
  Calls Tryd.prog 51 #[.int .u64 a0] w fun e w' => e = .returned (.int .u64 r) ∧ Drawn0 w w' := by
 have H := h
 unfold Z2t.f at H
 clear h;obtain ⟨a1, A2, H⟩ := zh H;obtain rfl := zk1 H;go_enter Tryd.func51, Tryd.ntmps51
 go_wp2_with (first | ((with_reducible refine zG 48 rfl ?_); refine zC (some 4) Tryd.func48 (Z1W.calls a0 a1 _ A2.out) ?_; rintro e w' ⟨rfl, ⟨nd, rfl⟩⟩; refine ⟨_, rfl, ?_⟩))
 go_ret;exact ⟨by first | rfl | (simp; done) | (simp [*]; done), by repeat (first | exact Drawn0.refl _ | apply Drawn0.step)⟩
end Go.Proofs.YtnjfckadjklmfaaDoor.PAll
