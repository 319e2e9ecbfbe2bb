/- Printed functions. -/
import Derived.Test.YtjnfipkbgmdpaaaGreatDoorXAlgRisesP18
namespace Go.Proofs.YtjnfipkbgmdpaaaGreatDoor.PAll
open RowKit YtjnfipkbgmdpaaaGreatDoorW.PrintWords YtjnfipkbgmdpaaaGreatDoorW.PrintLast YtjnfipkbgmdpaaaGreatDoorW.PrintMore YtjnfipkbgmdpaaaGreatDoorW.PrintWords.Kd
attribute [local go_sem] Z1k Z1l Z1G Z1H Z16 Z17 Z1m Z1n
set_option linter.unusedVariables false
set_option maxHeartbeats 8000000
set_option maxRecDepth 100000
set_option linter.unusedSimpArgs false
attribute [local go_sem] fld77_0 fld77_1 fld77_2 ext153 ext154
def Z20.f (a0 : Int) : Option (Bool) := (Z1N.f a0).bind fun a1 => (some (decide (a1 ≤ 9218868437227405312)))
theorem Z20.calls (a0 : Int) (r : Bool) (w : World) (h : Z20.f a0 = some r) :
  Calls Tryz.prog 68 #[.int .u64 a0] w fun e w' => e = .returned (.bool r) ∧ Drawn0 w w' := by
 have H := h
 unfold Z20.f at H
 clear h;obtain ⟨a1, A2, H⟩ := zh H;obtain rfl := zk4 H;go_enter Tryz.func68, Tryz.ntmps68
 go_wp2_with (first | ((with_reducible refine zG 62 rfl ?_); refine zC (some 4) Tryz.func62 (Z1N.calls a0 a1 _ A2.out) ?_; rintro e w' ⟨rfl, ⟨nd, rfl⟩⟩; refine ⟨_, rfl, ?_⟩))
 go_ret;exact ⟨by first | rfl | (simp; done) | (simp [*]; done), by repeat (first | exact Drawn0.refl _ | apply Drawn0.step)⟩
def Z2x.f (a0 : Int) : Option (Int) := if (Go.bits .and .u64 a0 9223372036854775808) = 0 then (some (wrap64 (a0))) else ((Z1N.f a0).bind fun a1 => (some (wrap64 (-(wrap64 (a1))))))
theorem Z2x.calls (a0 : Int) (r : Int) (w : World) (h : Z2x.f a0 = some r) :
  Calls Tryz.prog 69 #[.int .u64 a0] w fun e w' => e = .returned (.int .i64 r) ∧ Drawn0 w w' := by
 have H := h
 unfold Z2x.f at H
 clear h
 by_cases c2 : (Go.bits .and .u64 a0 9223372036854775808) = 0
 ·rw [if_pos c2] at H;have a2 := eT c2;have a3 := nF c2;clear c2;obtain rfl := zk4 H;go_enter Tryz.func69, Tryz.ntmps69
  go_wp2
  go_ret;exact ⟨by first | rfl | (simp; done) | (simp [*]; done), by repeat (first | exact Drawn0.refl _ | apply Drawn0.step)⟩
 rw [if_neg c2] at H;have a2 := eF c2;have a3 := nT c2;obtain ⟨a1, A3, H⟩ := zh H;obtain rfl := zk4 H;go_enter Tryz.func69, Tryz.ntmps69
 go_wp2_with (first | ((with_reducible refine zG 62 rfl ?_); refine zC (some 7) Tryz.func62 (Z1N.calls a0 a1 _ A3.out) ?_; rintro e w' ⟨rfl, ⟨nd, rfl⟩⟩; refine ⟨_, rfl, ?_⟩))
 go_ret;exact ⟨by first | rfl | (simp; done) | (simp [*]; done), by repeat (first | exact Drawn0.refl _ | apply Drawn0.step)⟩
def Z0A.f (a0 : Int) (a1 : Int) : Option (Bool) := (Z20.f a0).bind fun a2 => (if a2 = true then ((Z20.f a1).bind fun a3 => (if a3 = true then ((Z2x.f a0).bind fun a4 => ((Z2x.f a1).bind fun a5 => (some (decide (a4 < a5))))) else (some false))) else (some false))
theorem Z0A.calls (a0 : Int) (a1 : Int) (r : Bool) (w : World) (h : Z0A.f a0 a1 = some r) :
  Calls Tryz.prog 29 #[.int .u64 a0, .int .u64 a1] w fun e w' => e = .returned (.bool r) ∧ Drawn0 w w' := by
 have H := h
 unfold Z0A.f at H
 clear h;obtain ⟨a2, A3, H⟩ := zh H
 by_cases c4 : a2 = true
 subst c4;rw [if_pos rfl] at H;obtain ⟨a3, A5, H⟩ := zh H
 by_cases c6 : a3 = true
 subst c6;rw [if_pos rfl] at H;obtain ⟨a4, A7, H⟩ := zh H;obtain ⟨a5, A8, H⟩ := zh H;rotate_left;replace c6 := Bool.eq_false_iff.mpr c6;subst c6;rw [if_neg (show ¬ (false = true) by decide)] at H;rotate_left;replace c4 := Bool.eq_false_iff.mpr c4;subst c4;rw [if_neg (show ¬ (false = true) by decide)] at H;rotate_left
 all_goals
  obtain rfl := zk4 H;go_enter Tryz.func29, Tryz.ntmps29
  go_wp2_with (first | ((with_reducible refine zG 68 rfl ?_); refine zC (some 6) Tryz.func68 (Z20.calls a0 true _ A3.out) ?_; rintro e w' ⟨rfl, ⟨nd, rfl⟩⟩; refine ⟨_, rfl, ?_⟩) | (go_at_call 68; (with_reducible refine (Z20.calls a1 true _ A5.out).mono ?_); rintro e w' ⟨rfl, ⟨nd, rfl⟩⟩) | (go_at_call 69; (with_reducible refine (Z2x.calls a0 a4 _ A7.out).mono ?_); rintro e w' ⟨rfl, ⟨nd, rfl⟩⟩) | (go_at_call 69; (with_reducible refine (Z2x.calls a1 a5 _ A8.out).mono ?_); rintro e w' ⟨rfl, ⟨nd, rfl⟩⟩) | (go_at_call 68; (with_reducible refine (Z20.calls a1 false _ A5.out).mono ?_); rintro e w' ⟨rfl, ⟨nd, rfl⟩⟩) | ((with_reducible refine zG 68 rfl ?_); refine zC (some 6) Tryz.func68 (Z20.calls a0 false _ A3.out) ?_; rintro e w' ⟨rfl, ⟨nd, rfl⟩⟩; refine ⟨_, rfl, ?_⟩))
  go_ret;exact ⟨by first | rfl | (simp; done) | (simp [*]; done), by repeat (first | exact Drawn0.refl _ | apply Drawn0.step)⟩
mutual
def Zg.j2 : Nat → Int → Int → Option (Bool)
 | 0, _, _ => none
 | k + 1, x0, x1 => (Z0C.f k x0 x1).bind fun a1 => (if a1.2.2 = 0 then ((Z1K.f x0).bind fun a2 => ((Z1K.f x1).bind fun a3 => ((Z0A.f a1.1 a2).bind fun a4 => (if a4 = true then (Zg.j3 k a2 a3 true a1.1 a1.2.1) else ((Z0A.f a1.1 a3).bind fun a5 => (Zg.j3 k a2 a3 a5 a1.1 a1.2.1)))))) else (some true))
def Zg.j3 : Nat → Int → Int → Bool → Int → Int → Option (Bool)
 | 0, _, _, _, _, _ => none
 | k + 1, x11, x12, a7, a5, a8 => if a7 = true then (some false) else ((Z0m.f k x11).bind fun a1 => ((Z0m.f k x12).bind fun a2 => ((Zk.f k a1.1 a1.2.1 a1.2.2.1 a2.1 a2.2.1 a2.2.2.1).bind fun a3 => ((Z13.f k a3.1 a3.2.1 a3.2.2).bind fun a4 => (if a4.2.2 = 0 then ((Z0A.f a4.1 a5).bind fun a6 => (some (!a6))) else (some false))))))
def Zg.j0 : Nat → Int → Int → Bool → Option (Bool)
 | 0, _, _, _ => none
 | k + 1, x0, x1, x46 => if x46 = true then (some false) else ((Z1g.f k x0).bind fun a1 => ((Z1g.f k x1).bind fun a2 => (if a1.2.2 = 0 then (if a2.2.2 = 0 then ((Z0A.f a2.1 a1.1).bind fun a3 => (Zg.j1 k x0 x1 a3)) else (Zg.j1 k x0 x1 false)) else (Zg.j1 k x0 x1 false))))
def Zg.j1 : Nat → Int → Int → Bool → Option (Bool)
 | 0, _, _, _ => none
 | k + 1, x0, x1, x69 => if x69 = true then (some false) else ((Z0o.f k x0).bind fun a1 => ((Z0o.f k x1).bind fun a2 => (if a1.2.2 = 0 then (if a2.2.2 = 0 then ((Z0A.f a1.1 a2.1).bind fun a3 => (if a3 = true then (some false) else (Zg.j2 k x0 x1))) else (Zg.j2 k x0 x1)) else (Zg.j2 k x0 x1))))
end
def Zg.f (k : Nat) (a0 : Int) (a1 : Int) : Option (Bool) := (Z2g.f k).bind fun a4 => (if a4 = true then ((Z0A.f a0 a1).bind fun a5 => (if a5 = true then ((Z1w.f k a0).bind fun a2 => ((Z1w.f k a1).bind fun a3 => (if a2.2.2 = 0 then (if a3.2.2 = 0 then ((Z0A.f a3.1 a2.1).bind fun a6 => (Zg.j0 k a0 a1 a6)) else (Zg.j0 k a0 a1 false)) else (Zg.j0 k a0 a1 false)))) else (Zg.j2 k a0 a1))) else (some false))
theorem Zg.calls (k : Nat) (a0 : Int) (a1 : Int) (r : Bool) (w : World) (hT : Laid w) (hr_ : Aside0 (r = true)) (h : Zg.f k a0 a1 = some r) :
  Calls Tryz.prog 7 #[.int .u64 a0, .int .u64 a1] w fun e w' => e = .returned (.bool r) ∧ Below w.heap.size w w' := by
 have hu25 := Tryz.underlying25;have hu34 := Tryz.underlying34;have HB := zA (Below.refl w.heap.size w);have H := h
 unfold Zg.f at H
 clear h;obtain ⟨bs, A3, H⟩ := zh H
 by_cases c4 : bs = true
 ·subst c4;rw [if_pos rfl] at H;obtain ⟨az, A5, H⟩ := zh H;have bl := zA H;clear H;go_enter Tryz.func7, Tryz.ntmps7
  go_upto_if 23 with (first | ((with_reducible refine zG 15 rfl ?_); refine zC (some 19) Tryz.func15 (Z2g.calls k  true _ (laid_below hT bq) (zA rfl) A3.out) ?_; rintro e w7 ⟨rfl, hb⟩; refine ⟨_, rfl, ?_⟩; replace HB := ze hb) | ((with_reducible refine zG 29 rfl ?_); refine zC (some 23) Tryz.func29 (Z0A.calls a0 a1 az _ A5.out) ?_; rintro e w' ⟨rfl, ⟨nd, rfl⟩⟩; refine ⟨_, rfl, ?_⟩))
  (try simp only [Act.put, zkm, zkv, zkw])
  go_cut [] (fun wc => ∃ (kq : Nat), Aside0 (Zg.j2 kq a0 a1 = some r) ∧ Aside0 (kq ≤ k) ∧ Aside0 (Below w.heap.size w wc))
  case first =>
   have H := bl.out;clear bl
   by_cases c8 : az = true
   ·subst c8;rw [if_pos rfl] at H;obtain ⟨⟨ah, al, aZ⟩, A9, H⟩ := zh H;(try dsimp only at H);obtain ⟨⟨ac, ae, b1⟩, dr, H⟩ := zh H;(try dsimp only at H);have aU := zA H;clear H
    go_upto_region 6 with (first | ((with_reducible refine zG 9 rfl ?_); refine zC (some 26) Tryz.func9 (Z1w.calls k a0 ah al aZ _ (laid_below hT bq) A9.out) ?_; rintro e w12 ⟨rfl, hb⟩; refine ⟨_, rfl, ?_⟩; replace HB := ze hb) | ((with_reducible refine zD 5 rfl ?_); refine zn (N := 5) (cs := #[.int .u64 0, .int .u8 0]) (t := 25) rfl rfl ?_; intro ag hg w13 hbox hb; have a2 := zA (hbox); have dt := zw hg; replace HB := ze hb; clear hb hbox hg; have cg := zM0 a2; have ch := zM1 a2; have ci := Z3 a2.out 0; have cj := Z3 a2.out 1) | ((with_reducible refine zG 9 rfl ?_); refine zC (some 31) Tryz.func9 (Z1w.calls k a1 ac ae b1 _ (laid_below hT zs) dr.out) ?_; rintro e w15 ⟨rfl, hb⟩; refine ⟨_, rfl, ?_⟩; replace a2 := zA (Zv (g := ag) (o := .cells #[.int .u64 ah, .int .u8 al] 25 (0, 0)) (by (with_reducible repeat (first | refine Zi ?_ _ | refine Z9 ?_ | refine Zh ?_ _)); refine Zb (cs := #[.int .u64 ah, .int .u8 0]) ?_ 1 _ rfl; refine Zb (cs := #[.int .u64 0, .int .u8 0]) ?_ 0 _ rfl; exact a2.out) hb); replace HB := zf hb) | ((with_reducible refine zD 7 rfl ?_); refine zn (N := 7) (cs := #[.int .u64 0, .int .u8 0]) (t := 25) rfl rfl ?_; intro aR hg w16 hbox hb; have a4 := zA (hbox); have du := zx hg; replace HB := zf hb; have a5 := zl a2 hg; have aa := zg a2 hg; replace a2 := zb a2 hb; clear hb hbox hg; have dV := aa.out; have dW := a5.out; have ck := zM0 a4; have cl := zM1 a4; have cm := Z3 a4.out 0; have cn := Z3 a4.out 1))
    (try simp only [Act.put, zkm, zkv, zkw])
    go_cut [46] (fun v46 wc => ∃ (kq : Nat) (am : Bool), v46 = .bool am ∧ Aside0 (Zg.j0 kq a0 a1 am = some r) ∧ Aside0 (kq ≤ k) ∧ Aside0 (wc.heap[ag]? = some (.cells #[.int .u64 ah, .int .u8 al] 25 (0, 0))) ∧ Aside0 (wc.heap[aR]? = some (.cells #[.int .u64 ac, .int .u8 ae] 25 (0, 0))) ∧ Aside0 (Below w.heap.size w wc))
    case first =>
     have H := aU.out;clear aU
     by_cases c19 : aZ = 0
     ·rw [if_pos c19] at H;have aN := eT c19;have bt := nF c19;clear c19;(try rw [aN])
      by_cases c20 : b1 = 0
      ·rw [if_pos c20] at H;have bu := eT c20;have bv := nF c20;clear c20;obtain ⟨b2, dv, H⟩ := zh H;have H' := zA H;clear H;have dX := aa.out;have dY := a5.out;have co := zM0 a4;have cp := zM1 a4;have cq := Z3 a4.out 0;have cr := Z3 a4.out 1;have ct := zM0 a2;have cu := zM1 a2;have cv := Z3 a2.out 0;have cw := Z3 a2.out 1
       go_wp2_with (first | (go_at_call 29; (with_reducible refine (Z0A.calls ac ah b2 _ dv.out).mono ?_); rintro e w' ⟨rfl, ⟨nd, rfl⟩⟩))
       go_meet
       case rel => exact ⟨_, (b2), zi, H', zB0, ⟨by (with_reducible repeat (first | refine Zi ?_ _ | refine Z9 ?_ | refine Zh ?_ _)); refine Zf ?_ a5.out _; refine Zf ?_ a5.out _; exact a2.out⟩, ⟨by (with_reducible repeat (first | refine Zi ?_ _ | refine Z9 ?_ | refine Zh ?_ _)); refine Zb (cs := #[.int .u64 ac, .int .u8 0]) ?_ 1 _ rfl; refine Zb (cs := #[.int .u64 0, .int .u8 0]) ?_ 0 _ rfl; exact a4.out⟩, ⟨zs⟩⟩
      rw [if_neg c20] at H;have bu := eF c20;have bv := nT c20;have H' := zA H;clear H
      go_wp2
      go_meet
      case rel => exact ⟨_, (false), zi, H', zB0, ⟨by (with_reducible repeat (first | refine Zi ?_ _ | refine Z9 ?_ | refine Zh ?_ _)); refine Zf ?_ a5.out _; refine Zf ?_ a5.out _; exact a2.out⟩, ⟨by (with_reducible repeat (first | refine Zi ?_ _ | refine Z9 ?_ | refine Zh ?_ _)); refine Zb (cs := #[.int .u64 ac, .int .u8 0]) ?_ 1 _ rfl; refine Zb (cs := #[.int .u64 0, .int .u8 0]) ?_ 0 _ rfl; exact a4.out⟩, ⟨zs⟩⟩
     rw [if_neg c19] at H;have aN := eF c19;have bt := nT c19;(try rw [aN]);have H' := zA H;clear H
     go_wp2
     go_meet
     case rel => exact ⟨_, (false), zi, H', zB0, ⟨by (with_reducible repeat (first | refine Zi ?_ _ | refine Z9 ?_ | refine Zh ?_ _)); refine Zf ?_ a5.out _; refine Zf ?_ a5.out _; exact a2.out⟩, ⟨by (with_reducible repeat (first | refine Zi ?_ _ | refine Z9 ?_ | refine Zh ?_ _)); refine Zb (cs := #[.int .u64 ac, .int .u8 0]) ?_ 1 _ rfl; refine Zb (cs := #[.int .u64 0, .int .u8 0]) ?_ 0 _ rfl; exact a4.out⟩, ⟨zs⟩⟩
    case rest =>
     clear aU;obtain ⟨kq, am, rfl, HA, ar, a2, a4, HB⟩ := hcut
     cases kq with
     | zero => exact absurd HA.out (by simp [Zg.j0])
     | succ aV =>
      have H := HA.out;clear HA;simp only [Zg.j0] at H
      by_cases c25 : am = true
      ·subst c25;rw [if_pos rfl] at H;obtain rfl := zk4 H;exact absurd hr_.out (by decide)
      replace c25 := Bool.eq_false_iff.mpr c25;subst c25;rw [if_neg (show ¬ (false = true) by decide)] at H;obtain ⟨⟨ai, an, b3⟩, dw, H⟩ := zh H;(try dsimp only at H);obtain ⟨⟨aj, b4, b5⟩, dx, H⟩ := zh H;(try dsimp only at H);have aW := zA H;clear H
      go_upto_region 10 with (first | ((with_reducible refine zG 11 rfl ?_); refine zC (some 49) Tryz.func11 (Z1g.calls aV a0 ai an b3 _ (laid_below hT zs) dw.out) ?_; rintro e w29 ⟨rfl, hb⟩; refine ⟨_, rfl, ?_⟩; replace a2 := zb a2 hb; replace a4 := zb a4 hb; replace HB := zf hb; have dz := a5.out; have dZ := aa.out; have cx := zM0 a2; have cy := zM1 a2; have cA := Z3 a2.out 0; have cB := Z3 a2.out 1) | ((with_reducible refine zG 11 rfl ?_); refine zC (some 54) Tryz.func11 (Z1g.calls aV a1 aj b4 b5 _ (laid_below hT zs) dx.out) ?_; rintro e w32 ⟨rfl, hb⟩; refine ⟨_, rfl, ?_⟩; replace a2 := zA (Zv (g := ag) (o := .cells #[.int .u64 ai, .int .u8 an] 25 (0, 0)) (by (with_reducible repeat (first | refine Zi ?_ _ | refine Z9 ?_ | refine Zh ?_ _)); refine Zb (cs := #[.int .u64 ai, .int .u8 al]) ?_ 1 _ rfl; refine Zb (cs := #[.int .u64 ah, .int .u8 al]) ?_ 0 _ rfl; exact a2.out) hb); replace a4 := zF a4 hb; replace HB := zf hb; have cC := zM0 a4; have cD := zM1 a4; have cE := Z3 a4.out 0; have cF := Z3 a4.out 1))
      (try simp only [Act.put, zkm, zkv, zkw])
      go_cut [69] (fun v69 wc => ∃ (kq : Nat) (ao : Bool), v69 = .bool ao ∧ Aside0 (Zg.j1 kq a0 a1 ao = some r) ∧ Aside0 (kq ≤ aV) ∧ Aside0 (wc.heap[ag]? = some (.cells #[.int .u64 ai, .int .u8 an] 25 (0, 0))) ∧ Aside0 (wc.heap[aR]? = some (.cells #[.int .u64 aj, .int .u8 b4] 25 (0, 0))) ∧ Aside0 (Below w.heap.size w wc))
      case first =>
       have H := aW.out;clear aW
       by_cases c34 : b3 = 0
       ·rw [if_pos c34] at H;have aO := eT c34;have bw := nF c34;clear c34;(try rw [aO])
        by_cases c35 : b5 = 0
        ·rw [if_pos c35] at H;have bx := eT c35;have bA := nF c35;clear c35;obtain ⟨b6, dy, H⟩ := zh H;have H' := zA H;clear H;have e3 := aa.out;have e4 := a5.out;have cG := zM0 a4;have cH := zM1 a4;have cI := Z3 a4.out 0;have cJ := Z3 a4.out 1;have cK := zM0 a2;have cL := zM1 a2;have cM := Z3 a2.out 0;have cN := Z3 a2.out 1
         go_wp2_with (first | (go_at_call 29; (with_reducible refine (Z0A.calls aj ai b6 _ dy.out).mono ?_); rintro e w' ⟨rfl, ⟨nd, rfl⟩⟩))
         go_meet
         case rel => exact ⟨_, (b6), zi, H', ⟨by have := ar.out; first | omega | exact zk6 _⟩, ⟨by (with_reducible repeat (first | refine Zi ?_ _ | refine Z9 ?_ | refine Zh ?_ _)); refine Zf ?_ a5.out _; refine Zf ?_ a5.out _; exact a2.out⟩, ⟨by (with_reducible repeat (first | refine Zi ?_ _ | refine Z9 ?_ | refine Zh ?_ _)); refine Zb (cs := #[.int .u64 aj, .int .u8 ae]) ?_ 1 _ rfl; refine Zb (cs := #[.int .u64 ac, .int .u8 ae]) ?_ 0 _ rfl; exact a4.out⟩, ⟨zs⟩⟩
        rw [if_neg c35] at H;have bx := eF c35;have bA := nT c35;have H' := zA H;clear H
        go_wp2
        go_meet
        case rel => exact ⟨_, (false), zi, H', ⟨by have := ar.out; first | omega | exact zk6 _⟩, ⟨by (with_reducible repeat (first | refine Zi ?_ _ | refine Z9 ?_ | refine Zh ?_ _)); refine Zf ?_ a5.out _; refine Zf ?_ a5.out _; exact a2.out⟩, ⟨by (with_reducible repeat (first | refine Zi ?_ _ | refine Z9 ?_ | refine Zh ?_ _)); refine Zb (cs := #[.int .u64 aj, .int .u8 ae]) ?_ 1 _ rfl; refine Zb (cs := #[.int .u64 ac, .int .u8 ae]) ?_ 0 _ rfl; exact a4.out⟩, ⟨zs⟩⟩
       rw [if_neg c34] at H;have aO := eF c34;have bw := nT c34;(try rw [aO]);have H' := zA H;clear H
       go_wp2
       go_meet
       case rel => exact ⟨_, (false), zi, H', ⟨by have := ar.out; first | omega | exact zk6 _⟩, ⟨by (with_reducible repeat (first | refine Zi ?_ _ | refine Z9 ?_ | refine Zh ?_ _)); refine Zf ?_ a5.out _; refine Zf ?_ a5.out _; exact a2.out⟩, ⟨by (with_reducible repeat (first | refine Zi ?_ _ | refine Z9 ?_ | refine Zh ?_ _)); refine Zb (cs := #[.int .u64 aj, .int .u8 ae]) ?_ 1 _ rfl; refine Zb (cs := #[.int .u64 ac, .int .u8 ae]) ?_ 0 _ rfl; exact a4.out⟩, ⟨zs⟩⟩
      case rest =>
       clear aW;obtain ⟨kq, ao, rfl, HA, aX, a2, a4, HB⟩ := hcut
       cases kq with
       | zero => exact absurd HA.out (by simp [Zg.j1])
       | succ bm =>
        have H := HA.out;clear HA;simp only [Zg.j1] at H
        by_cases c40 : ao = true
        subst c40;rw [if_pos rfl] at H;obtain rfl := zk4 H;exact absurd hr_.out (by decide);replace c40 := Bool.eq_false_iff.mpr c40;subst c40;rw [if_neg (show ¬ (false = true) by decide)] at H;obtain ⟨⟨av, b7, b8⟩, dA, H⟩ := zh H;(try dsimp only at H);obtain ⟨⟨b9, bB, ba⟩, dB, H⟩ := zh H;(try dsimp only at H)
        by_cases c43 : b8 = 0
        rw [if_pos c43] at H;have bC := eT c43;have bD := nF c43;clear c43
        by_cases c44 : ba = 0
        rw [if_pos c44] at H;have bE := eT c44;have bF := nF c44;clear c44;obtain ⟨bG, dC, H⟩ := zh H
        by_cases c46 : bG = true
        subst c46;rw [if_pos rfl] at H;obtain rfl := zk4 H;exact absurd hr_.out (by decide);replace c46 := Bool.eq_false_iff.mpr c46;subst c46;rw [if_neg (show ¬ (false = true) by decide)] at H;rotate_left;rw [if_neg c44] at H;have bE := eF c44;have bF := nT c44;rotate_left;rw [if_neg c43] at H;have bC := eF c43;have bD := nT c43;rotate_left
        all_goals
         have H' := zA H;clear H
         go_wp2_with (first | ((with_reducible refine zG 13 rfl ?_); refine zC (some 72) Tryz.func13 (Z0o.calls bm a0 av b7 b8 _ (laid_below hT zs) dA.out) ?_; rintro e w47 ⟨rfl, hb⟩; refine ⟨_, rfl, ?_⟩; replace a2 := zb a2 hb; replace a4 := zb a4 hb; replace HB := zf hb; have e5 := a5.out; have e6 := aa.out; have cO := zM0 a2; have cP := zM1 a2; have cQ := Z3 a2.out 0; have cR := Z3 a2.out 1) | ((with_reducible refine zG 13 rfl ?_); refine zC (some 77) Tryz.func13 (Z0o.calls bm a1 b9 bB ba _ (laid_below hT zs) dB.out) ?_; rintro e w50 ⟨rfl, hb⟩; refine ⟨_, rfl, ?_⟩; replace a2 := zA (Zv (g := ag) (o := .cells #[.int .u64 av, .int .u8 b7] 25 (0, 0)) (by (with_reducible repeat (first | refine Zi ?_ _ | refine Z9 ?_ | refine Zh ?_ _)); refine Zb (cs := #[.int .u64 av, .int .u8 an]) ?_ 1 _ rfl; refine Zb (cs := #[.int .u64 ai, .int .u8 an]) ?_ 0 _ rfl; exact a2.out) hb); replace a4 := zF a4 hb; replace HB := zf hb; have cS := zM0 a4; have cT := zM1 a4; have cU := Z3 a4.out 0; have cV := Z3 a4.out 1; (try (have cW := zM0 a2; have cX := zM1 a2; have cY := Z3 a2.out 0; have cz := Z3 a2.out 1))) | (go_at_call 29; (with_reducible refine (Z0A.calls av b9 false _ dC.out).mono ?_); rintro e w' ⟨rfl, ⟨nd, rfl⟩⟩))
        ·go_meet
         case rel => exact ⟨_, H', ⟨by have := ar.out; have := aX.out; first | omega | exact zk6 _⟩, ⟨zs⟩⟩
        ·go_meet
         case rel => exact ⟨_, H', ⟨by have := ar.out; have := aX.out; first | omega | exact zk6 _⟩, ⟨zs⟩⟩
        go_meet
        case rel => exact ⟨_, H', ⟨by have := ar.out; have := aX.out; first | omega | exact zk6 _⟩, ⟨zs⟩⟩
   replace c8 := Bool.eq_false_iff.mpr c8;subst c8;rw [if_neg (show ¬ (false = true) by decide)] at H;have H' := zA H;clear H
   go_wp2
   go_meet
   case rel => exact ⟨_, H', zB0, ⟨bq⟩⟩
  case rest =>
   clear bl;obtain ⟨kq, HA, bU, HB⟩ := hcut
   cases kq with
   | zero => exact absurd HA.out (by simp [Zg.j2])
   | succ bn =>
    have H := HA.out;clear HA;simp only [Zg.j2] at H;obtain ⟨⟨ab, aw, aP⟩, bV, H⟩ := zh H;(try dsimp only at H)
    by_cases c64 : aP = 0
    ·rw [if_pos c64] at H;have bH := eT c64;have bI := nF c64;clear c64;obtain ⟨ap, dD, H⟩ := zh H;obtain ⟨ax, dE, H⟩ := zh H;have aY := zA H;clear H
     go_upto_region 20 with (first | ((with_reducible refine zG 22 rfl ?_); refine zC (some 96) Tryz.func22 (Z0C.calls bn a0 a1 ab aw aP _ (laid_below hT bq) bV.out) ?_; rintro e w68 ⟨rfl, hb⟩; refine ⟨_, rfl, ?_⟩; replace HB := ze hb) | ((with_reducible refine zD 9 rfl ?_); refine zn (N := 9) (cs := #[.int .u64 0, .int .u8 0]) (t := 25) rfl rfl ?_; intro aS hg w69 hbox hb; have a3 := zA (hbox); have bo := zw hg; replace HB := ze hb; clear hb hbox hg; have cZ := zM0 a3; have d0 := zM1 a3; have d1 := Z3 a3.out 0; have d2 := Z3 a3.out 1) | ((with_reducible refine zG 21 rfl ?_); refine zC (some 102) Tryz.func21 (Z1K.calls a0 ap _ dD.out) ?_; rintro e w' ⟨rfl, ⟨nd, rfl⟩⟩; refine ⟨_, rfl, ?_⟩) | ((with_reducible refine zG 21 rfl ?_); refine zC (some 104) Tryz.func21 (Z1K.calls a1 ax _ dE.out) ?_; rintro e w' ⟨rfl, ⟨nd, rfl⟩⟩; refine ⟨_, rfl, ?_⟩))
     (try simp only [Act.put, zkm, zkv, zkw])
     go_cut [114] (fun v114 wc => ∃ (kq : Nat) (ak : Bool), v114 = .bool ak ∧ Aside0 (Zg.j3 kq ap ax ak ab aw = some r) ∧ Aside0 (kq ≤ bn) ∧ Aside0 (wc.heap[aS]? = some (.cells #[.int .u64 ab, .int .u8 aw] 25 (0, 0))) ∧ Aside0 (Below w.heap.size w wc))
     case first =>
      have H := aY.out;clear aY;obtain ⟨bJ, bW, H⟩ := zh H
      by_cases c72 : bJ = true
      subst c72;rw [if_pos rfl] at H;rotate_left;replace c72 := Bool.eq_false_iff.mpr c72;subst c72;rw [if_neg (show ¬ (false = true) by decide)] at H;obtain ⟨bb, dG, H⟩ := zh H;rotate_left
      all_goals
       have H' := zA H;clear H;have d3 := zM0 a3;have d4 := zM1 a3;have d5 := Z3 a3.out 0;have d6 := Z3 a3.out 1
       go_wp2_with (first | ((with_reducible refine zG 29 rfl ?_); refine zC (some 108) Tryz.func29 (Z0A.calls ab ap true _ bW.out) ?_; rintro e w' ⟨rfl, ⟨nd, rfl⟩⟩; refine ⟨_, rfl, ?_⟩) | ((with_reducible refine zG 29 rfl ?_); refine zC (some 108) Tryz.func29 (Z0A.calls ab ap false _ bW.out) ?_; rintro e w' ⟨rfl, ⟨nd, rfl⟩⟩; refine ⟨_, rfl, ?_⟩) | (go_at_call 29; (with_reducible refine (Z0A.calls ab ax bb _ dG.out).mono ?_); rintro e w' ⟨rfl, ⟨nd, rfl⟩⟩))
      ·go_meet
       case rel => exact ⟨_, (true), zi, H', ⟨by have := bU.out; first | omega | exact zk6 _⟩, ⟨by (with_reducible repeat (first | refine Zi ?_ _ | refine Z9 ?_ | refine Zh ?_ _)); refine Zb (cs := #[.int .u64 ab, .int .u8 0]) ?_ 1 _ rfl; refine Zb (cs := #[.int .u64 0, .int .u8 0]) ?_ 0 _ rfl; exact a3.out⟩, ⟨zs⟩⟩
      go_meet
      case rel => exact ⟨_, (bb), zi, H', ⟨by have := bU.out; first | omega | exact zk6 _⟩, ⟨by (with_reducible repeat (first | refine Zi ?_ _ | refine Z9 ?_ | refine Zh ?_ _)); refine Zb (cs := #[.int .u64 ab, .int .u8 0]) ?_ 1 _ rfl; refine Zb (cs := #[.int .u64 0, .int .u8 0]) ?_ 0 _ rfl; exact a3.out⟩, ⟨zs⟩⟩
     case rest =>
      clear aY;obtain ⟨kq, ak, rfl, HA, ef, a3, HB⟩ := hcut
      cases kq with
      | zero => exact absurd HA.out (by simp [Zg.j3])
      | succ aQ =>
       have H := HA.out;clear HA;simp only [Zg.j3] at H
       by_cases c76 : ak = true
       ·subst c76;rw [if_pos rfl] at H;obtain rfl := zk4 H;exact absurd hr_.out (by decide)
       replace c76 := Bool.eq_false_iff.mpr c76;subst c76;rw [if_neg (show ¬ (false = true) by decide)] at H;obtain ⟨⟨bc, ay, bd, bK⟩, dH, H⟩ := zh H;(try dsimp only at H);obtain ⟨⟨be, aA, bf, bL⟩, dI, H⟩ := zh H;(try dsimp only at H);obtain ⟨⟨bg, bh, bi⟩, dJ, H⟩ := zh H;(try dsimp only at H);obtain ⟨⟨bj, bM, bk⟩, dK, H⟩ := zh H;(try dsimp only at H)
       by_cases c81 : bk = 0
       ·rw [if_pos c81] at H;have bN := eT c81;have bO := nF c81;clear c81;obtain ⟨bP, dL, H⟩ := zh H;clear hr_;obtain rfl := zk4 H
        go_wp2_with (first | ((with_reducible refine zG 16 rfl ?_); refine zC (some 117) Tryz.func16 (Z0m.calls aQ ap bc ay bd bK _ dH.out) ?_; rintro e w83 ⟨v1662, rfl, au, hb⟩; refine ⟨_, rfl, ?_⟩; have a7 := zA (Zl au (Z2 zs)); replace a3 := zb a3 hb; replace HB := zf hb) | ((with_reducible refine zD 13 rfl ?_); refine zn (N := 13) (cs := #[.bool false, .slice none 0 0, .int .i64 0]) (t := 34) rfl rfl ?_; intro aT hg w84 hbox hb; replace a7 := zA (Zt (ru a7.out) hb); have a6 := zA (hbox); have dM := zx hg; replace HB := zf hb; have aB := zl a3 hg; have aC := zg a3 hg; replace a3 := zb a3 hb; clear hb hbox hg; have e7 := aC.out; have e8 := aB.out; obtain ⟨d7, d8, d9, da, db, dc⟩ := zc a6; obtain ⟨bX, bp, bY⟩ := Zx a7.out; subst bY) | ((with_reducible refine zG 16 rfl ?_); refine zC (some 122) Tryz.func16 (Z0m.calls aQ ax be aA bf bL _ dI.out) ?_; rintro e w88 ⟨v1669, rfl, au, hb⟩; refine ⟨_, rfl, ?_⟩; have a9 := zA (Zl (Zz au (ZO (ru (ZB (zr aT (Z0i a7.out a6.out (by decide)) (fun _ hk => hk.2) _ _ _) (fun _ h_ => h_.1))))) (Z2 zs)); replace a7 := zA (ZC (ru (ZB (zr aT (Z0i a7.out a6.out (by decide)) (fun _ hk => hk.2) _ _ _) (fun _ h_ => h_.1))) (Zc au) hb); replace a3 := zF a3 hb; replace a6 := zt a6 hb; replace HB := zf hb) | ((with_reducible refine zD 15 rfl ?_); refine zn (N := 15) (cs := #[.bool false, .slice none 0 0, .int .i64 0]) (t := 34) rfl rfl ?_; intro af hg w89 hbox hb; replace a7 := zA (Zt (ru a7.out) hb); replace a9 := zA (Zt (ru a9.out) hb); have a8 := zA (hbox); have dN := zx hg; replace HB := zf hb; have aD := zl a3 hg; have aE := zg a3 hg; replace a3 := zb a3 hb; have aF := zl a6 hg; have aG := zg a6 hg; replace a6 := zb a6 hb; clear hb hbox hg; have e9 := aE.out; have ea := aD.out; have eb := aG.out; have ec := aF.out; obtain ⟨dd, de, df, dg, dh, di⟩ := zc a8; obtain ⟨bz, br, bZ⟩ := Zx a9.out; subst bZ; obtain ⟨dj, dk, dl, dm, dp, dq⟩ := zc a6) | ((with_reducible refine zG 31 rfl ?_); refine zC (some 128) Tryz.func31 (Zk.calls aQ bc _ _ ay bd be _ _ aA bf bg bh bi _ ?bQ ?bR ?bS ?bT dJ.out) ?_; (case bQ => refine (Z8 (e := 22) (base := w.heap.size) (ok := fun k_ => (True ∧ some k_ ≠ (.slice bz aA.length br : Value).ownBlock)) (n := ay.length) (c := bp) ?_).2.2; exact (ru (ZB (zr af (Z0i a7.out a8.out (by decide)) (fun _ hk => hk.2) _ _ _) (fun _ h_ => h_.1)))); (case bR => exact (Z8 a7.out).2.1); (case bS => refine (Z8 (e := 22) (base := w.heap.size) (ok := fun k_ => (True ∧ some k_ ≠ (.slice bX ay.length bp : Value).ownBlock)) (n := aA.length) (c := br) ?_).2.2; exact (ru (ZB (zr af (Z0i a9.out a8.out (by decide)) (fun _ hk => hk.2) _ _ _) (fun _ h_ => h_.1)))); (case bT => exact (Z8 a9.out).2.1); rintro e w95 ⟨v1676, rfl, au, hb⟩; refine ⟨_, rfl, ?_⟩; have ad := zA (Zl (Zz (Zz au (ZO (ru (ZB (zr af (Z0i a7.out a8.out (by decide)) (fun _ hk => hk.2) _ _ _) (fun _ h_ => h_.1))))) (ZO (ru (ZB (zr af (Z0i a9.out a8.out (by decide)) (fun _ hk => hk.2) _ _ _) (fun _ h_ => h_.1))))) (Z2 zs)); replace a7 := zA (ZC (ru (ZB (zr af (Z0i a7.out a8.out (by decide)) (fun _ hk => hk.2) _ _ _) (fun _ h_ => h_.1))) (Zc au) hb); replace a9 := zA (ZC (ru (ZB (zr af (Z0i a9.out a8.out (by decide)) (fun _ hk => hk.2) _ _ _) (fun _ h_ => h_.1))) (Zc au) hb); replace a3 := zF a3 hb; replace a6 := zF a6 hb; replace a8 := zt a8 hb; replace HB := zf hb; obtain ⟨eg, eh, c1⟩ := Zx ad.out; subst c1) | ((with_reducible refine zG 30 rfl ?_); refine zC (some 129) Tryz.func30 (Z13.calls aQ bg _ _ bh bi bj bM bk _ (zk (Z8 ad.out).2.2) ((Z8 ad.out).2.1) (laid_below hT zs) dK.out) ?_; rintro e w97 ⟨rfl, hb⟩; refine ⟨_, rfl, ?_⟩; replace a7 := zA (Zt (ru a7.out) hb); replace a9 := zA (Zt (ru a9.out) hb); replace ad := zA (Zt (ru ad.out) hb); replace a3 := zb a3 hb; replace a6 := zb a6 hb; replace a8 := zb a8 hb; replace HB := zf hb) | ((with_reducible refine zD 17 rfl ?_); refine zn (N := 17) (cs := #[.int .u64 0, .int .u8 0]) (t := 25) rfl rfl ?_; intro dO hg w98 hbox hb; replace a7 := zA (Zt (ru a7.out) hb); replace a9 := zA (Zt (ru a9.out) hb); replace ad := zA (Zt (ru ad.out) hb); have aq := zA (hbox); have dP := zx hg; replace HB := zf hb; have aH := zl a3 hg; have aI := zg a3 hg; replace a3 := zb a3 hb; have aJ := zl a6 hg; have aK := zg a6 hg; replace a6 := zb a6 hb; have aL := zl a8 hg; have aM := zg a8 hg; replace a8 := zb a8 hb; clear hb hbox hg; have ed := aI.out; have ee := aH.out; have dQ := aK.out; have dR := aJ.out; have dS := aM.out; have dU := aL.out; have c2 := zM0 aq; have c3 := zM1 aq; have c5 := Z3 aq.out 0; have c6 := Z3 aq.out 1; have c7 := zM0 a3; have c9 := zM1 a3; have ca := Z3 a3.out 0; have cb := Z3 a3.out 1) | (go_at_call 29; (with_reducible refine (Z0A.calls bj ab bP _ dL.out).mono ?_); rintro e w' ⟨rfl, ⟨nd, rfl⟩⟩))
        go_ret;exact ⟨er, zs⟩
       rw [if_neg c81] at H;have bN := eF c81;have bO := nT c81;obtain rfl := zk4 H;exact absurd hr_.out (by decide)
    rw [if_neg c64] at H;have bH := eF c64;have bI := nT c64;clear hr_;obtain rfl := zk4 H
    go_wp2_with (first | ((with_reducible refine zG 22 rfl ?_); refine zC (some 96) Tryz.func22 (Z0C.calls bn a0 a1 ab aw aP _ (laid_below hT bq) bV.out) ?_; rintro e w104 ⟨rfl, hb⟩; refine ⟨_, rfl, ?_⟩; replace HB := ze hb) | ((with_reducible refine zD 9 rfl ?_); refine zn (N := 9) (cs := #[.int .u64 0, .int .u8 0]) (t := 25) rfl rfl ?_; intro aS hg w105 hbox hb; have a3 := zA (hbox); have bo := zw hg; replace HB := ze hb; clear hb hbox hg; have cc := zM0 a3; have cd := zM1 a3; have ce := Z3 a3.out 0; have cf := Z3 a3.out 1))
    go_ret;exact ⟨er, zs⟩
 replace c4 := Bool.eq_false_iff.mpr c4;subst c4;rw [if_neg (show ¬ (false = true) by decide)] at H;obtain rfl := zk4 H;exact absurd hr_.out (by decide)
def Z5b.f (a0 : Int) : Option (Bool × Int × Int) := some (((Go.bits .and .u64 a0 9223372036854775808) != 0), wrap64 (Go.bits .and .u64 (a0 / 4503599627370496) 2047), Go.bits .and .u64 a0 4503599627370495)
def Z4K.f (a0 : Int) : Option (Bool) := (Z1N.f a0).bind fun a1 => (some (decide (a1 < 9218868437227405312)))
def Z7B.f (a0 : Int) : Option (Int × Int) := (Z4K.f a0).bind fun a2 => (if a2 = true then ((Z5b.f a0).bind fun a1 => (some (wrap64 ((mx a1.2.1 1) - 1075), 0))) else (some (0, 5)))
end Go.Proofs.YtjnfipkbgmdpaaaGreatDoor.PAll
