/- Printed functions. -/
import Derived.Test.YtjnfipkbgmdpaaaGreatDoorXAlgRisesP2
namespace Go.Proofs.YtjnfipkbgmdpaaaGreatDoor.PAll
open RowKit YtjnfipkbgmdpaaaGreatDoorW.PrintWords YtjnfipkbgmdpaaaGreatDoorW.PrintLast YtjnfipkbgmdpaaaGreatDoorW.PrintMore YtjnfipkbgmdpaaaGreatDoorW.PrintWords.Kd
attribute [local go_sem] Z1k Z1l Z1G Z1H Z16 Z17 Z1m Z1n
set_option linter.unusedVariables false
set_option maxHeartbeats 8000000
set_option maxRecDepth 100000
set_option linter.unusedSimpArgs false
attribute [local go_sem] fld77_0 fld77_1 fld77_2 ext153 ext154
def ZS.j0 : Nat → Int → Int → Bool → Option (Int × Bool)
 | 0, _, _, _ => none
 | k + 1, x5, x6, x7 => if x6 < 4503599627370496 then (some (x6, x7)) else (if x5 > 971 then (some (9218868437227405312, true)) else (some (IntKind.u64.wrap ((IntKind.u64.wrap ((IntKind.u64.wrap ((IntKind.u64.wrap (wrap64 (x5 + 1075))) * 4503599627370496)) + x6)) - 4503599627370496), x7)))
def ZS.f (k : Nat) (a3 : List Int) (a4 : Int) : Option (Int × Bool) := (Z0P.f k a3 a4).bind fun a2 => ((Z0n.f a3 a4).bind fun a5 => (if a5 = true then (some (0, false)) else (if a2 > 1024 then (some (9218868437227405312, true)) else (if a2 < (-1074) then (some (0, true)) else ((Z1q.f k a3 a4 (mx (wrap64 (a2 - 53)) (-1074))).bind fun a1 => (if a1.1 = 9007199254740992 then (ZS.j0 k (wrap64 ((mx (wrap64 (a2 - 53)) (-1074)) + 1)) (a1.1 / 2) a1.2) else (ZS.j0 k (mx (wrap64 (a2 - 53)) (-1074)) a1.1 a1.2)))))))
theorem ZS.calls (k : Nat) (a8 : Option Addr) (a9 : Nat) (a2 : List Int) (a3 : Int) (r1 : Int) (r2 : Bool) (w : World) (ai : Kd.C Zu w a8 a2.length a2) (aj : a2.length ≤ a9) (hT : Laid w) (h : ZS.f k a2 a3 = some (r1, r2)) :
  Calls Tryz.prog 106 #[.agg #[.slice a8 a2.length a9, .int .i64 a3]] w fun e w' => e = .returned (.tuple #[.int .u64 r1, .bool r2]) ∧ Below w.heap.size w w' := by
 have hu118 := Tryz.underlying118;have a5 := zA ai;have a6 := zA aj;clear ai aj;have HB := zA (Below.refl w.heap.size w);have H := h
 unfold ZS.f at H
 clear h;obtain ⟨a7, A2, H⟩ := zh H;obtain ⟨au, A3, H⟩ := zh H
 by_cases c4 : au = true
 ·subst c4;rw [if_pos rfl] at H;simp only [zk3, zk5] at H;obtain ⟨rfl, rfl⟩ := H;go_enter Tryz.func106, Tryz.ntmps106
  go_wp2_with (first | ((with_reducible refine zD 1 rfl ?_); refine zn (N := 1) (cs := #[.slice a8 a2.length a9, .int .i64 a3]) (t := 118) rfl rfl ?_; intro aa hg w5 hbox hb; have a1 := zA (hbox); have ae := zw hg; replace HB := ze hb; clear hb hbox hg; have aY := zM0 a1; have az := zM1 a1; have aZ := Z3 a1.out 0; have b1 := Z3 a1.out 1) | ((with_reducible refine zG 147 rfl ?_); refine zC (some 9) Tryz.func147 (Z0P.calls k _ _ a2 a3 a7 _ (zk (ZF a5.out HB.out)) (a6.out) A2.out) ?_; rintro e w7 ⟨rfl, hb⟩; refine ⟨_, rfl, ?_⟩; replace a1 := zb a1 hb; replace HB := zf hb; have b2 := zM0 a1; have b3 := zM1 a1; have b4 := Z3 a1.out 0; have b5 := Z3 a1.out 1) | ((with_reducible refine zG 108 rfl ?_); refine zC (some 12) Tryz.func108 (Z0n.calls _ _ a2 a3 true _ (zk (ZF a5.out HB.out)) (a6.out) A3.out) ?_; rintro e w9 ⟨rfl, hb⟩; refine ⟨_, rfl, ?_⟩; replace a1 := zb a1 hb; replace HB := zf hb))
  go_ret2
  exact ⟨er, zs⟩
 replace c4 := Bool.eq_false_iff.mpr c4;subst c4;rw [if_neg (show ¬ (false = true) by decide)] at H
 by_cases c10 : a7 > 1024
 ·rw [if_pos c10] at H;have al := dT c10;clear c10;simp only [zk3, zk5] at H;obtain ⟨rfl, rfl⟩ := H;go_enter Tryz.func106, Tryz.ntmps106
  go_wp2_with (first | ((with_reducible refine zD 1 rfl ?_); refine zn (N := 1) (cs := #[.slice a8 a2.length a9, .int .i64 a3]) (t := 118) rfl rfl ?_; intro aa hg w11 hbox hb; have a1 := zA (hbox); have ae := zw hg; replace HB := ze hb; clear hb hbox hg; have av := zM0 a1; have aw := zM1 a1; have ax := Z3 a1.out 0; have ay := Z3 a1.out 1) | ((with_reducible refine zG 147 rfl ?_); refine zC (some 9) Tryz.func147 (Z0P.calls k _ _ a2 a3 a7 _ (zk (ZF a5.out HB.out)) (a6.out) A2.out) ?_; rintro e w13 ⟨rfl, hb⟩; refine ⟨_, rfl, ?_⟩; replace a1 := zb a1 hb; replace HB := zf hb; have aA := zM0 a1; have aB := zM1 a1; have aC := Z3 a1.out 0; have aD := Z3 a1.out 1) | ((with_reducible refine zG 108 rfl ?_); refine zC (some 12) Tryz.func108 (Z0n.calls _ _ a2 a3 false _ (zk (ZF a5.out HB.out)) (a6.out) A3.out) ?_; rintro e w15 ⟨rfl, hb⟩; refine ⟨_, rfl, ?_⟩; replace a1 := zb a1 hb; replace HB := zf hb))
  go_ret2
  exact ⟨er, zs⟩
 rw [if_neg c10] at H;have al := dF c10;clear c10
 by_cases c16 : a7 < (-1074)
 ·rw [if_pos c16] at H;have am := dT c16;clear c16;simp only [zk3, zk5] at H;obtain ⟨rfl, rfl⟩ := H;go_enter Tryz.func106, Tryz.ntmps106
  go_wp2_with (first | ((with_reducible refine zD 1 rfl ?_); refine zn (N := 1) (cs := #[.slice a8 a2.length a9, .int .i64 a3]) (t := 118) rfl rfl ?_; intro aa hg w17 hbox hb; have a1 := zA (hbox); have ae := zw hg; replace HB := ze hb; clear hb hbox hg; have aE := zM0 a1; have aF := zM1 a1; have aG := Z3 a1.out 0; have aH := Z3 a1.out 1) | ((with_reducible refine zG 147 rfl ?_); refine zC (some 9) Tryz.func147 (Z0P.calls k _ _ a2 a3 a7 _ (zk (ZF a5.out HB.out)) (a6.out) A2.out) ?_; rintro e w19 ⟨rfl, hb⟩; refine ⟨_, rfl, ?_⟩; replace a1 := zb a1 hb; replace HB := zf hb; have aI := zM0 a1; have aJ := zM1 a1; have aK := Z3 a1.out 0; have aL := Z3 a1.out 1) | ((with_reducible refine zG 108 rfl ?_); refine zC (some 12) Tryz.func108 (Z0n.calls _ _ a2 a3 false _ (zk (ZF a5.out HB.out)) (a6.out) A3.out) ?_; rintro e w21 ⟨rfl, hb⟩; refine ⟨_, rfl, ?_⟩; replace a1 := zb a1 hb; replace HB := zf hb))
  go_ret2
  exact ⟨er, zs⟩
 rw [if_neg c16] at H;have am := dF c16;clear c16;generalize a4 : mx (wrap64 (a7 - 53)) (-1074) = ad at H;(try rw [a4] at A2);(try rw [a4] at A3);have hji22_ : (if (wrap64 (a7 - 53)) < (-1074) then (-1074) else (wrap64 (a7 - 53))) = ad := a4;obtain ⟨⟨af, ak⟩, b6, H⟩ := zh H;(try dsimp only at H);have ah := zA H;clear H;go_enter Tryz.func106, Tryz.ntmps106
 go_upto_if 29 with (first | ((with_reducible refine zD 1 rfl ?_); refine zn (N := 1) (cs := #[.slice a8 a2.length a9, .int .i64 a3]) (t := 118) rfl rfl ?_; intro aa hg w25 hbox hb; have a1 := zA (hbox); have ae := zw hg; replace HB := ze hb; clear hb hbox hg; have aM := zM0 a1; have aN := zM1 a1; have aO := Z3 a1.out 0; have aP := Z3 a1.out 1) | ((with_reducible refine zG 147 rfl ?_); refine zC (some 9) Tryz.func147 (Z0P.calls k _ _ a2 a3 a7 _ (zk (ZF a5.out HB.out)) (a6.out) A2.out) ?_; rintro e w27 ⟨rfl, hb⟩; refine ⟨_, rfl, ?_⟩; replace a1 := zb a1 hb; replace HB := zf hb; have aQ := zM0 a1; have aR := zM1 a1; have aS := Z3 a1.out 0; have aT := Z3 a1.out 1) | ((with_reducible refine zG 108 rfl ?_); refine zC (some 12) Tryz.func108 (Z0n.calls _ _ a2 a3 false _ (zk (ZF a5.out HB.out)) (a6.out) A3.out) ?_; rintro e w29 ⟨rfl, hb⟩; refine ⟨_, rfl, ?_⟩; replace a1 := zb a1 hb; replace HB := zf hb; have aU := zM0 a1; have aV := zM1 a1; have aW := Z3 a1.out 0; have aX := Z3 a1.out 1) | ((with_reducible refine zG 148 rfl ?_); refine Z0H (some 25) rfl rfl Tryz.func148 (by kernel_rfl) rfl #[.agg #[.slice a8 a2.length a9, .int .i64 a3], .int .i64 ad] rfl (by (try simp only [zk7, zkd, zkf]); first | done | (simp only [a4]; rfl) | rfl | (simp only [zke, zk8]; rfl)) ?_; (with_reducible refine (Z1q.calls k _ _ a2 a3 ad af ak _ ?an ?ao (laid_below hT zs) b6.out).mono ?_); (case an => exact zk (ZF a5.out HB.out)); (case ao => exact a6.out); rintro e w31 ⟨rfl, hb⟩; refine ⟨_, rfl, ?_⟩; replace a1 := zb a1 hb; replace HB := zf hb))
 (try simp only [Act.put, zkm, zkv, zkw])
 go_cut [5, 6] (fun v5 v6 wc => ∃ (kq : Nat) (ab : Int) (ac : Int), v5 = .int .i64 ab ∧ v6 = .int .u64 ac ∧ Aside0 (ZS.j0 kq ab ac ak = some (r1, r2)) ∧ Aside0 (kq ≤ k) ∧ Aside0 (wc.heap[aa]? = some (.cells #[(.slice a8 a2.length a9), .int .i64 a3] 118 (0, 0))) ∧ Aside0 (Below w.heap.size w wc))
 case first =>
  have H := ah.out;clear ah
  by_cases c32 : af = 9007199254740992
  ·rw [if_pos c32] at H;have ag := eT c32;have ap := nF c32;clear c32;(try rw [ag]);have H' := zA H;clear H
   go_wp2
   go_meet
   case rel => exact ⟨_, (wrap64 ((ad) + 1)), (af / 2), (by first | rfl | (simp; done) | (simp only [← a4] <;> (first | rfl | simp)) | (simp [*]; done)), zi, (by first | exact H' | (simp only [a4]; exact H') | (simp only [a4] at H' ⊢; exact H')), zB0, ⟨zu a1⟩, ⟨zs⟩⟩
  rw [if_neg c32] at H;have ag := eF c32;have ap := nT c32;(try rw [ag]);have H' := zA H;clear H
  go_wp2
  go_meet
  case rel => exact ⟨_, (ad), (af), (by first | rfl | (simp; done) | (simp only [← a4] <;> (first | rfl | simp)) | (simp [*]; done)), zi, (by first | exact H' | (simp only [a4]; exact H') | (simp only [a4] at H' ⊢; exact H')), zB0, ⟨zu a1⟩, ⟨zs⟩⟩
 case rest =>
  clear ah;obtain ⟨kq, ab, ac, rfl, rfl, HA, b7, a1, HB⟩ := hcut
  cases kq with
  | zero => exact absurd HA.out (by simp [ZS.j0])
  | succ b8 =>
   have H := HA.out;clear HA;simp only [ZS.j0] at H
   by_cases c33 : ac < 4503599627370496
   ·rw [if_pos c33] at H;have aq := dT c33;clear c33;simp only [zk3, zk5] at H;obtain ⟨rfl, rfl⟩ := H
    go_wp2
    go_ret2
    exact ⟨by first | rfl | (simp [errW_none, errW_some] <;> rfl) | (simp only [← a4]; first | rfl | (simp [errW_none, errW_some] <;> rfl)) | (simp [*, errW_none, errW_some] <;> rfl), zs⟩
   rw [if_neg c33] at H;have aq := dF c33;clear c33
   by_cases c34 : ab > 971
   ·rw [if_pos c34] at H;have ar := dT c34;clear c34;simp only [zk3, zk5] at H;obtain ⟨rfl, rfl⟩ := H
    go_wp2
    go_ret2
    exact ⟨by first | rfl | (simp [errW_none, errW_some] <;> rfl) | (simp only [← a4]; first | rfl | (simp [errW_none, errW_some] <;> rfl)) | (simp [*, errW_none, errW_some] <;> rfl), zs⟩
   rw [if_neg c34] at H;have ar := dF c34;clear c34;simp only [zk3, zk5] at H;obtain ⟨rfl, rfl⟩ := H
   go_wp2
   go_ret2
   exact ⟨by first | rfl | (simp [errW_none, errW_some] <;> rfl) | (simp only [← a4]; first | rfl | (simp [errW_none, errW_some] <;> rfl)) | (simp [*, errW_none, errW_some] <;> rfl), zs⟩
def Z1z.f (k : Nat) (a1 : List Int) (a2 : Int) : Option (Bool) := (Z0n.f a1 a2).bind fun a5 => (if a5 = true then (some false) else ((Z0P.f k a1 a2).bind fun a3 => (if a3 = (-1022) then ((Z1q.f k a1 a2 (wrap64 (a3 - 53))).bind fun a4 => (some (decide (a4.1 < 9007199254740992)))) else (some (decide (a3 < (-1022)))))))
theorem Z1z.calls (k : Nat) (a6 : Option Addr) (a7 : Nat) (a2 : List Int) (a3 : Int) (r : Bool) (w : World) (a9 : Kd.C Zu w a6 a2.length a2) (aa : a2.length ≤ a7) (hT : Laid w) (h : Z1z.f k a2 a3 = some r) :
  Calls Tryz.prog 107 #[.agg #[.slice a6 a2.length a7, .int .i64 a3]] w fun e w' => e = .returned (.bool r) ∧ Below w.heap.size w w' := by
 have hu118 := Tryz.underlying118;have a4 := zA a9;have a5 := zA aa;clear a9 aa;have HB := zA (Below.refl w.heap.size w);have H := h
 unfold Z1z.f at H
 clear h;obtain ⟨ab, A2, H⟩ := zh H
 by_cases c3 : ab = true
 subst c3;rw [if_pos rfl] at H;rotate_left;replace c3 := Bool.eq_false_iff.mpr c3;subst c3;rw [if_neg (show ¬ (false = true) by decide)] at H;obtain ⟨a8, A7, H⟩ := zh H
 by_cases c8 : a8 = (-1022)
 rw [if_pos c8] at H;have ac := eT c8;have ad := nF c8;clear c8;obtain ⟨⟨ae, af⟩, A9, H⟩ := zh H;(try dsimp only at H);rotate_left;rw [if_neg c8] at H;have ac := eF c8;have ad := nT c8;rotate_left
 all_goals
  obtain rfl := zk4 H;go_enter Tryz.func107, Tryz.ntmps107
  go_wp2_with (first | ((with_reducible refine zD 1 rfl ?_); refine zn (N := 1) (cs := #[.slice a6 a2.length a7, .int .i64 a3]) (t := 118) rfl rfl ?_; intro au hg w4 hbox hb; have a1 := zA (hbox); have av := zw hg; replace HB := ze hb; clear hb hbox hg; have ao := zM0 a1; have ap := zM1 a1; have aq := Z3 a1.out 0; have ar := Z3 a1.out 1) | ((with_reducible refine zG 108 rfl ?_); refine zC (some 7) Tryz.func108 (Z0n.calls _ _ a2 a3 true _ (zk (ZF a4.out HB.out)) (a5.out) A2.out) ?_; rintro e w6 ⟨rfl, hb⟩; refine ⟨_, rfl, ?_⟩; replace a1 := zb a1 hb; replace HB := zf hb) | ((with_reducible refine zG 108 rfl ?_); refine zC (some 7) Tryz.func108 (Z0n.calls _ _ a2 a3 false _ (zk (ZF a4.out HB.out)) (a5.out) A2.out) ?_; rintro e w12 ⟨rfl, hb⟩; refine ⟨_, rfl, ?_⟩; replace a1 := zb a1 hb; replace HB := zf hb; have ag := zM0 a1; have ah := zM1 a1; have ai := Z3 a1.out 0; have aj := Z3 a1.out 1) | ((with_reducible refine zG 147 rfl ?_); refine zC (some 9) Tryz.func147 (Z0P.calls k _ _ a2 a3 a8 _ (zk (ZF a4.out HB.out)) (a5.out) A7.out) ?_; rintro e w14 ⟨rfl, hb⟩; refine ⟨_, rfl, ?_⟩; replace a1 := zb a1 hb; replace HB := zf hb; (try (have ak := zM0 a1; have al := zM1 a1; have am := Z3 a1.out 0; have an := Z3 a1.out 1))) | ((with_reducible refine zG 148 rfl ?_); refine zC (some 18) Tryz.func148 (Z1q.calls k _ _ a2 a3 (wrap64 (a8 - 53)) ae af _ (zk (ZF a4.out HB.out)) (a5.out) (laid_below hT zs) A9.out) ?_; rintro e w16 ⟨rfl, hb⟩; refine ⟨_, rfl, ?_⟩; replace a1 := zb a1 hb; replace HB := zf hb))
  go_ret;exact ⟨er, zs⟩
def Z3t.f (a0 : Int) : Option (Int) := some (Go.bits .xor .u64 a0 9223372036854775808)
theorem Z3t.calls (a0 : Int) (r : Int) (w : World) (h : Z3t.f a0 = some r) :
  Calls Tryz.prog 109 #[.int .u64 a0] w fun e w' => e = .returned (.int .u64 r) ∧ Drawn0 w w' := by
 have H := h
 unfold Z3t.f at H
 clear h;obtain rfl := zk4 H;go_enter Tryz.func109, Tryz.ntmps109
 go_wp2
 go_ret;exact ⟨by first | rfl | (simp; done) | (simp [*]; done), by repeat (first | exact Drawn0.refl _ | apply Drawn0.step)⟩
def Z12.j0 : Nat → Bool → List Int → Int → List Int → Int → Int → Int → Option (Int × Int)
 | 0, _, _, _, _, _, _, _ => none
 | k + 1, a3, a8, a9, a4, a5, a1, a2 => if a3 = true then ((Z0n.f a4 a5).bind fun a6 => (if a6 = true then (some (a1, a2)) else ((Z3t.f a1).bind fun a7 => (some (a7, a2))))) else (some (a1, a2))
def Z12.f (k : Nat) (a3 : Bool) (a4 : List Int) (a5 : Int) : Option (Int × Int) := (Z3s.f k a3 a4 a5).bind fun a1 => ((ZS.f k a1.1 a1.2).bind fun a2 => (if a2.2 = true then (if a2.1 = 9218868437227405312 then (Z12.j0 k a3 a4 a5 a1.1 a1.2 a2.1 (Go.bits .or .u8 16 4)) else ((Z1z.f k a1.1 a1.2).bind fun a6 => (if a6 = true then (Z12.j0 k a3 a4 a5 a1.1 a1.2 a2.1 (Go.bits .or .u8 16 8)) else (Z12.j0 k a3 a4 a5 a1.1 a1.2 a2.1 16)))) else (Z12.j0 k a3 a4 a5 a1.1 a1.2 a2.1 0)))
theorem cells2_ {P : Program} {ops : Array Oper} {Q : Exit → Act → World → Prop} {W : World} {o : Oper} {rest : List Oper} {a : Act} {g : Nat} {t : TypeId} {cs : Array Value} (hb : W.heap[g]? = some (.cells cs t (0, 0)))
  (h : W.cell? ⟨g, 0, none⟩ = cs[0]? → W.cell? ⟨g, 1, none⟩ = cs[1]? → wpList P ops Q (o :: rest) a W) : wpList P ops Q (o :: rest) a W := h (Zs hb 0) (Zs hb 1)
theorem Z12.calls (k : Nat) (aw : Bool) (aA : Option Addr) (aB : Nat) (ar : List Int) (ax : Int) (r1 : Int) (r2 : Int) (w : World) (aE : Kd.C Zu w aA ar.length ar) (aF : ar.length ≤ aB) (hT : Laid w) (h : Z12.f k aw ar ax = some (r1, r2)) :
  Calls Tryz.prog 71 #[.agg #[.bool aw, .slice aA ar.length aB, .int .i64 ax]] w fun e w' => e = .returned (.agg #[.int .u64 r1, .int .u8 r2]) ∧ Below w.heap.size w w' := by
 have hu34 := Tryz.underlying34;have hu25 := Tryz.underlying25;have hu118 := Tryz.underlying118;have aJ := zA aE;have aK := zA aF;clear aE aF;have HB := zA (Below.refl w.heap.size w);have H := h
 unfold Z12.f at H
 clear h;obtain ⟨⟨ac, al⟩, A2, H⟩ := zh H;(try dsimp only at H);obtain ⟨⟨a9, aH⟩, A3, H⟩ := zh H;(try dsimp only at H);have aI := zA H;clear H;go_enter Tryz.func71, Tryz.ntmps71
 go_upto_if 16 with (first | ((with_reducible refine zD 1 rfl ?_); refine zn (N := 1) (cs := #[.bool aw, .slice aA ar.length aB, .int .i64 ax]) (t := 34) rfl rfl ?_; intro aG hg w5 hbox hb; have a4 := zA (hbox); have bQ := zw hg; replace HB := ze hb; clear hb hbox hg) | ((with_reducible refine zD 2 rfl ?_); refine zn (N := 2) (cs := #[.int .u64 0, .int .u8 0]) (t := 25) rfl rfl ?_; intro ay hg w6 hbox hb; have a2 := zA (hbox); have bR := zx hg; replace HB := zf hb; have ap := zl a4 hg; have aq := zg a4 hg; replace a4 := zb a4 hb; clear hb hbox hg; have cW := ap.out; have cX := aq.out; obtain ⟨_, _, _, _, _, _⟩ := zc a4) | ((with_reducible refine zG 105 rfl ?_); refine zC (some 8) Tryz.func105 (Z3s.calls k aw _ _ ar ax ac al _ (zk (ZF aJ.out HB.out)) (aK.out) A2.out) ?_; rintro e w9 ⟨v503, rfl, bO, hb⟩; refine ⟨_, rfl, ?_⟩; have aa := zA (Zl bO (Z2 zs)); replace a4 := zb a4 hb; replace a2 := zb a2 hb; replace HB := zf hb) | ((with_reducible refine zD 3 rfl ?_); refine zn (N := 3) (cs := #[.slice none 0 0, .int .i64 0]) (t := 118) rfl rfl ?_; intro au hg w10 hbox hb; replace aa := zA (Zt (ru aa.out) hb); have a3 := zA (hbox); have bS := zx hg; replace HB := zf hb; have ah := zl a4 hg; have ai := zg a4 hg; replace a4 := zb a4 hb; have aj := zl a2 hg; have ak := zg a2 hg; replace a2 := zb a2 hb; clear hb hbox hg; obtain ⟨av, ao, aO⟩ := Zx aa.out; subst aO; have bT := ai.out; have bU := ah.out; have bV := ak.out; have bW := aj.out; have aR := zM0 a3; have aS := zM1 a3; have aT := Z3 a3.out 0; have aU := Z3 a3.out 1) | ((with_reducible refine zG 106 rfl ?_); refine zC (some 11) Tryz.func106 (ZS.calls k _ _ ac al a9 aH _ ?am ?an (laid_below hT zs) A3.out) ?_; (case am => refine (Z8 (e := 22) (base := w.heap.size) (ok := fun k_ => True) (n := ac.length) (c := ao) ?_).2.2; exact (ru (ZB (Z0Z (p := ⟨au, 1, none⟩) (Z0Z (p := ⟨au, 0, none⟩) (Z0i aa.out a3.out (by decide)) (fun _ hk => hk.2) (.slice av ac.length ao)) (fun _ hk => hk.2) (.int .i64 al)) (fun _ h_ => h_.1)))); (case an => exact (Z8 aa.out).2.1); rintro e w15 ⟨rfl, hb⟩; refine ⟨_, rfl, ?_⟩; replace aa := zA (Zt (ru (ZB (Z0Z (p := ⟨au, 1, none⟩) (Z0Z (p := ⟨au, 0, none⟩) (Z0i aa.out a3.out (by decide)) (fun _ hk => hk.2) (.slice av ac.length ao)) (fun _ hk => hk.2) (.int .i64 al)) (fun _ h_ => h_.1))) hb); replace a4 := zF a4 hb; replace a2 := zF a2 hb; replace a3 := zA (Zv (g := au) (o := .cells #[.slice av ac.length ao, .int .i64 al] 118 (0, 0)) (by (with_reducible repeat (first | refine Zi ?_ _ | refine Z9 ?_ | refine Zh ?_ _)); refine Zb (cs := #[.slice av ac.length ao, .int .i64 0]) ?_ 1 _ rfl; refine Zb (cs := #[.slice none 0 0, .int .i64 0]) ?_ 0 _ rfl; exact a3.out) hb); replace HB := zf hb) | ((with_reducible refine zD 6 rfl ?_); refine zn (N := 6) (cs := #[.int .u64 0, .int .u8 0]) (t := 25) rfl rfl ?_; intro a8 hg w16 hbox hb; replace aa := zA (Zt (ru aa.out) hb); have a1 := zA (hbox); have bX := zx hg; replace HB := zf hb; have a6 := zl a4 hg; have ae := zg a4 hg; replace a4 := zb a4 hb; have a5 := zl a2 hg; have af := zg a2 hg; replace a2 := zb a2 hb; have a7 := zl a3 hg; have ag := zg a3 hg; replace a3 := zb a3 hb; clear hb hbox hg; have bY := ae.out; have bz := a6.out; have bZ := af.out; have c1 := a5.out; have c2 := ag.out; have c3 := a7.out; have aV := zM0 a1; have aW := zM1 a1; have aX := Z3 a1.out 0; have aY := Z3 a1.out 1))
 (try simp only [Act.put, zkm, zkv, zkw])
 go_cut [] (fun wc => ∃ (kq : Nat) (ad : Int), Aside0 (Z12.j0 kq aw ar ax ac al a9 ad = some (r1, r2)) ∧ Aside0 (kq ≤ k) ∧ Aside0 (Kd.R Zu 22 wc w.heap.size (fun _ => True) (.slice av ac.length ao) ac) ∧ Aside0 (wc.heap[aG]? = some (.cells #[.bool aw, (.slice aA ar.length aB), .int .i64 ax] 34 (0, 0))) ∧ Aside0 (wc.heap[ay]? = some (.cells #[.int .u64 0, .int .u8 0] 25 (0, 0))) ∧ Aside0 (wc.heap[au]? = some (.cells #[(.slice av ac.length ao), .int .i64 al] 118 (0, 0))) ∧ Aside0 (wc.heap[a8]? = some (.cells #[.int .u64 a9, .int .u8 ad] 25 (0, 0))) ∧ Aside0 (Below w.heap.size w wc))
 case first =>
  have H := aI.out;clear aI
  by_cases c21 : aH = true
  ·subst c21;rw [if_pos rfl] at H
   by_cases c22 : a9 = 9218868437227405312
   ·rw [if_pos c22] at H;have aC := eT c22;have aL := nF c22;clear c22;(try rw [aC]);have H' := zA H;clear H;have c4 := ae.out;have c5 := a6.out;have c6 := af.out;have c7 := a5.out;have c8 := ag.out;have c9 := a7.out;have az := zM0 a1;have aZ := zM1 a1;have b1 := Z3 a1.out 0;have b2 := Z3 a1.out 1
    go_wp2_with ((with_reducible refine zD 21 rfl ?_); refine cells2_ (g := a8) (t := 25) (cs := #[.int .u64 a9, .int .u8 16]) ?hb ?_; (case hb => refine Zb (cs := #[.int .u64 a9, .int .u8 0]) ?_ 1 _ rfl; refine Zb (cs := #[.int .u64 a9, .int .u8 0]) ?_ 1 _ rfl; refine Zb (cs := #[.int .u64 0, .int .u8 0]) ?_ 0 _ rfl; exact a1.out); intro q0_ q1_; replace q0_ := q0_.trans rfl; replace q1_ := q1_.trans rfl; go_step)
    go_meet
    case rel => exact ⟨_, (Go.bits .or .u8 16 4), H', zB0, ⟨ru (ZB (Z0Z (p := ⟨a8, 1, none⟩) (Z0Z (p := ⟨a8, 1, none⟩) (Z0Z (p := ⟨a8, 1, none⟩) (Z0Z (p := ⟨a8, 0, none⟩) (Z0i aa.out a1.out (by decide)) (fun _ hk => hk.2) (.int .u64 a9)) (fun _ hk => hk.2) (.int .u8 0)) (fun _ hk => hk.2) (.int .u8 16)) (fun _ hk => hk.2) (.int .u8 (Go.bits .or .u8 16 4))) (fun _ hk => trivial))⟩, ⟨by (with_reducible repeat (first | refine Zi ?_ _ | refine Z9 ?_ | refine Zh ?_ _)); refine Zf ?_ a6.out _; refine Zf ?_ a6.out _; refine Zf ?_ a6.out _; refine Zf ?_ a6.out _; exact a4.out⟩, ⟨by (with_reducible repeat (first | refine Zi ?_ _ | refine Z9 ?_ | refine Zh ?_ _)); refine Zf ?_ a5.out _; refine Zf ?_ a5.out _; refine Zf ?_ a5.out _; refine Zf ?_ a5.out _; exact a2.out⟩, ⟨by (with_reducible repeat (first | refine Zi ?_ _ | refine Z9 ?_ | refine Zh ?_ _)); refine Zf ?_ a7.out _; refine Zf ?_ a7.out _; refine Zf ?_ a7.out _; refine Zf ?_ a7.out _; exact a3.out⟩, ⟨by (with_reducible repeat (first | refine Zi ?_ _ | refine Z9 ?_ | refine Zh ?_ _)); refine Zb (cs := #[.int .u64 a9, .int .u8 16]) ?_ 1 _ rfl; refine Zb (cs := #[.int .u64 a9, .int .u8 0]) ?_ 1 _ rfl; refine Zb (cs := #[.int .u64 a9, .int .u8 0]) ?_ 1 _ rfl; refine Zb (cs := #[.int .u64 0, .int .u8 0]) ?_ 0 _ rfl; exact a1.out⟩, ⟨zs⟩⟩
   rw [if_neg c22] at H;have aC := eF c22;have aL := nT c22;(try rw [aC]);obtain ⟨aP, aM, H⟩ := zh H
   by_cases c28 : aP = true
   subst c28;rw [if_pos rfl] at H;rotate_left;replace c28 := Bool.eq_false_iff.mpr c28;subst c28;rw [if_neg (show ¬ (false = true) by decide)] at H;rotate_left
   all_goals
    have H' := zA H;clear H;have ca := ae.out;have cb := a6.out;have cc := af.out;have cd := a5.out;have ce := ag.out;have cf := a7.out;have b3 := zM0 a1;have b4 := zM1 a1;have b5 := Z3 a1.out 0;have b6 := Z3 a1.out 1;have cg := ai.out;have ch := ah.out;have ci := ak.out;have cj := aj.out;have b7 := zM0 a3;have b8 := zM1 a3;have b9 := Z3 a3.out 0;have ba := Z3 a3.out 1
    go_wp2_with (first | ((with_reducible refine zG 107 rfl ?_); refine zC (some 27) Tryz.func107 (Z1z.calls k _ _ ac al true _ ?am ?an (laid_below hT zs) aM.out) ?_; (case am => refine (Z8 (e := 22) (base := w.heap.size) (ok := fun k_ => True) (n := ac.length) (c := ao) ?_).2.2; exact (ru (ZB (Z0Z (p := ⟨a8, 1, none⟩) (Z0Z (p := ⟨a8, 1, none⟩) (Z0Z (p := ⟨a8, 0, none⟩) (Z0i aa.out a1.out (by decide)) (fun _ hk => hk.2) (.int .u64 a9)) (fun _ hk => hk.2) (.int .u8 0)) (fun _ hk => hk.2) (.int .u8 16)) (fun _ h_ => h_.1)))); (case an => exact (Z8 aa.out).2.1); rintro e w36 ⟨rfl, hb⟩; refine ⟨_, rfl, ?_⟩; replace aa := zA (Zt (ru (ZB (Z0Z (p := ⟨a8, 1, none⟩) (Z0Z (p := ⟨a8, 1, none⟩) (Z0Z (p := ⟨a8, 0, none⟩) (Z0i aa.out a1.out (by decide)) (fun _ hk => hk.2) (.int .u64 a9)) (fun _ hk => hk.2) (.int .u8 0)) (fun _ hk => hk.2) (.int .u8 16)) (fun _ h_ => h_.1))) hb); replace a4 := zF a4 hb; replace a2 := zF a2 hb; replace a3 := zF a3 hb; replace a1 := zA (Zv (g := a8) (o := .cells #[.int .u64 a9, .int .u8 16] 25 (0, 0)) (by (with_reducible repeat (first | refine Zi ?_ _ | refine Z9 ?_ | refine Zh ?_ _)); refine Zb (cs := #[.int .u64 a9, .int .u8 0]) ?_ 1 _ rfl; refine Zb (cs := #[.int .u64 a9, .int .u8 0]) ?_ 1 _ rfl; refine Zb (cs := #[.int .u64 0, .int .u8 0]) ?_ 0 _ rfl; exact a1.out) hb); replace HB := zf hb; have bb := zM0 a1; have bc := zM1 a1; have bd := Z3 a1.out 0; have be := Z3 a1.out 1) | ((with_reducible refine zG 107 rfl ?_); refine zC (some 27) Tryz.func107 (Z1z.calls k _ _ ac al false _ ?am ?an (laid_below hT zs) aM.out) ?_; (case am => refine (Z8 (e := 22) (base := w.heap.size) (ok := fun k_ => True) (n := ac.length) (c := ao) ?_).2.2; exact (ru (ZB (Z0Z (p := ⟨a8, 1, none⟩) (Z0Z (p := ⟨a8, 1, none⟩) (Z0Z (p := ⟨a8, 0, none⟩) (Z0i aa.out a1.out (by decide)) (fun _ hk => hk.2) (.int .u64 a9)) (fun _ hk => hk.2) (.int .u8 0)) (fun _ hk => hk.2) (.int .u8 16)) (fun _ h_ => h_.1)))); (case an => exact (Z8 aa.out).2.1); rintro e w45 ⟨rfl, hb⟩; refine ⟨_, rfl, ?_⟩; replace aa := zA (Zt (ru (ZB (Z0Z (p := ⟨a8, 1, none⟩) (Z0Z (p := ⟨a8, 1, none⟩) (Z0Z (p := ⟨a8, 0, none⟩) (Z0i aa.out a1.out (by decide)) (fun _ hk => hk.2) (.int .u64 a9)) (fun _ hk => hk.2) (.int .u8 0)) (fun _ hk => hk.2) (.int .u8 16)) (fun _ h_ => h_.1))) hb); replace a4 := zF a4 hb; replace a2 := zF a2 hb; replace a3 := zF a3 hb; replace a1 := zA (Zv (g := a8) (o := .cells #[.int .u64 a9, .int .u8 16] 25 (0, 0)) (by (with_reducible repeat (first | refine Zi ?_ _ | refine Z9 ?_ | refine Zh ?_ _)); refine Zb (cs := #[.int .u64 a9, .int .u8 0]) ?_ 1 _ rfl; refine Zb (cs := #[.int .u64 a9, .int .u8 0]) ?_ 1 _ rfl; refine Zb (cs := #[.int .u64 0, .int .u8 0]) ?_ 0 _ rfl; exact a1.out) hb); replace HB := zf hb))
   ·go_meet
    case rel => exact ⟨_, (Go.bits .or .u8 16 8), H', zB0, ⟨ru (ZB (Z0Z (p := ⟨a8, 1, none⟩) (Z0i aa.out a1.out (by decide)) (fun _ hk => hk.2) (.int .u8 (Go.bits .or .u8 16 8))) (fun _ hk => trivial))⟩, ⟨by (with_reducible repeat (first | refine Zi ?_ _ | refine Z9 ?_ | refine Zh ?_ _)); refine Zf ?_ a6.out _; exact a4.out⟩, ⟨by (with_reducible repeat (first | refine Zi ?_ _ | refine Z9 ?_ | refine Zh ?_ _)); refine Zf ?_ a5.out _; exact a2.out⟩, ⟨by (with_reducible repeat (first | refine Zi ?_ _ | refine Z9 ?_ | refine Zh ?_ _)); refine Zf ?_ a7.out _; exact a3.out⟩, ⟨by (with_reducible repeat (first | refine Zi ?_ _ | refine Z9 ?_ | refine Zh ?_ _)); refine Zb (cs := #[.int .u64 a9, .int .u8 16]) ?_ 1 _ rfl; exact a1.out⟩, ⟨zs⟩⟩
   go_meet
   case rel => exact ⟨_, (16), H', zB0, ⟨ru aa.out⟩, ⟨zu a4⟩, ⟨zu a2⟩, ⟨zu a3⟩, ⟨zu a1⟩, ⟨zs⟩⟩
  replace c21 := Bool.eq_false_iff.mpr c21;subst c21;rw [if_neg (show ¬ (false = true) by decide)] at H;have H' := zA H;clear H
  go_wp2
  go_meet
  case rel => exact ⟨_, (0), H', zB0, ⟨ru (ZB (Z0Z (p := ⟨a8, 1, none⟩) (Z0Z (p := ⟨a8, 0, none⟩) (Z0i aa.out a1.out (by decide)) (fun _ hk => hk.2) (.int .u64 a9)) (fun _ hk => hk.2) (.int .u8 0)) (fun _ hk => trivial))⟩, ⟨by (with_reducible repeat (first | refine Zi ?_ _ | refine Z9 ?_ | refine Zh ?_ _)); refine Zf ?_ a6.out _; refine Zf ?_ a6.out _; exact a4.out⟩, ⟨by (with_reducible repeat (first | refine Zi ?_ _ | refine Z9 ?_ | refine Zh ?_ _)); refine Zf ?_ a5.out _; refine Zf ?_ a5.out _; exact a2.out⟩, ⟨by (with_reducible repeat (first | refine Zi ?_ _ | refine Z9 ?_ | refine Zh ?_ _)); refine Zf ?_ a7.out _; refine Zf ?_ a7.out _; exact a3.out⟩, ⟨by (with_reducible repeat (first | refine Zi ?_ _ | refine Z9 ?_ | refine Zh ?_ _)); refine Zb (cs := #[.int .u64 a9, .int .u8 0]) ?_ 1 _ rfl; refine Zb (cs := #[.int .u64 0, .int .u8 0]) ?_ 0 _ rfl; exact a1.out⟩, ⟨zs⟩⟩
 case rest =>
  clear aI;obtain ⟨kq, ad, HA, cY, ab, a4, a2, a3, a1, HB⟩ := hcut
  cases kq with
  | zero => exact absurd HA.out (by simp [Z12.j0])
  | succ cz =>
   have H := HA.out;clear HA;simp only [Z12.j0] at H
   by_cases c46 : aw = true
   ·subst c46;rw [if_pos rfl] at H;obtain ⟨aQ, aN, H⟩ := zh H
    by_cases c48 : aQ = true
    ·subst c48;rw [if_pos rfl] at H;simp only [zk3, zk5] at H;obtain ⟨rfl, rfl⟩ := H;have ck := ap.out;have cl := aq.out;have cm := ah.out;have cn := ai.out;have co := a6.out;have cp := ae.out;obtain ⟨_, _, _, _, _, _⟩ := zc a4;have cq := ak.out;have cr := aj.out;have ct := a7.out;have cu := ag.out;have bf := zM0 a3;have bg := zM1 a3;have bh := Z3 a3.out 0;have bi := Z3 a3.out 1
     go_wp2_with (first | (go_at_call 108; (with_reducible refine (Z0n.calls _ _ ac al true _ ?am ?an aN.out).mono ?_); (case am => exact zk (Z8 ab.out).2.2); (case an => exact (Z8 ab.out).2.1); rintro e w56 ⟨rfl, hb⟩; replace ab := zA (Zt (ru ab.out) hb); replace a4 := zb a4 hb; replace a2 := zb a2 hb; replace a3 := zb a3 hb; replace a1 := zb a1 hb; replace HB := zf hb; have cv := af.out; have cw := a5.out; have bj := zM0 a1; have bk := zM1 a1; have bl := Z3 a1.out 0; have bm := Z3 a1.out 1; have bn := zM0 a2; have bo := zM1 a2; have bp := Z3 a2.out 0; have br := Z3 a2.out 1))
     refine bodyPost_ret (results_cell_row rfl _ _ ay 25 #[.int .u64 a9, .int .u8 ad] (0, 0) _ rfl (by (with_reducible repeat (first | refine Zi ?_ _ | refine Z9 ?_ | refine Zh ?_ _)); refine Zb (cs := #[.int .u64 a9, .int .u8 0]) ?_ 1 _ rfl; refine Zb (cs := #[.int .u64 0, .int .u8 0]) ?_ 0 _ rfl; exact a2.out) Tryz.underlying25 rfl (by kernel_rfl)) rfl ?_;exact ⟨er, zs⟩
    replace c48 := Bool.eq_false_iff.mpr c48;subst c48;rw [if_neg (show ¬ (false = true) by decide)] at H;obtain ⟨aD, bP, H⟩ := zh H;simp only [zk3, zk5] at H;obtain ⟨rfl, rfl⟩ := H;have cx := ap.out;have cy := aq.out;have cA := ah.out;have cB := ai.out;have cC := a6.out;have cD := ae.out;obtain ⟨_, _, _, _, _, _⟩ := zc a4;have cE := ak.out;have cF := aj.out;have cG := a7.out;have cH := ag.out;have bs := zM0 a3;have bt := zM1 a3;have bu := Z3 a3.out 0;have bv := Z3 a3.out 1
    go_wp2_with (first | (go_at_call 108; (with_reducible refine (Z0n.calls _ _ ac al false _ ?am ?an aN.out).mono ?_); (case am => exact zk (Z8 ab.out).2.2); (case an => exact (Z8 ab.out).2.1); rintro e w68 ⟨rfl, hb⟩; replace ab := zA (Zt (ru ab.out) hb); replace a4 := zb a4 hb; replace a2 := zb a2 hb; replace a3 := zb a3 hb; replace a1 := zb a1 hb; replace HB := zf hb; have cI := af.out; have cJ := a5.out; have bw := zM0 a1; have bx := zM1 a1; have bA := Z3 a1.out 0; have bB := Z3 a1.out 1) | ((with_reducible refine zG 109 rfl ?_); refine zC (some 41) Tryz.func109 (Z3t.calls a9 aD _ bP.out) ?_; rintro e w' ⟨rfl, ⟨nd, rfl⟩⟩; refine ⟨_, rfl, ?_⟩; (try (rw [Z2v w68]; generalize hq_ : World.drewN w68 _ = w68; have n0_ : Aside0 (Kd.R Zu 22 w68 w.heap.size (fun _ => True) (.slice av ac.length ao) ac) := ⟨by rw [← hq_]; exact (ru ab.out)⟩; have n1_ : Aside0 (w68.heap[aG]? = some (.cells #[.bool true, .slice aA ar.length aB, .int .i64 ax] 34 (0, 0))) := ⟨by rw [← hq_]; exact (zu a4)⟩; have n2_ : Aside0 (w68.heap[ay]? = some (.cells #[.int .u64 0, .int .u8 0] 25 (0, 0))) := ⟨by rw [← hq_]; exact (zu a2)⟩; have n3_ : Aside0 (w68.heap[au]? = some (.cells #[.slice av ac.length ao, .int .i64 al] 118 (0, 0))) := ⟨by rw [← hq_]; exact (zu a3)⟩; have n4_ : Aside0 (w68.heap[a8]? = some (.cells #[.int .u64 a9, .int .u8 ad] 25 (0, 0))) := ⟨by rw [← hq_]; exact (zu a1)⟩; have n5_ : Aside0 (Below w.heap.size w w68) := ⟨by rw [← hq_]; exact zs⟩; clear ab a4 a2 a3 a1 HB hq_; have ab := n0_; have a4 := n1_; have a2 := n2_; have a3 := n3_; have a1 := n4_; have HB := n5_; clear n0_ n1_ n2_ n3_ n4_ n5_)); have bC := zM0 a2; have bD := zM1 a2; have bE := Z3 a2.out 0; have bF := Z3 a2.out 1; have hcy0_ := zM0 a1; have hcy1_ := zM1 a1; have hfy0_ := Z3 a1.out 0; have hfy1_ := Z3 a1.out 1))
    refine bodyPost_ret (results_cell_row rfl _ _ ay 25 #[.int .u64 aD, .int .u8 ad] (0, 0) _ rfl (by (with_reducible repeat (first | refine Zi ?_ _ | refine Z9 ?_ | refine Zh ?_ _)); refine Zb (cs := #[.int .u64 aD, .int .u8 0]) ?_ 1 _ rfl; refine Zb (cs := #[.int .u64 0, .int .u8 0]) ?_ 0 _ rfl; refine Zf ?_ a5.out _; exact a2.out) Tryz.underlying25 rfl (by kernel_rfl)) rfl ?_;exact ⟨er, zs⟩
   replace c46 := Bool.eq_false_iff.mpr c46;subst c46;rw [if_neg (show ¬ (false = true) by decide)] at H;simp only [zk3, zk5] at H;obtain ⟨rfl, rfl⟩ := H;have cK := ap.out;have cL := aq.out;have cM := ah.out;have cN := ai.out;have cO := a6.out;have cP := ae.out;obtain ⟨_, _, _, _, _, _⟩ := zc a4;have cQ := af.out;have cR := a5.out;have cS := ag.out;have cT := a7.out;have bG := zM0 a1;have bH := zM1 a1;have bI := Z3 a1.out 0;have bJ := Z3 a1.out 1;have cU := aj.out;have cV := ak.out;have bK := zM0 a2;have bL := zM1 a2;have bM := Z3 a2.out 0;have bN := Z3 a2.out 1
   go_wp2
   refine bodyPost_ret (results_cell_row rfl _ _ ay 25 #[.int .u64 a9, .int .u8 ad] (0, 0) _ rfl (by (with_reducible repeat (first | refine Zi ?_ _ | refine Z9 ?_ | refine Zh ?_ _)); refine Zb (cs := #[.int .u64 a9, .int .u8 0]) ?_ 1 _ rfl; refine Zb (cs := #[.int .u64 0, .int .u8 0]) ?_ 0 _ rfl; exact a2.out) Tryz.underlying25 rfl (by kernel_rfl)) rfl ?_;exact ⟨er, zs⟩
def Z13.f (k : Nat) (a2 : Bool) (a3 : List Int) (a4 : Int) : Option (Int × Int × Int) := (Z30.f k a2 a3 a4).bind fun a5 => (if a5 = 0 then ((Z12.f k a2 a3 a4).bind fun a1 => (some (a1.1, a1.2, 0))) else (some (0, 0, a5)))
theorem Z13.calls (k : Nat) (a4 : Bool) (a8 : Option Addr) (a9 : Nat) (a3 : List Int) (a5 : Int) (r1 : Int) (r2 : Int) (r3 : Int) (w : World) (ab : Kd.C Zu w a8 a3.length a3) (ac : a3.length ≤ a9) (hT : Laid w) (h : Z13.f k a4 a3 a5 = some (r1, r2, r3)) :
  Calls Tryz.prog 30 #[.agg #[.bool a4, .slice a8 a3.length a9, .int .i64 a5]] w fun e w' => e = .returned (.tuple #[.agg #[.int .u64 r1, .int .u8 r2], .int .i64 r3]) ∧ Below w.heap.size w w' := by
 have hu34 := Tryz.underlying34;have hu25 := Tryz.underlying25;have ad := zA ab;have ae := zA ac;clear ab ac;have HB := zA (Below.refl w.heap.size w);have H := h
 unfold Z13.f at H
 clear h;obtain ⟨ag, A2, H⟩ := zh H
 by_cases c3 : ag = 0
 rw [if_pos c3] at H;have ai := eT c3;have aj := nF c3;clear c3;obtain ⟨⟨aa, ah⟩, A4, H⟩ := zh H;(try dsimp only at H);rotate_left;rw [if_neg c3] at H;have ai := eF c3;have aj := nT c3;rotate_left
 all_goals
  simp only [zk3, zk5] at H;obtain ⟨rfl, rfl, rfl⟩ := H;go_enter Tryz.func30, Tryz.ntmps30
  go_wp2_with (first | ((with_reducible refine zD 1 rfl ?_); refine zn (N := 1) (cs := #[.bool a4, .slice a8 a3.length a9, .int .i64 a5]) (t := 34) rfl rfl ?_; intro aB hg w5 hbox hb; have a2 := zA (hbox); have aC := zw hg; replace HB := ze hb; clear hb hbox hg) | ((with_reducible refine zD 2 rfl ?_); refine zn (N := 2) (cs := #[.int .u64 0, .int .u8 0]) (t := 25) rfl rfl ?_; intro af hg w6 hbox hb; have a1 := zA (hbox); have aD := zx hg; replace HB := zf hb; have a6 := zl a2 hg; have a7 := zg a2 hg; replace a2 := zb a2 hb; clear hb hbox hg; have aE := a6.out; have aF := a7.out; obtain ⟨_, _, _, _, _, _⟩ := zc a2) | ((with_reducible refine zG 70 rfl ?_); refine zC (some 6) Tryz.func70 (Z30.calls k a4 _ _ a3 a5 ag _ (zk (ZF ad.out HB.out)) (ae.out) A2.out) ?_; rintro e w9 ⟨rfl, hb⟩; refine ⟨_, rfl, ?_⟩; replace a2 := zb a2 hb; replace a1 := zb a1 hb; replace HB := zf hb; (try (obtain ⟨ak, al, am, an, ao, ap⟩ := zc a2)); (try (have aq := zM0 a1; have ar := zM1 a1; have au := Z3 a1.out 0; have av := Z3 a1.out 1))) | ((with_reducible refine zG 71 rfl ?_); refine zC (some 12) Tryz.func71 (Z12.calls k a4 _ _ a3 a5 aa ah _ (zk (ZF ad.out HB.out)) (ae.out) (laid_below hT zs) A4.out) ?_; rintro e w11 ⟨rfl, hb⟩; refine ⟨_, rfl, ?_⟩; replace a2 := zb a2 hb; replace a1 := zb a1 hb; replace HB := zf hb; have aw := zM0 a1; have ax := zM1 a1; have ay := Z3 a1.out 0; have aA := Z3 a1.out 1))
 ·refine bodyPost_ret (Z07 rfl _ _ af 25 #[.int .u64 aa, .int .u8 ah] (0, 0) _ rfl (by (with_reducible repeat (first | refine Zi ?_ _ | refine Z9 ?_ | refine Zh ?_ _)); refine Zb (cs := #[.int .u64 aa, .int .u8 0]) ?_ 1 _ rfl; refine Zb (cs := #[.int .u64 0, .int .u8 0]) ?_ 0 _ rfl; exact a1.out) Tryz.underlying25 rfl (by kernel_rfl)) rfl ?_;exact ⟨er, zs⟩
 refine bodyPost_ret (Z07 rfl _ _ af 25 #[.int .u64 0, .int .u8 0] (0, 0) _ rfl (by (with_reducible repeat (first | refine Zi ?_ _ | refine Z9 ?_ | refine Zh ?_ _)); refine Zb (cs := #[.int .u64 0, .int .u8 0]) ?_ 1 _ rfl; refine Zb (cs := #[.int .u64 0, .int .u8 0]) ?_ 0 _ rfl; exact a1.out) Tryz.underlying25 rfl (by kernel_rfl)) rfl ?_;exact ⟨er, zs⟩
def Z0Q.l0 : Nat → List Int → Int → Int → Option (Int)
 | 0, _, _, _ => none
 | k + 1, x5, x6, x7 => if x7 < x6 then (if 0 ≤ x7 then (if x7 < (x5.length : Int) then (if (rd x5 x7) = 0 then (Z0Q.l0 k x5 x6 (wrap64 (x7 + 1))) else ((Z0T.f (rd x5 x7)).bind fun a1 => (some (wrap64 ((wrap64 (64 * x7)) + a1))))) else (none)) else (none)) else (some 0)
def Z0Q.f (k : Nat) (l0 : List Int) : Option (Int) := Z0Q.l0 k l0 (l0.length : Int) 0
theorem Z0Q.calls (k : Nat) (A0 : Option Addr) (c0 : Nat) (l0 : List Int) (r : Int) (w : World) (hr0 : Kd.C Zu w A0 l0.length l0) (hc0 : l0.length ≤ c0) (hT : Laid w) (h : Z0Q.f k l0 = some r) :
  Calls Tryz.prog 150 #[.slice A0 l0.length c0] w fun e w' => e = .returned (.int .i64 r) ∧ Drawn0 w w' := by
 have a3 := zA hr0;have aa := zA hc0;clear hr0 hc0;have H := h
 unfold Z0Q.f at H
 clear h;have H' := zA H;clear H;go_enter Tryz.func150, Tryz.ntmps150
 go_wp2
 go_loopg [7] k (fun kq v7 w' => ∃ (a1 : Int), v7 = .int .i64 a1 ∧ Aside0 (Z0Q.l0 kq l0 (l0.length : Int) a1 = some r) ∧ Aside0 (kq ≤ k) ∧ Drawn0 w w')
 case atStart => exact ⟨(0), zi, H', zB2, by repeat (first | exact Drawn0.refl _ | apply Drawn0.step)⟩
 case round =>
  clear H';obtain ⟨a1, rfl, HA, HK1, ⟨m1, rfl⟩⟩ := hrel
  cases gk with
  | zero => exact absurd HA.out (by simp [Z0Q.l0])
  | succ k1 =>
   have H := HA.out;clear HA;simp only [Z0Q.l0] at H
   by_cases c2 : a1 < (l0.length : Int)
   ·rw [if_pos c2] at H;have a4 := dT c2;clear c2;replace H := dn H;obtain ⟨c3, H⟩ := H;have a8 := dT c3;clear c3;replace H := dn H;obtain ⟨c4, H⟩ := H;have a9 := dT c4;clear c4
    by_cases c5 : (rd l0 a1) = 0
    ·rw [if_pos c5] at H;have a5 := eT c5;have a6 := nF c5;clear c5;have H' := zA H;clear H;have p113 : 0 ≤ (a1 : Int) := od;have q113 : a1 < (l0.length : Int) := od;obtain ⟨ad113, e113, a2⟩ := Kd.Zw a3.out a1 p113 q113;cases e113;replace p113 := eq_true p113;replace q113 := eq_true q113
     go_wp2
     go_roundg k1
     case measure => have := HK1.out; omega
     case rel => exact ⟨(wrap64 (a1 + 1)), zi, H', zB1, by repeat (first | exact Drawn0.refl _ | apply Drawn0.step)⟩
    rw [if_neg c5] at H;have a5 := eF c5;have a6 := nT c5;obtain ⟨a7, A6, H⟩ := zh H;obtain rfl := zk4 H;have p113 : 0 ≤ (a1 : Int) := od;have q113 : a1 < (l0.length : Int) := od;obtain ⟨ad113, e113, a2⟩ := Kd.Zw a3.out a1 p113 q113;cases e113;replace p113 := eq_true p113;replace q113 := eq_true q113
    go_wp2_with (first | ((with_reducible refine zG 162 rfl ?_); refine zC (some 17) Tryz.func162 (Z0T.calls (rd l0 a1) a7 _ (by repeat (first | (with_reducible first | exact hT | apply laid_drewN | apply laid_drew) | exact hT)) A6.out) ?_; rintro e w' ⟨rfl, ⟨nd, rfl⟩⟩; refine ⟨_, rfl, ?_⟩))
    go_ret;exact ⟨by first | rfl | (simp; done) | (simp [*]; done), by repeat (first | exact Drawn0.refl _ | apply Drawn0.step)⟩
   rw [if_neg c2] at H;have a4 := dF c2;clear c2;obtain rfl := zk4 H
   go_wp2
   go_ret;exact ⟨by first | rfl | (simp; done) | (simp [*]; done), by repeat (first | exact Drawn0.refl _ | apply Drawn0.step)⟩
end Go.Proofs.YtjnfipkbgmdpaaaGreatDoor.PAll
