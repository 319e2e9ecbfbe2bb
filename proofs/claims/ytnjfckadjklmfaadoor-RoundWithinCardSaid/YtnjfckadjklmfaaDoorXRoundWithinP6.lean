/- Printed functions. -/
import Derived.Test.YtnjfckadjklmfaaDoorXRoundWithinP4
import Derived.Test.YtnjfckadjklmfaaDoorXRoundWithinP5
namespace Go.Proofs.YtnjfckadjklmfaaDoor.PAll
open RowKit YtnjfckadjklmfaaDoorW.PrintWords YtnjfckadjklmfaaDoorW.PrintLast YtnjfckadjklmfaaDoorW.PrintMore YtnjfckadjklmfaaDoorW.PrintWords.Kd
attribute [local go_sem] Z0V Z0W Z1d Z1e Z0E Z0F Z0X Z0Y
set_option linter.unusedVariables false
set_option maxHeartbeats 8000000
set_option maxRecDepth 100000
set_option linter.unusedSimpArgs false
attribute [local go_sem] fld75_0 fld75_1 fld75_2 ext118 ext119
def Z1m.f (k : Nat) (a4 : Bool) (a5 : List Int) (a6 : Int) (a7 : Bool) (a8 : List Int) (a9 : Int) : Option (Int) := (Z17.f k a4 a5 a6).bind fun a1 => ((Z17.f k a7 a8 a9).bind fun ab => (if a1 < ab then (some (-1)) else (if a1 > ab then (some 1) else (if a1 = 0 then (some 0) else ((Z0B.f k a4 a5 a6).bind fun ac => ((Z0B.f k a7 a8 a9).bind fun ad => (if ac = ad then ((Z1f.f k a4 a5 a6).bind fun a2 => ((Z1f.f k a7 a8 a9).bind fun a3 => ((Z0q.f k a2.1 a2.2.1 a2.2.2 a3.1 a3.2.1 a3.2.2).bind fun aa => ((Z0L.f k aa.1 aa.2.1).bind fun ae => (some (wrap64 (a1 * ae))))))) else (if ac < ad then (some (wrap64 (-a1))) else (some a1)))))))))
def Z1m.T13 : Bool × List (List Nat × List Nat) := (true, [([], []), ([0], [0]), ([], []), ([2, 1], [2]), ([1, 3, 3], [1, 3]), ([4], [4]), ([5], [5]), ([5], [5]), ([5], [5]), ([6, 4, 0, 1, 2, 3, 4, 5, 6], [6]), ([7, 9, 0, 1, 2, 3, 4, 5, 6, 7, 9], [7]), ([8, 10, 0, 1, 2, 3, 4, 5, 6, 7, 8, 9, 10], [8])])
def Z1m.B13 : List Nat := [0, 1, 0, 7, 15, 31, 63, 63, 63, 127, 767, 2047]
theorem Z1m.tab13 : Z0I .any (Z1U Tryd.f59 13) = Z1m.T13 := by kernel_rfl
theorem Z1m.bits13 : Z0S Z1m.T13.2 Z1m.B13 = true := by kernel_rfl
theorem Z1m.calls (k : Nat) (a7 : Bool) (ab : Option Addr) (ac : Nat) (a5 : List Int) (a8 : Int) (a9 : Bool) (ad : Option Addr) (ae : Nat) (a6 : List Int) (aa : Int) (r : Int) (w : World) (aH : Kd.C Zu w ab a5.length a5) (aI : a5.length ≤ ac) (aJ : Kd.C Zu w ad a6.length a6) (aK : a6.length ≤ ae) (hT : Laid w) (h : Z1m.f k a7 a5 a8 a9 a6 aa = some r) :
  Calls Tryd.prog 59 #[.agg #[.bool a7, .slice ab a5.length ac, .int .i64 a8], .agg #[.bool a9, .slice ad a6.length ae, .int .i64 aa]] w fun e w' => e = .returned (.int .i64 r) ∧ Below w.heap.size w w' := by
 have hu25 := Tryd.underlying25;have ah := zA aH;have ai := zA aI;clear aH aI;have aj := zA aJ;have ak := zA aK;clear aJ aK;have HB := zA (Below.refl w.heap.size w);have H := h
 unfold Z1m.f at H
 clear h;obtain ⟨ao, A3, H⟩ := zh H;obtain ⟨ar, A4, H⟩ := zh H
 by_cases c5 : ao < ar
 ·rw [if_pos c5] at H;have aX := dT c5;clear c5;obtain rfl := zk1 H;go_enter Tryd.func59, Tryd.ntmps59
  try go_wp2_with (first | ((with_reducible refine zD 2 rfl ?_); refine zn (N := 2) (cs := #[.bool a7, .slice ab a5.length ac, .int .i64 a8]) (t := 25) rfl rfl ?_; intro af hg w6 hbox hb; have a1 := zA (hbox); have ap := zw hg; replace HB := ze hb; clear hb hbox hg) | ((with_reducible refine zD 3 rfl ?_); refine zn (N := 3) (cs := #[.bool a9, .slice ad a6.length ae, .int .i64 aa]) (t := 25) rfl rfl ?_; intro ag hg w7 hbox hb; have a2 := zA (hbox); have aq := zx hg; replace HB := zf hb; have al := zl a1 hg; have am := zg a1 hg; replace a1 := zb a1 hb; clear hb hbox hg))
  replace a1 := zA (Z8 a1.out);replace a2 := zA (Z8 a2.out);replace HB := zA (Zs HB.out);refine Z09 (n := 6) (S := fun w' => z4 w' af (.bool a7) (.slice ab a5.length ac) (.int .i64 a8) (z3 w' ag (.bool a9) (.slice ad a6.length ae) (.int .i64 aa))) (ds := []) #[O, O, O, O, O, O] (by kernel_rfl) rfl rfl (za a1 (zz a2)) (fun hHeld => ?_);generalize w7.drew = w8 at a1 a2 HB hHeld ⊢;refine take_ (i := 0) (N := some 12) (v := ?_) (a' := ?_) #[I, O, O, O, O, O] rfl rfl (by kernel_rfl) (fun _ _ _ h => h) (Or.inl ⟨by rfl, ?_⟩) hHeld ?_ ?_;rotate_left;·rintro w' ⟨s0, s1, s2, s3, s4, s5⟩;go_simp;with_reducible rfl
  rotate_left;·exact zq
  refine take_ (i := 2) (N := some 14) (v := ?_) (a' := ?_) #[I, O, I, O, O, O] rfl rfl (by kernel_rfl) (fun _ _ _ h => h) (Or.inl ⟨by rfl, ?_⟩) hHeld ?_ ?_;rotate_left;·rintro w' ⟨s0, s1, s2, s3, s4, s5⟩;go_simp;with_reducible rfl
  rotate_left;·exact zq
  refine ZL (i := 1) (N := some 13) #[I, I, I, O, O, O] rfl rfl (by kernel_rfl) (by decide) (fun K hK => ?_);refine Zz Tryd.func89 (by kernel_rfl) rfl #[.agg #[.bool a7, .slice ab a5.length ac, .int .i64 a8]] (by rfl) rfl rfl ga ?_
  with_reducible refine (Z17.calls k a7 _ _ a5 a8 ao _ ?a3 ?a4 A3.out).mono ?_
  (case a3 => exact zk (Za ah.out HB.out));(case a4 => exact ai.out);rintro e w9 ⟨rfl, hb⟩;refine ⟨_, rfl, ?_⟩;replace a1 := zb a1 hb;replace a2 := zb a2 hb;replace HB := zf hb;refine hK.out _ _ (za a1 (zz a2)) (fun hHeld => ?_);clear hK K;refine Zh (a' := ?_) ?_ ?_;rotate_left;·show Act.put _ (some 13) _ = _;exact zq
  refine ZL (i := 3) (N := some 15) #[I, I, I, I, O, O] rfl rfl (by kernel_rfl) (by decide) (fun K hK => ?_);refine Zz Tryd.func89 (by kernel_rfl) rfl #[.agg #[.bool a9, .slice ad a6.length ae, .int .i64 aa]] (by rfl) rfl rfl ga ?_
  with_reducible refine (Z17.calls k a9 _ _ a6 aa ar _ ?a3 ?a4 A4.out).mono ?_
  (case a3 => exact zk (Za aj.out HB.out));(case a4 => exact ak.out);rintro e w10 ⟨rfl, hb⟩;refine ⟨_, rfl, ?_⟩;replace a1 := zb a1 hb;replace a2 := zb a2 hb;replace HB := zf hb;refine hK.out _ _ (za a1 (zz a2)) (fun hHeld => ?_);clear hK K;refine Zh (a' := ?_) ?_ ?_;rotate_left;·show Act.put _ (some 15) _ = _;exact zq
  refine Z0D (i := 4) (N := some 5) (v := ?_) (a' := ?_) #[I, I, I, I, I, O] rfl rfl (by kernel_rfl) (fun _ _ _ h => h) (Or.inl ⟨by rfl, ?_⟩) ?_ ?_;rotate_left;·intro w';go_simp;with_reducible rfl
  rotate_left;·exact zq
  refine Z0D (i := 5) (N := some 6) (v := ?_) (a' := ?_) #[I, I, I, I, I, I] rfl rfl (by kernel_rfl) (fun _ _ _ h => h) (Or.inl ⟨by rfl, ?_⟩) ?_ ?_;rotate_left;·intro w';go_simp;with_reducible rfl
  rotate_left;·exact zq
  refine Z0l (by kernel_rfl) ?_
  try go_wp2
  go_ret;exact ⟨er, zs⟩
 rw [if_neg c5] at H;have aX := dF c5;clear c5
 by_cases c11 : ao > ar
 ·rw [if_pos c11] at H;have aR := dT c11;clear c11;obtain rfl := zk1 H;go_enter Tryd.func59, Tryd.ntmps59
  try go_wp2_with (first | ((with_reducible refine zD 2 rfl ?_); refine zn (N := 2) (cs := #[.bool a7, .slice ab a5.length ac, .int .i64 a8]) (t := 25) rfl rfl ?_; intro af hg w12 hbox hb; have a1 := zA (hbox); have ap := zw hg; replace HB := ze hb; clear hb hbox hg) | ((with_reducible refine zD 3 rfl ?_); refine zn (N := 3) (cs := #[.bool a9, .slice ad a6.length ae, .int .i64 aa]) (t := 25) rfl rfl ?_; intro ag hg w13 hbox hb; have a2 := zA (hbox); have aq := zx hg; replace HB := zf hb; have al := zl a1 hg; have am := zg a1 hg; replace a1 := zb a1 hb; clear hb hbox hg))
  replace a1 := zA (Z8 a1.out);replace a2 := zA (Z8 a2.out);replace HB := zA (Zs HB.out);refine Z09 (n := 6) (S := fun w' => z4 w' af (.bool a7) (.slice ab a5.length ac) (.int .i64 a8) (z3 w' ag (.bool a9) (.slice ad a6.length ae) (.int .i64 aa))) (ds := []) #[O, O, O, O, O, O] (by kernel_rfl) rfl rfl (za a1 (zz a2)) (fun hHeld => ?_);generalize w13.drew = w14 at a1 a2 HB hHeld ⊢;refine take_ (i := 0) (N := some 12) (v := ?_) (a' := ?_) #[I, O, O, O, O, O] rfl rfl (by kernel_rfl) (fun _ _ _ h => h) (Or.inl ⟨by rfl, ?_⟩) hHeld ?_ ?_;rotate_left;·rintro w' ⟨s0, s1, s2, s3, s4, s5⟩;go_simp;with_reducible rfl
  rotate_left;·exact zq
  refine take_ (i := 2) (N := some 14) (v := ?_) (a' := ?_) #[I, O, I, O, O, O] rfl rfl (by kernel_rfl) (fun _ _ _ h => h) (Or.inl ⟨by rfl, ?_⟩) hHeld ?_ ?_;rotate_left;·rintro w' ⟨s0, s1, s2, s3, s4, s5⟩;go_simp;with_reducible rfl
  rotate_left;·exact zq
  refine ZL (i := 1) (N := some 13) #[I, I, I, O, O, O] rfl rfl (by kernel_rfl) (by decide) (fun K hK => ?_);refine Zz Tryd.func89 (by kernel_rfl) rfl #[.agg #[.bool a7, .slice ab a5.length ac, .int .i64 a8]] (by rfl) rfl rfl ga ?_
  with_reducible refine (Z17.calls k a7 _ _ a5 a8 ao _ ?a3 ?a4 A3.out).mono ?_
  (case a3 => exact zk (Za ah.out HB.out));(case a4 => exact ai.out);rintro e w15 ⟨rfl, hb⟩;refine ⟨_, rfl, ?_⟩;replace a1 := zb a1 hb;replace a2 := zb a2 hb;replace HB := zf hb;refine hK.out _ _ (za a1 (zz a2)) (fun hHeld => ?_);clear hK K;refine Zh (a' := ?_) ?_ ?_;rotate_left;·show Act.put _ (some 13) _ = _;exact zq
  refine ZL (i := 3) (N := some 15) #[I, I, I, I, O, O] rfl rfl (by kernel_rfl) (by decide) (fun K hK => ?_);refine Zz Tryd.func89 (by kernel_rfl) rfl #[.agg #[.bool a9, .slice ad a6.length ae, .int .i64 aa]] (by rfl) rfl rfl ga ?_
  with_reducible refine (Z17.calls k a9 _ _ a6 aa ar _ ?a3 ?a4 A4.out).mono ?_
  (case a3 => exact zk (Za aj.out HB.out));(case a4 => exact ak.out);rintro e w16 ⟨rfl, hb⟩;refine ⟨_, rfl, ?_⟩;replace a1 := zb a1 hb;replace a2 := zb a2 hb;replace HB := zf hb;refine hK.out _ _ (za a1 (zz a2)) (fun hHeld => ?_);clear hK K;refine Zh (a' := ?_) ?_ ?_;rotate_left;·show Act.put _ (some 15) _ = _;exact zq
  refine Z0D (i := 4) (N := some 5) (v := ?_) (a' := ?_) #[I, I, I, I, I, O] rfl rfl (by kernel_rfl) (fun _ _ _ h => h) (Or.inl ⟨by rfl, ?_⟩) ?_ ?_;rotate_left;·intro w';go_simp;with_reducible rfl
  rotate_left;·exact zq
  refine Z0D (i := 5) (N := some 6) (v := ?_) (a' := ?_) #[I, I, I, I, I, I] rfl rfl (by kernel_rfl) (fun _ _ _ h => h) (Or.inl ⟨by rfl, ?_⟩) ?_ ?_;rotate_left;·intro w';go_simp;with_reducible rfl
  rotate_left;·exact zq
  refine Z0l (by kernel_rfl) ?_
  try go_wp2
  go_ret;exact ⟨er, zs⟩
 rw [if_neg c11] at H;have aR := dF c11;clear c11
 by_cases c17 : ao = 0
 ·rw [if_pos c17] at H;have aS := eT c17;have aT := nF c17;clear c17;obtain rfl := zk1 H;go_enter Tryd.func59, Tryd.ntmps59
  try go_wp2_with (first | ((with_reducible refine zD 2 rfl ?_); refine zn (N := 2) (cs := #[.bool a7, .slice ab a5.length ac, .int .i64 a8]) (t := 25) rfl rfl ?_; intro af hg w18 hbox hb; have a1 := zA (hbox); have ap := zw hg; replace HB := ze hb; clear hb hbox hg) | ((with_reducible refine zD 3 rfl ?_); refine zn (N := 3) (cs := #[.bool a9, .slice ad a6.length ae, .int .i64 aa]) (t := 25) rfl rfl ?_; intro ag hg w19 hbox hb; have a2 := zA (hbox); have aq := zx hg; replace HB := zf hb; have al := zl a1 hg; have am := zg a1 hg; replace a1 := zb a1 hb; clear hb hbox hg))
  replace a1 := zA (Z8 a1.out);replace a2 := zA (Z8 a2.out);replace HB := zA (Zs HB.out);refine Z09 (n := 6) (S := fun w' => z4 w' af (.bool a7) (.slice ab a5.length ac) (.int .i64 a8) (z3 w' ag (.bool a9) (.slice ad a6.length ae) (.int .i64 aa))) (ds := []) #[O, O, O, O, O, O] (by kernel_rfl) rfl rfl (za a1 (zz a2)) (fun hHeld => ?_);generalize w19.drew = w20 at a1 a2 HB hHeld ⊢;refine take_ (i := 0) (N := some 12) (v := ?_) (a' := ?_) #[I, O, O, O, O, O] rfl rfl (by kernel_rfl) (fun _ _ _ h => h) (Or.inl ⟨by rfl, ?_⟩) hHeld ?_ ?_;rotate_left;·rintro w' ⟨s0, s1, s2, s3, s4, s5⟩;go_simp;with_reducible rfl
  rotate_left;·exact zq
  refine take_ (i := 2) (N := some 14) (v := ?_) (a' := ?_) #[I, O, I, O, O, O] rfl rfl (by kernel_rfl) (fun _ _ _ h => h) (Or.inl ⟨by rfl, ?_⟩) hHeld ?_ ?_;rotate_left;·rintro w' ⟨s0, s1, s2, s3, s4, s5⟩;go_simp;with_reducible rfl
  rotate_left;·exact zq
  refine ZL (i := 1) (N := some 13) #[I, I, I, O, O, O] rfl rfl (by kernel_rfl) (by decide) (fun K hK => ?_);refine Zz Tryd.func89 (by kernel_rfl) rfl #[.agg #[.bool a7, .slice ab a5.length ac, .int .i64 a8]] (by rfl) rfl rfl ga ?_
  with_reducible refine (Z17.calls k a7 _ _ a5 a8 ao _ ?a3 ?a4 A3.out).mono ?_
  (case a3 => exact zk (Za ah.out HB.out));(case a4 => exact ai.out);rintro e w21 ⟨rfl, hb⟩;refine ⟨_, rfl, ?_⟩;replace a1 := zb a1 hb;replace a2 := zb a2 hb;replace HB := zf hb;refine hK.out _ _ (za a1 (zz a2)) (fun hHeld => ?_);clear hK K;refine Zh (a' := ?_) ?_ ?_;rotate_left;·show Act.put _ (some 13) _ = _;exact zq
  refine ZL (i := 3) (N := some 15) #[I, I, I, I, O, O] rfl rfl (by kernel_rfl) (by decide) (fun K hK => ?_);refine Zz Tryd.func89 (by kernel_rfl) rfl #[.agg #[.bool a9, .slice ad a6.length ae, .int .i64 aa]] (by rfl) rfl rfl ga ?_
  with_reducible refine (Z17.calls k a9 _ _ a6 aa ar _ ?a3 ?a4 A4.out).mono ?_
  (case a3 => exact zk (Za aj.out HB.out));(case a4 => exact ak.out);rintro e w22 ⟨rfl, hb⟩;refine ⟨_, rfl, ?_⟩;replace a1 := zb a1 hb;replace a2 := zb a2 hb;replace HB := zf hb;refine hK.out _ _ (za a1 (zz a2)) (fun hHeld => ?_);clear hK K;refine Zh (a' := ?_) ?_ ?_;rotate_left;·show Act.put _ (some 15) _ = _;exact zq
  refine Z0D (i := 4) (N := some 5) (v := ?_) (a' := ?_) #[I, I, I, I, I, O] rfl rfl (by kernel_rfl) (fun _ _ _ h => h) (Or.inl ⟨by rfl, ?_⟩) ?_ ?_;rotate_left;·intro w';go_simp;with_reducible rfl
  rotate_left;·exact zq
  refine Z0D (i := 5) (N := some 6) (v := ?_) (a' := ?_) #[I, I, I, I, I, I] rfl rfl (by kernel_rfl) (fun _ _ _ h => h) (Or.inl ⟨by rfl, ?_⟩) ?_ ?_;rotate_left;·intro w';go_simp;with_reducible rfl
  rotate_left;·exact zq
  refine Z0l (by kernel_rfl) ?_
  try go_wp2
  go_ret;exact ⟨er, zs⟩
 rw [if_neg c17] at H;have aS := eF c17;have aT := nT c17;obtain ⟨ax, aL, H⟩ := zh H;obtain ⟨ay, aM, H⟩ := zh H
 by_cases c25 : ax = ay
 ·rw [if_pos c25] at H;have aU := eT c25;have aV := nF c25;clear c25;obtain ⟨⟨aB, aC, aD⟩, b6, H⟩ := zh H;(try dsimp only at H);obtain ⟨⟨aE, aF, aG⟩, b7, H⟩ := zh H;(try dsimp only at H);obtain ⟨⟨aN, aO, aY⟩, b8, H⟩ := zh H;(try dsimp only at H);obtain ⟨az, b9, H⟩ := zh H;obtain rfl := zk1 H;go_enter Tryd.func59, Tryd.ntmps59
  try go_wp2_with (first | ((with_reducible refine zD 2 rfl ?_); refine zn (N := 2) (cs := #[.bool a7, .slice ab a5.length ac, .int .i64 a8]) (t := 25) rfl rfl ?_; intro af hg w30 hbox hb; have a1 := zA (hbox); have ap := zw hg; replace HB := ze hb; clear hb hbox hg) | ((with_reducible refine zD 3 rfl ?_); refine zn (N := 3) (cs := #[.bool a9, .slice ad a6.length ae, .int .i64 aa]) (t := 25) rfl rfl ?_; intro ag hg w31 hbox hb; have a2 := zA (hbox); have aq := zx hg; replace HB := zf hb; have al := zl a1 hg; have am := zg a1 hg; replace a1 := zb a1 hb; clear hb hbox hg))
  replace a1 := zA (Z8 a1.out);replace a2 := zA (Z8 a2.out);replace HB := zA (Zs HB.out);refine Z09 (n := 6) (S := fun w' => z4 w' af (.bool a7) (.slice ab a5.length ac) (.int .i64 a8) (z3 w' ag (.bool a9) (.slice ad a6.length ae) (.int .i64 aa))) (ds := []) #[O, O, O, O, O, O] (by kernel_rfl) rfl rfl (za a1 (zz a2)) (fun hHeld => ?_);generalize w31.drew = w32 at a1 a2 HB hHeld ⊢;refine take_ (i := 0) (N := some 12) (v := ?_) (a' := ?_) #[I, O, O, O, O, O] rfl rfl (by kernel_rfl) (fun _ _ _ h => h) (Or.inl ⟨by rfl, ?_⟩) hHeld ?_ ?_;rotate_left;·rintro w' ⟨s0, s1, s2, s3, s4, s5⟩;go_simp;with_reducible rfl
  rotate_left;·exact zq
  refine take_ (i := 2) (N := some 14) (v := ?_) (a' := ?_) #[I, O, I, O, O, O] rfl rfl (by kernel_rfl) (fun _ _ _ h => h) (Or.inl ⟨by rfl, ?_⟩) hHeld ?_ ?_;rotate_left;·rintro w' ⟨s0, s1, s2, s3, s4, s5⟩;go_simp;with_reducible rfl
  rotate_left;·exact zq
  refine ZL (i := 1) (N := some 13) #[I, I, I, O, O, O] rfl rfl (by kernel_rfl) (by decide) (fun K hK => ?_);refine Zz Tryd.func89 (by kernel_rfl) rfl #[.agg #[.bool a7, .slice ab a5.length ac, .int .i64 a8]] (by rfl) rfl rfl ga ?_
  with_reducible refine (Z17.calls k a7 _ _ a5 a8 ao _ ?a3 ?a4 A3.out).mono ?_
  (case a3 => exact zk (Za ah.out HB.out));(case a4 => exact ai.out);rintro e w33 ⟨rfl, hb⟩;refine ⟨_, rfl, ?_⟩;replace a1 := zb a1 hb;replace a2 := zb a2 hb;replace HB := zf hb;refine hK.out _ _ (za a1 (zz a2)) (fun hHeld => ?_);clear hK K;refine Zh (a' := ?_) ?_ ?_;rotate_left;·show Act.put _ (some 13) _ = _;exact zq
  refine ZL (i := 3) (N := some 15) #[I, I, I, I, O, O] rfl rfl (by kernel_rfl) (by decide) (fun K hK => ?_);refine Zz Tryd.func89 (by kernel_rfl) rfl #[.agg #[.bool a9, .slice ad a6.length ae, .int .i64 aa]] (by rfl) rfl rfl ga ?_
  with_reducible refine (Z17.calls k a9 _ _ a6 aa ar _ ?a3 ?a4 A4.out).mono ?_
  (case a3 => exact zk (Za aj.out HB.out));(case a4 => exact ak.out);rintro e w34 ⟨rfl, hb⟩;refine ⟨_, rfl, ?_⟩;replace a1 := zb a1 hb;replace a2 := zb a2 hb;replace HB := zf hb;refine hK.out _ _ (za a1 (zz a2)) (fun hHeld => ?_);clear hK K;refine Zh (a' := ?_) ?_ ?_;rotate_left;·show Act.put _ (some 15) _ = _;exact zq
  refine Z0D (i := 4) (N := some 5) (v := ?_) (a' := ?_) #[I, I, I, I, I, O] rfl rfl (by kernel_rfl) (fun _ _ _ h => h) (Or.inl ⟨by rfl, ?_⟩) ?_ ?_;rotate_left;·intro w';go_simp;with_reducible rfl
  rotate_left;·exact zq
  refine Z0D (i := 5) (N := some 6) (v := ?_) (a' := ?_) #[I, I, I, I, I, I] rfl rfl (by kernel_rfl) (fun _ _ _ h => h) (Or.inl ⟨by rfl, ?_⟩) ?_ ?_;rotate_left;·intro w';go_simp;with_reducible rfl
  rotate_left;·exact zq
  refine Z0l (by kernel_rfl) ?_
  try go_wp2
  replace a1 := zA (Z8 a1.out);replace a2 := zA (Z8 a2.out);replace HB := zA (Zs HB.out);refine Z09 (n := 6) (S := fun w' => z4 w' af (.bool a7) (.slice ab a5.length ac) (.int .i64 a8) (z3 w' ag (.bool a9) (.slice ad a6.length ae) (.int .i64 aa))) (ds := []) #[O, O, O, O, O, O] (by kernel_rfl) rfl rfl (za a1 (zz a2)) (fun hHeld => ?_);generalize w34.drew = w35 at a1 a2 HB hHeld ⊢;refine take_ (i := 0) (N := some 27) (v := ?_) (a' := ?_) #[I, O, O, O, O, O] rfl rfl (by kernel_rfl) (fun _ _ _ h => h) (Or.inl ⟨by rfl, ?_⟩) hHeld ?_ ?_;rotate_left;·rintro w' ⟨s0, s1, s2, s3, s4, s5⟩;go_simp;with_reducible rfl
  rotate_left;·exact zq
  refine take_ (i := 2) (N := some 29) (v := ?_) (a' := ?_) #[I, O, I, O, O, O] rfl rfl (by kernel_rfl) (fun _ _ _ h => h) (Or.inl ⟨by rfl, ?_⟩) hHeld ?_ ?_;rotate_left;·rintro w' ⟨s0, s1, s2, s3, s4, s5⟩;go_simp;with_reducible rfl
  rotate_left;·exact zq
  refine ZL (i := 1) (N := some 28) #[I, I, I, O, O, O] rfl rfl (by kernel_rfl) (by decide) (fun K hK => ?_);refine Zz Tryd.func56 (by kernel_rfl) rfl #[.agg #[.bool a7, .slice ab a5.length ac, .int .i64 a8]] (by rfl) rfl rfl ga ?_
  with_reducible refine (Z0B.calls k a7 _ _ a5 a8 ax _ ?a3 ?a4 aL.out).mono ?_
  (case a3 => exact zk (Za ah.out HB.out));(case a4 => exact ai.out);rintro e w36 ⟨rfl, hb⟩;refine ⟨_, rfl, ?_⟩;replace a1 := zb a1 hb;replace a2 := zb a2 hb;replace HB := zf hb;refine hK.out _ _ (za a1 (zz a2)) (fun hHeld => ?_);clear hK K;refine Zh (a' := ?_) ?_ ?_;rotate_left;·show Act.put _ (some 28) _ = _;exact zq
  refine ZL (i := 3) (N := some 30) #[I, I, I, I, O, O] rfl rfl (by kernel_rfl) (by decide) (fun K hK => ?_);refine Zz Tryd.func56 (by kernel_rfl) rfl #[.agg #[.bool a9, .slice ad a6.length ae, .int .i64 aa]] (by rfl) rfl rfl ga ?_
  with_reducible refine (Z0B.calls k a9 _ _ a6 aa ay _ ?a3 ?a4 aM.out).mono ?_
  (case a3 => exact zk (Za aj.out HB.out));(case a4 => exact ak.out);rintro e w37 ⟨rfl, hb⟩;refine ⟨_, rfl, ?_⟩;replace a1 := zb a1 hb;replace a2 := zb a2 hb;replace HB := zf hb;refine hK.out _ _ (za a1 (zz a2)) (fun hHeld => ?_);clear hK K;refine Zh (a' := ?_) ?_ ?_;rotate_left;·show Act.put _ (some 30) _ = _;exact zq
  refine Z0D (i := 4) (N := some 7) (v := ?_) (a' := ?_) #[I, I, I, I, I, O] rfl rfl (by kernel_rfl) (fun _ _ _ h => h) (Or.inl ⟨by rfl, ?_⟩) ?_ ?_;rotate_left;·intro w';go_simp;with_reducible rfl
  rotate_left;·exact zq
  refine Z0D (i := 5) (N := some 8) (v := ?_) (a' := ?_) #[I, I, I, I, I, I] rfl rfl (by kernel_rfl) (fun _ _ _ h => h) (Or.inl ⟨by rfl, ?_⟩) ?_ ?_;rotate_left;·intro w';go_simp;with_reducible rfl
  rotate_left;·exact zq
  refine Z0l (by kernel_rfl) ?_
  try go_wp2
  replace a1 := zA (Z8 a1.out);replace a2 := zA (Z8 a2.out);replace HB := zA (Zs HB.out);refine Z09 (n := 12) (S := fun w' => z4 w' af (.bool a7) (.slice ab a5.length ac) (.int .i64 a8) (z3 w' ag (.bool a9) (.slice ad a6.length ae) (.int .i64 aa))) (ds := []) #[O, O, O, O, O, O, O, O, O, O, O, O] (by kernel_rfl) rfl rfl (za a1 (zz a2)) (fun hHeld => ?_); refine Z0r Z1m.tab13 Z1m.bits13 (fun HT_ HW_ => ?_);generalize w37.drew = w38 at a1 a2 HB hHeld ⊢;refine zT 0 41 #[I, O, O, O, O, O, O, O, O, O, O, O] ?_;refine zT 2 43 #[I, O, I, O, O, O, O, O, O, O, O, O] ?_;refine ZL (i := 1) (N := some 42) #[I, I, I, O, O, O, O, O, O, O, O, O] rfl rfl (ZQ HT_.out (by kernel_rfl)) (by decide) (fun K hK => ?_);refine Zz Tryd.func54 (by kernel_rfl) rfl #[.agg #[.bool a7, .slice ab a5.length ac, .int .i64 a8]] (by rfl) rfl rfl ga ?_
  with_reducible refine (Z1f.calls k a7 (fun k_ => k_ < w.heap.size) _ _ a5 a8 aB aC aD _ ?a3 (laid_below hT zs) b6.out).mono ?_
  (case a3 => exact Z0P ai.out (Kd.ZZ (C_F (Kd.ZX .u64) ah.out) zs));rintro e w39 ⟨v502, rfl, aA, hb⟩;refine ⟨_, rfl, ?_⟩;have an := zA (Zq (Z6 (ok' := fun k_ => k_ ≠ af ∧ k_ ≠ ag) aA (fun k_ hk_ => ⟨Or.elim hk_ (fun hs_ => fun e_ => zkd.2 hs_ (by rw [e_]; exact ap.out)) (fun hn_ => (zj a1 k_ hn_)), Or.elim hk_ (fun hs_ => fun e_ => zkd.2 hs_ (by rw [e_]; exact aq.out)) (fun hn_ => (zj a2 k_ hn_))⟩)) (Z7 zs));replace a1 := zb a1 hb;replace a2 := zb a2 hb;replace HB := zf hb;refine hK.out _ _ (za a1 (zz a2)) (fun hHeld => ?_);clear hK K;refine Zh (a' := ?_) ?_ ?_;rotate_left;·show Act.put _ (some 42) _ = _;exact zq
  refine ZL (i := 3) (N := some 44) #[I, I, I, I, O, O, O, O, O, O, O, O] rfl rfl (ZQ HT_.out (by kernel_rfl)) (by decide) (fun K hK => ?_);refine Zz Tryd.func54 (by kernel_rfl) rfl #[.agg #[.bool a9, .slice ad a6.length ae, .int .i64 aa]] (by rfl) rfl rfl ga ?_
  with_reducible refine (Z1f.calls k a9 (fun k_ => k_ < w.heap.size) _ _ a6 aa aE aF aG _ ?a3 (laid_below hT zs) b7.out).mono ?_
  (case a3 => exact Z0P ak.out (Kd.ZZ (C_F (Kd.ZX .u64) aj.out) zs));rintro e w40 ⟨v507, rfl, aA, hb⟩;refine ⟨_, rfl, ?_⟩;replace an := zA (Z4 (vu an.out) hb);have au := zA (Zq (Z6 (ok' := fun k_ => k_ ≠ af ∧ k_ ≠ ag) aA (fun k_ hk_ => ⟨Or.elim hk_ (fun hs_ => fun e_ => zkd.2 hs_ (by rw [e_]; exact ap.out)) (fun hn_ => (zj a1 k_ hn_)), Or.elim hk_ (fun hs_ => fun e_ => zkd.2 hs_ (by rw [e_]; exact aq.out)) (fun hn_ => (zj a2 k_ hn_))⟩)) (Z7 zs));replace a1 := zb a1 hb;replace a2 := zb a2 hb;replace HB := zf hb;obtain ⟨aZ, b1, aP⟩ := Zm an.out
  (first | subst aP | (injection aP with f1_ f2_ f3_; have f4_ := f1_.symm; have f5_ := f3_.symm; clear f1_ f2_ f3_; subst f4_; subst f5_))
  obtain ⟨b2, b3, aQ⟩ := Zm au.out
  (first | subst aQ | (injection aQ with f1_ f2_ f3_; have f4_ := f1_.symm; have f5_ := f3_.symm; clear f1_ f2_ f3_; subst f4_; subst f5_))
  refine hK.out _ _ (za a1 (zz a2)) (fun hHeld => ?_);clear hK K;refine Zh (a' := ?_) ?_ ?_;rotate_left;·show Act.put _ (some 44) _ = _;exact zq
  refine ZL (i := 4) (N := some 45) #[I, I, I, I, I, O, O, O, O, O, O, O] rfl rfl (ZQ HT_.out (by kernel_rfl)) (by decide) (fun K hK => ?_);refine Zz Tryd.func90 (by kernel_rfl) rfl #[.agg #[.bool aB, .slice aZ aC.length b1, .int .i64 aD], .agg #[.bool aE, .slice b2 aF.length b3, .int .i64 aG]] (by rfl) rfl rfl ga ?_
  with_reducible refine (Z0q.calls k aB (fun k_ => (k_ ≠ af ∧ k_ ≠ ag)) _ _ aC aD aE (fun k_ => (k_ ≠ af ∧ k_ ≠ ag)) _ _ aF aG aN aO aY _ ?a3 ?a4 b8.out).mono ?_
  (case a3 => exact an.out);(case a4 => exact au.out);rintro e w43 ⟨v511, v514, rfl, aA, ba, hb⟩;refine ⟨_, rfl, ?_⟩;replace an := zA (Z4 (vu an.out) hb);replace au := zA (Z4 (vu au.out) hb);have av := zA (Zq (Z6 (ok' := fun k_ => k_ ≠ af ∧ k_ ≠ ag) aA (fun k_ hk_ => ⟨Or.elim hk_ (fun hs_ => Or.elim hs_ (fun hs_ => hs_.1) (fun hs_ => hs_.1)) (fun hn_ => (zj a1 k_ hn_)), Or.elim hk_ (fun hs_ => Or.elim hs_ (fun hs_ => hs_.2) (fun hs_ => hs_.2)) (fun hn_ => (zj a2 k_ hn_))⟩)) (Z7 zs));have aw := zA (Zq (Z6 (ok' := fun k_ => k_ ≠ af ∧ k_ ≠ ag) ba (fun k_ hk_ => ⟨Or.elim hk_ (fun hs_ => Or.elim hs_ (fun hs_ => hs_.1) (fun hs_ => hs_.1)) (fun hn_ => (zj a1 k_ hn_)), Or.elim hk_ (fun hs_ => Or.elim hs_ (fun hs_ => hs_.2) (fun hs_ => hs_.2)) (fun hn_ => (zj a2 k_ hn_))⟩)) (Z7 zs));replace a1 := zb a1 hb;replace a2 := zb a2 hb;replace HB := zf hb;refine hK.out _ _ (za a1 (zz a2)) (fun hHeld => ?_);clear hK K;refine Zh (a' := ?_) ?_ ?_;rotate_left;·show Act.put _ (some 45) _ = _;exact zq
  refine zP 5 40 #[I, I, I, I, I, I, O, O, O, O, O, O] ?_;refine zP 6 46 #[I, I, I, I, I, I, I, O, O, O, O, O] ?_;refine zP 7 47 #[I, I, I, I, I, I, I, I, O, O, O, O] ?_;refine zP 8 48 #[I, I, I, I, I, I, I, I, I, O, O, O] ?_;refine zP 9 9 #[I, I, I, I, I, I, I, I, I, I, O, O] ?_;refine zP 10 10 #[I, I, I, I, I, I, I, I, I, I, I, O] ?_;refine zP 11 11 #[I, I, I, I, I, I, I, I, I, I, I, I] ?_;refine Z0l (Z0U HT_.out (by kernel_rfl)) ?_;obtain ⟨bb, bc, b4⟩ := Zm av.out;subst b4;obtain ⟨bd, be, b5⟩ := Zm aw.out;subst b5
  try go_wp2_with (first | ((with_reducible refine zG 91 rfl ?_); refine zC (some 52) Tryd.func91 (Z0L.calls k _ _ aN _ _ aO az _ (zk (Zb av.out).2.2) ((Zb av.out).2.1) (zk (Zb aw.out).2.2) ((Zb aw.out).2.1) b9.out) ?_; rintro e w46 ⟨rfl, hb⟩; refine ⟨_, rfl, ?_⟩; replace an := zA (Z4 (vu an.out) hb); replace au := zA (Z4 (vu au.out) hb); replace av := zA (Z4 (vu av.out) hb); replace aw := zA (Z4 (vu aw.out) hb); replace a1 := zb a1 hb; replace a2 := zb a2 hb; replace HB := zf hb))
  go_ret;exact ⟨er, zs⟩
 rw [if_neg c25] at H;have aU := eF c25;have aV := nT c25
 by_cases c47 : ax < ay
 ·rw [if_pos c47] at H;have aW := dT c47;clear c47;obtain rfl := zk1 H;go_enter Tryd.func59, Tryd.ntmps59
  try go_wp2_with (first | ((with_reducible refine zD 2 rfl ?_); refine zn (N := 2) (cs := #[.bool a7, .slice ab a5.length ac, .int .i64 a8]) (t := 25) rfl rfl ?_; intro af hg w48 hbox hb; have a1 := zA (hbox); have ap := zw hg; replace HB := ze hb; clear hb hbox hg) | ((with_reducible refine zD 3 rfl ?_); refine zn (N := 3) (cs := #[.bool a9, .slice ad a6.length ae, .int .i64 aa]) (t := 25) rfl rfl ?_; intro ag hg w49 hbox hb; have a2 := zA (hbox); have aq := zx hg; replace HB := zf hb; have al := zl a1 hg; have am := zg a1 hg; replace a1 := zb a1 hb; clear hb hbox hg))
  replace a1 := zA (Z8 a1.out);replace a2 := zA (Z8 a2.out);replace HB := zA (Zs HB.out);refine Z09 (n := 6) (S := fun w' => z4 w' af (.bool a7) (.slice ab a5.length ac) (.int .i64 a8) (z3 w' ag (.bool a9) (.slice ad a6.length ae) (.int .i64 aa))) (ds := []) #[O, O, O, O, O, O] (by kernel_rfl) rfl rfl (za a1 (zz a2)) (fun hHeld => ?_);generalize w49.drew = w50 at a1 a2 HB hHeld ⊢;refine take_ (i := 0) (N := some 12) (v := ?_) (a' := ?_) #[I, O, O, O, O, O] rfl rfl (by kernel_rfl) (fun _ _ _ h => h) (Or.inl ⟨by rfl, ?_⟩) hHeld ?_ ?_;rotate_left;·rintro w' ⟨s0, s1, s2, s3, s4, s5⟩;go_simp;with_reducible rfl
  rotate_left;·exact zq
  refine take_ (i := 2) (N := some 14) (v := ?_) (a' := ?_) #[I, O, I, O, O, O] rfl rfl (by kernel_rfl) (fun _ _ _ h => h) (Or.inl ⟨by rfl, ?_⟩) hHeld ?_ ?_;rotate_left;·rintro w' ⟨s0, s1, s2, s3, s4, s5⟩;go_simp;with_reducible rfl
  rotate_left;·exact zq
  refine ZL (i := 1) (N := some 13) #[I, I, I, O, O, O] rfl rfl (by kernel_rfl) (by decide) (fun K hK => ?_);refine Zz Tryd.func89 (by kernel_rfl) rfl #[.agg #[.bool a7, .slice ab a5.length ac, .int .i64 a8]] (by rfl) rfl rfl ga ?_
  with_reducible refine (Z17.calls k a7 _ _ a5 a8 ao _ ?a3 ?a4 A3.out).mono ?_
  (case a3 => exact zk (Za ah.out HB.out));(case a4 => exact ai.out);rintro e w51 ⟨rfl, hb⟩;refine ⟨_, rfl, ?_⟩;replace a1 := zb a1 hb;replace a2 := zb a2 hb;replace HB := zf hb;refine hK.out _ _ (za a1 (zz a2)) (fun hHeld => ?_);clear hK K;refine Zh (a' := ?_) ?_ ?_;rotate_left;·show Act.put _ (some 13) _ = _;exact zq
  refine ZL (i := 3) (N := some 15) #[I, I, I, I, O, O] rfl rfl (by kernel_rfl) (by decide) (fun K hK => ?_);refine Zz Tryd.func89 (by kernel_rfl) rfl #[.agg #[.bool a9, .slice ad a6.length ae, .int .i64 aa]] (by rfl) rfl rfl ga ?_
  with_reducible refine (Z17.calls k a9 _ _ a6 aa ar _ ?a3 ?a4 A4.out).mono ?_
  (case a3 => exact zk (Za aj.out HB.out));(case a4 => exact ak.out);rintro e w52 ⟨rfl, hb⟩;refine ⟨_, rfl, ?_⟩;replace a1 := zb a1 hb;replace a2 := zb a2 hb;replace HB := zf hb;refine hK.out _ _ (za a1 (zz a2)) (fun hHeld => ?_);clear hK K;refine Zh (a' := ?_) ?_ ?_;rotate_left;·show Act.put _ (some 15) _ = _;exact zq
  refine Z0D (i := 4) (N := some 5) (v := ?_) (a' := ?_) #[I, I, I, I, I, O] rfl rfl (by kernel_rfl) (fun _ _ _ h => h) (Or.inl ⟨by rfl, ?_⟩) ?_ ?_;rotate_left;·intro w';go_simp;with_reducible rfl
  rotate_left;·exact zq
  refine Z0D (i := 5) (N := some 6) (v := ?_) (a' := ?_) #[I, I, I, I, I, I] rfl rfl (by kernel_rfl) (fun _ _ _ h => h) (Or.inl ⟨by rfl, ?_⟩) ?_ ?_;rotate_left;·intro w';go_simp;with_reducible rfl
  rotate_left;·exact zq
  refine Z0l (by kernel_rfl) ?_
  try go_wp2
  replace a1 := zA (Z8 a1.out);replace a2 := zA (Z8 a2.out);replace HB := zA (Zs HB.out);refine Z09 (n := 6) (S := fun w' => z4 w' af (.bool a7) (.slice ab a5.length ac) (.int .i64 a8) (z3 w' ag (.bool a9) (.slice ad a6.length ae) (.int .i64 aa))) (ds := []) #[O, O, O, O, O, O] (by kernel_rfl) rfl rfl (za a1 (zz a2)) (fun hHeld => ?_);generalize w52.drew = w53 at a1 a2 HB hHeld ⊢;refine take_ (i := 0) (N := some 27) (v := ?_) (a' := ?_) #[I, O, O, O, O, O] rfl rfl (by kernel_rfl) (fun _ _ _ h => h) (Or.inl ⟨by rfl, ?_⟩) hHeld ?_ ?_;rotate_left;·rintro w' ⟨s0, s1, s2, s3, s4, s5⟩;go_simp;with_reducible rfl
  rotate_left;·exact zq
  refine take_ (i := 2) (N := some 29) (v := ?_) (a' := ?_) #[I, O, I, O, O, O] rfl rfl (by kernel_rfl) (fun _ _ _ h => h) (Or.inl ⟨by rfl, ?_⟩) hHeld ?_ ?_;rotate_left;·rintro w' ⟨s0, s1, s2, s3, s4, s5⟩;go_simp;with_reducible rfl
  rotate_left;·exact zq
  refine ZL (i := 1) (N := some 28) #[I, I, I, O, O, O] rfl rfl (by kernel_rfl) (by decide) (fun K hK => ?_);refine Zz Tryd.func56 (by kernel_rfl) rfl #[.agg #[.bool a7, .slice ab a5.length ac, .int .i64 a8]] (by rfl) rfl rfl ga ?_
  with_reducible refine (Z0B.calls k a7 _ _ a5 a8 ax _ ?a3 ?a4 aL.out).mono ?_
  (case a3 => exact zk (Za ah.out HB.out));(case a4 => exact ai.out);rintro e w54 ⟨rfl, hb⟩;refine ⟨_, rfl, ?_⟩;replace a1 := zb a1 hb;replace a2 := zb a2 hb;replace HB := zf hb;refine hK.out _ _ (za a1 (zz a2)) (fun hHeld => ?_);clear hK K;refine Zh (a' := ?_) ?_ ?_;rotate_left;·show Act.put _ (some 28) _ = _;exact zq
  refine ZL (i := 3) (N := some 30) #[I, I, I, I, O, O] rfl rfl (by kernel_rfl) (by decide) (fun K hK => ?_);refine Zz Tryd.func56 (by kernel_rfl) rfl #[.agg #[.bool a9, .slice ad a6.length ae, .int .i64 aa]] (by rfl) rfl rfl ga ?_
  with_reducible refine (Z0B.calls k a9 _ _ a6 aa ay _ ?a3 ?a4 aM.out).mono ?_
  (case a3 => exact zk (Za aj.out HB.out));(case a4 => exact ak.out);rintro e w55 ⟨rfl, hb⟩;refine ⟨_, rfl, ?_⟩;replace a1 := zb a1 hb;replace a2 := zb a2 hb;replace HB := zf hb;refine hK.out _ _ (za a1 (zz a2)) (fun hHeld => ?_);clear hK K;refine Zh (a' := ?_) ?_ ?_;rotate_left;·show Act.put _ (some 30) _ = _;exact zq
  refine Z0D (i := 4) (N := some 7) (v := ?_) (a' := ?_) #[I, I, I, I, I, O] rfl rfl (by kernel_rfl) (fun _ _ _ h => h) (Or.inl ⟨by rfl, ?_⟩) ?_ ?_;rotate_left;·intro w';go_simp;with_reducible rfl
  rotate_left;·exact zq
  refine Z0D (i := 5) (N := some 8) (v := ?_) (a' := ?_) #[I, I, I, I, I, I] rfl rfl (by kernel_rfl) (fun _ _ _ h => h) (Or.inl ⟨by rfl, ?_⟩) ?_ ?_;rotate_left;·intro w';go_simp;with_reducible rfl
  rotate_left;·exact zq
  refine Z0l (by kernel_rfl) ?_
  try go_wp2
  go_ret;exact ⟨er, zs⟩
 rw [if_neg c47] at H;have aW := dF c47;clear c47;obtain rfl := zk1 H;go_enter Tryd.func59, Tryd.ntmps59
 try go_wp2_with (first | ((with_reducible refine zD 2 rfl ?_); refine zn (N := 2) (cs := #[.bool a7, .slice ab a5.length ac, .int .i64 a8]) (t := 25) rfl rfl ?_; intro af hg w56 hbox hb; have a1 := zA (hbox); have ap := zw hg; replace HB := ze hb; clear hb hbox hg) | ((with_reducible refine zD 3 rfl ?_); refine zn (N := 3) (cs := #[.bool a9, .slice ad a6.length ae, .int .i64 aa]) (t := 25) rfl rfl ?_; intro ag hg w57 hbox hb; have a2 := zA (hbox); have aq := zx hg; replace HB := zf hb; have al := zl a1 hg; have am := zg a1 hg; replace a1 := zb a1 hb; clear hb hbox hg))
 replace a1 := zA (Z8 a1.out);replace a2 := zA (Z8 a2.out);replace HB := zA (Zs HB.out);refine Z09 (n := 6) (S := fun w' => z4 w' af (.bool a7) (.slice ab a5.length ac) (.int .i64 a8) (z3 w' ag (.bool a9) (.slice ad a6.length ae) (.int .i64 aa))) (ds := []) #[O, O, O, O, O, O] (by kernel_rfl) rfl rfl (za a1 (zz a2)) (fun hHeld => ?_);generalize w57.drew = w58 at a1 a2 HB hHeld ⊢;refine take_ (i := 0) (N := some 12) (v := ?_) (a' := ?_) #[I, O, O, O, O, O] rfl rfl (by kernel_rfl) (fun _ _ _ h => h) (Or.inl ⟨by rfl, ?_⟩) hHeld ?_ ?_;rotate_left;·rintro w' ⟨s0, s1, s2, s3, s4, s5⟩;go_simp;with_reducible rfl
 rotate_left;·exact zq
 refine take_ (i := 2) (N := some 14) (v := ?_) (a' := ?_) #[I, O, I, O, O, O] rfl rfl (by kernel_rfl) (fun _ _ _ h => h) (Or.inl ⟨by rfl, ?_⟩) hHeld ?_ ?_;rotate_left;·rintro w' ⟨s0, s1, s2, s3, s4, s5⟩;go_simp;with_reducible rfl
 rotate_left;·exact zq
 refine ZL (i := 1) (N := some 13) #[I, I, I, O, O, O] rfl rfl (by kernel_rfl) (by decide) (fun K hK => ?_);refine Zz Tryd.func89 (by kernel_rfl) rfl #[.agg #[.bool a7, .slice ab a5.length ac, .int .i64 a8]] (by rfl) rfl rfl ga ?_
 with_reducible refine (Z17.calls k a7 _ _ a5 a8 ao _ ?a3 ?a4 A3.out).mono ?_
 (case a3 => exact zk (Za ah.out HB.out));(case a4 => exact ai.out);rintro e w59 ⟨rfl, hb⟩;refine ⟨_, rfl, ?_⟩;replace a1 := zb a1 hb;replace a2 := zb a2 hb;replace HB := zf hb;refine hK.out _ _ (za a1 (zz a2)) (fun hHeld => ?_);clear hK K;refine Zh (a' := ?_) ?_ ?_;rotate_left;·show Act.put _ (some 13) _ = _;exact zq
 refine ZL (i := 3) (N := some 15) #[I, I, I, I, O, O] rfl rfl (by kernel_rfl) (by decide) (fun K hK => ?_);refine Zz Tryd.func89 (by kernel_rfl) rfl #[.agg #[.bool a9, .slice ad a6.length ae, .int .i64 aa]] (by rfl) rfl rfl ga ?_
 with_reducible refine (Z17.calls k a9 _ _ a6 aa ar _ ?a3 ?a4 A4.out).mono ?_
 (case a3 => exact zk (Za aj.out HB.out));(case a4 => exact ak.out);rintro e w60 ⟨rfl, hb⟩;refine ⟨_, rfl, ?_⟩;replace a1 := zb a1 hb;replace a2 := zb a2 hb;replace HB := zf hb;refine hK.out _ _ (za a1 (zz a2)) (fun hHeld => ?_);clear hK K;refine Zh (a' := ?_) ?_ ?_;rotate_left;·show Act.put _ (some 15) _ = _;exact zq
 refine Z0D (i := 4) (N := some 5) (v := ?_) (a' := ?_) #[I, I, I, I, I, O] rfl rfl (by kernel_rfl) (fun _ _ _ h => h) (Or.inl ⟨by rfl, ?_⟩) ?_ ?_;rotate_left;·intro w';go_simp;with_reducible rfl
 rotate_left;·exact zq
 refine Z0D (i := 5) (N := some 6) (v := ?_) (a' := ?_) #[I, I, I, I, I, I] rfl rfl (by kernel_rfl) (fun _ _ _ h => h) (Or.inl ⟨by rfl, ?_⟩) ?_ ?_;rotate_left;·intro w';go_simp;with_reducible rfl
 rotate_left;·exact zq
 refine Z0l (by kernel_rfl) ?_
 try go_wp2
 replace a1 := zA (Z8 a1.out);replace a2 := zA (Z8 a2.out);replace HB := zA (Zs HB.out);refine Z09 (n := 6) (S := fun w' => z4 w' af (.bool a7) (.slice ab a5.length ac) (.int .i64 a8) (z3 w' ag (.bool a9) (.slice ad a6.length ae) (.int .i64 aa))) (ds := []) #[O, O, O, O, O, O] (by kernel_rfl) rfl rfl (za a1 (zz a2)) (fun hHeld => ?_);generalize w60.drew = w61 at a1 a2 HB hHeld ⊢;refine take_ (i := 0) (N := some 27) (v := ?_) (a' := ?_) #[I, O, O, O, O, O] rfl rfl (by kernel_rfl) (fun _ _ _ h => h) (Or.inl ⟨by rfl, ?_⟩) hHeld ?_ ?_;rotate_left;·rintro w' ⟨s0, s1, s2, s3, s4, s5⟩;go_simp;with_reducible rfl
 rotate_left;·exact zq
 refine take_ (i := 2) (N := some 29) (v := ?_) (a' := ?_) #[I, O, I, O, O, O] rfl rfl (by kernel_rfl) (fun _ _ _ h => h) (Or.inl ⟨by rfl, ?_⟩) hHeld ?_ ?_;rotate_left;·rintro w' ⟨s0, s1, s2, s3, s4, s5⟩;go_simp;with_reducible rfl
 rotate_left;·exact zq
 refine ZL (i := 1) (N := some 28) #[I, I, I, O, O, O] rfl rfl (by kernel_rfl) (by decide) (fun K hK => ?_);refine Zz Tryd.func56 (by kernel_rfl) rfl #[.agg #[.bool a7, .slice ab a5.length ac, .int .i64 a8]] (by rfl) rfl rfl ga ?_
 with_reducible refine (Z0B.calls k a7 _ _ a5 a8 ax _ ?a3 ?a4 aL.out).mono ?_
 (case a3 => exact zk (Za ah.out HB.out));(case a4 => exact ai.out);rintro e w62 ⟨rfl, hb⟩;refine ⟨_, rfl, ?_⟩;replace a1 := zb a1 hb;replace a2 := zb a2 hb;replace HB := zf hb;refine hK.out _ _ (za a1 (zz a2)) (fun hHeld => ?_);clear hK K;refine Zh (a' := ?_) ?_ ?_;rotate_left;·show Act.put _ (some 28) _ = _;exact zq
 refine ZL (i := 3) (N := some 30) #[I, I, I, I, O, O] rfl rfl (by kernel_rfl) (by decide) (fun K hK => ?_);refine Zz Tryd.func56 (by kernel_rfl) rfl #[.agg #[.bool a9, .slice ad a6.length ae, .int .i64 aa]] (by rfl) rfl rfl ga ?_
 with_reducible refine (Z0B.calls k a9 _ _ a6 aa ay _ ?a3 ?a4 aM.out).mono ?_
 (case a3 => exact zk (Za aj.out HB.out));(case a4 => exact ak.out);rintro e w63 ⟨rfl, hb⟩;refine ⟨_, rfl, ?_⟩;replace a1 := zb a1 hb;replace a2 := zb a2 hb;replace HB := zf hb;refine hK.out _ _ (za a1 (zz a2)) (fun hHeld => ?_);clear hK K;refine Zh (a' := ?_) ?_ ?_;rotate_left;·show Act.put _ (some 30) _ = _;exact zq
 refine Z0D (i := 4) (N := some 7) (v := ?_) (a' := ?_) #[I, I, I, I, I, O] rfl rfl (by kernel_rfl) (fun _ _ _ h => h) (Or.inl ⟨by rfl, ?_⟩) ?_ ?_;rotate_left;·intro w';go_simp;with_reducible rfl
 rotate_left;·exact zq
 refine Z0D (i := 5) (N := some 8) (v := ?_) (a' := ?_) #[I, I, I, I, I, I] rfl rfl (by kernel_rfl) (fun _ _ _ h => h) (Or.inl ⟨by rfl, ?_⟩) ?_ ?_;rotate_left;·intro w';go_simp;with_reducible rfl
 rotate_left;·exact zq
 refine Z0l (by kernel_rfl) ?_
 try go_wp2
 go_ret;exact ⟨er, zs⟩
def Z2N.f (k : Nat) (a1 : Bool) (a2 : List Int) (a3 : Int) (a4 : Bool) (a5 : List Int) (a6 : Int) : Option (Int × Int) := (ZE.f k a1 a2 a3).bind fun a7 => (if a7 = true then ((ZE.f k a4 a5 a6).bind fun a8 => (if a8 = true then ((Z1m.f k a1 a2 a3 a4 a5 a6).bind fun a9 => (some (a9, 0))) else (some (0, 2)))) else (some (0, 2)))
theorem Z2N.calls (k : Nat) (a5 : Bool) (ah : Option Addr) (ai : Nat) (a3 : List Int) (a6 : Int) (a7 : Bool) (aj : Option Addr) (ak : Nat) (a4 : List Int) (a8 : Int) (r1 : Int) (r2 : Int) (w : World) (al : Kd.C Zu w ah a3.length a3) (am : a3.length ≤ ai) (an : Kd.C Zu w aj a4.length a4) (ao : a4.length ≤ ak) (hT : Laid w) (h : Z2N.f k a5 a3 a6 a7 a4 a8 = some (r1, r2)) :
  Calls Tryd.prog 87 #[.agg #[.bool a5, .slice ah a3.length ai, .int .i64 a6], .agg #[.bool a7, .slice aj a4.length ak, .int .i64 a8]] w fun e w' => e = .returned (.tuple #[.int .i64 r1, .int .i64 r2]) ∧ Below w.heap.size w w' := by
 have hu25 := Tryd.underlying25;have a9 := zA al;have aa := zA am;clear al am;have ab := zA an;have ac := zA ao;clear an ao;have HB := zA (Below.refl w.heap.size w);have H := h
 unfold Z2N.f at H
 clear h;obtain ⟨ap, A3, H⟩ := zh H
 by_cases c4 : ap = true
 subst c4;rw [if_pos rfl] at H;obtain ⟨aq, A5, H⟩ := zh H
 by_cases c6 : aq = true
 subst c6;rw [if_pos rfl] at H;obtain ⟨ar, A7, H⟩ := zh H;rotate_left;replace c6 := Bool.eq_false_iff.mpr c6;subst c6;rw [if_neg (show ¬ (false = true) by decide)] at H;rotate_left;replace c4 := Bool.eq_false_iff.mpr c4;subst c4;rw [if_neg (show ¬ (false = true) by decide)] at H;rotate_left
 all_goals
  simp only [zk3, zk7] at H;obtain ⟨rfl, rfl⟩ := H;go_enter Tryd.func87, Tryd.ntmps87
  go_wp2_with (first | ((with_reducible refine zD 2 rfl ?_); refine zn (N := 2) (cs := #[.bool a5, .slice ah a3.length ai, .int .i64 a6]) (t := 25) rfl rfl ?_; intro aN hg w8 hbox hb; have a1 := zA (hbox); have aO := zw hg; replace HB := ze hb; clear hb hbox hg) | ((with_reducible refine zD 3 rfl ?_); refine zn (N := 3) (cs := #[.bool a7, .slice aj a4.length ak, .int .i64 a8]) (t := 25) rfl rfl ?_; intro aP hg w9 hbox hb; have a2 := zA (hbox); have aQ := zx hg; replace HB := zf hb; have af := zl a1 hg; have ag := zg a1 hg; replace a1 := zb a1 hb; clear hb hbox hg; have aR := af.out; have aS := ag.out; obtain ⟨_, _, _, _, _, _⟩ := zc a1) | ((with_reducible refine zG 53 rfl ?_); refine zC (some 7) Tryd.func53 (ZE.calls k a5 _ _ a3 a6 true _ (zk (Za a9.out HB.out)) (aa.out) A3.out) ?_; rintro e w12 ⟨rfl, hb⟩; refine ⟨_, rfl, ?_⟩; replace a1 := zb a1 hb; replace a2 := zb a2 hb; replace HB := zf hb; obtain ⟨au, av, aw, ax, ay, aA⟩ := zc a2) | (go_at_call 53; (with_reducible refine (ZE.calls k a7 _ _ a4 a8 true _ ?ad ?ae A5.out).mono ?_); (case ad => exact zk (Za ab.out HB.out)); (case ae => exact ac.out); rintro e w14 ⟨rfl, hb⟩; replace a1 := zb a1 hb; replace a2 := zb a2 hb; replace HB := zf hb; obtain ⟨aB, aC, aD, aE, aF, aG⟩ := zc a1; obtain ⟨aH, aI, aJ, aK, aL, aM⟩ := zc a2) | ((with_reducible refine zG 59 rfl ?_); refine zC (some 16) Tryd.func59 (Z1m.calls k a5 _ _ a3 a6 a7 _ _ a4 a8 ar _ (zk (Za a9.out HB.out)) (aa.out) (zk (Za ab.out HB.out)) (ac.out) (laid_below hT zs) A7.out) ?_; rintro e w17 ⟨rfl, hb⟩; refine ⟨_, rfl, ?_⟩; replace a1 := zb a1 hb; replace a2 := zb a2 hb; replace HB := zf hb) | (go_at_call 53; (with_reducible refine (ZE.calls k a7 _ _ a4 a8 false _ ?ad ?ae A5.out).mono ?_); (case ad => exact zk (Za ab.out HB.out)); (case ae => exact ac.out); rintro e w24 ⟨rfl, hb⟩; replace a1 := zb a1 hb; replace a2 := zb a2 hb; replace HB := zf hb) | ((with_reducible refine zG 53 rfl ?_); refine zC (some 7) Tryd.func53 (ZE.calls k a5 _ _ a3 a6 false _ (zk (Za a9.out HB.out)) (aa.out) A3.out) ?_; rintro e w29 ⟨rfl, hb⟩; refine ⟨_, rfl, ?_⟩; replace a1 := zb a1 hb; replace a2 := zb a2 hb; replace HB := zf hb))
  go_ret2
  exact ⟨er, zs⟩
end Go.Proofs.YtnjfckadjklmfaaDoor.PAll
