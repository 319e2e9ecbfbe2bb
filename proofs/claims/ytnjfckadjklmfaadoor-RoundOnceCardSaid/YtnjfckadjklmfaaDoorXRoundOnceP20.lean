/- Printed functions, merged by a program of this session. -/
import Derived.Test.YtnjfckadjklmfaaDoorXRoundOnceP0
import Derived.Test.YtnjfckadjklmfaaDoorXRoundOnceP15
import Derived.Test.YtnjfckadjklmfaaDoorXRoundOnceP19
import Derived.Test.YtnjfckadjklmfaaDoorXRoundOnceSh
namespace Go.Proofs.YtnjfckadjklmfaaDoor.PAll
open Go.RowKit Go.Proofs.YtnjfckadjklmfaaDoorW.PrintWords Go.Proofs.YtnjfckadjklmfaaDoorW.PrintLast Go.Proofs.YtnjfckadjklmfaaDoorW.PrintMore Go.Proofs.YtnjfckadjklmfaaDoorW.PrintWords.Kd
attribute [local go_sem] max2_int min2_int max_two min_two max_three min_three max_four min_four   -- for this text's walks alone
set_option linter.unusedVariables false
set_option linter.unusedSimpArgs false
attribute [local go_sem] fld75_0 fld75_1 fld75_2 ext118 ext119
def ulpref04_Order.f (k : Nat) (a3 : Bool) (a4 : List Int) (a5 : Int) (a6 : Bool) (a7 : List Int) (a8 : Int) : Option (Int) := (ulpref04_Sign.f k a3 a4 a5).bind fun a1 => ((ulpref04_Sign.f k a6 a7 a8).bind fun a9 => (if a1 < a9 then (some (-1)) else (if a1 > a9 then (some 1) else (if a1 = 0 then (some 0) else ((ulpref04_Top.f k a3 a4 a5).bind fun aa => ((ulpref04_Top.f k a6 a7 a8).bind fun ab => (if aa = ab then ((ulpref04_Less.f k a3 a4 a5 a6 a7 a8).bind fun a2 => ((ulpref04_Sign.f k a2.1 a2.2.1 a2.2.2).bind fun ac => (some ac))) else (if aa > ab then (some a1) else (some (wrap64 (-a1)))))))))))
set_option maxHeartbeats 8000000 in
set_option maxRecDepth 100000 in
theorem ulpref04_Order.calls (k : Nat) (a7 : Bool) (ab : Option Addr) (ac : Nat) (a5 : List Int) (a8 : Int) (a9 : Bool) (ad : Option Addr) (ae : Nat) (a6 : List Int) (aa : Int) (r : Int) (w : World) (aC : Kd.C (Kd.int .u64) w ab a5.length a5) (aD : a5.length ≤ ac) (aE : Kd.C (Kd.int .u64) w ad a6.length a6) (aF : a6.length ≤ ae) (h : ulpref04_Order.f k a7 a5 a8 a9 a6 aa = some r) :
  Calls Tryd.prog 13 #[.agg #[.bool a7, .slice ab a5.length ac, .int .i64 a8], .agg #[.bool a9, .slice ad a6.length ae, .int .i64 aa]] w fun e w' => e = .returned (.int .i64 r) ∧ Below w.heap.size w w' := by
 have hu25 := Tryd.underlying25;have ak := zA aC;have al := zA aD;clear aC aD;have am := zA aE;have an := zA aF;clear aE aF;have HB := zA (Below.refl w.heap.size w);have H : ((ulpref04_Sign.f k a7 a5 a8).bind fun ah => ((ulpref04_Sign.f k a9 a6 aa).bind fun ao => (if ah < ao then (some (-1)) else (if ah > ao then (some 1) else (if ah = 0 then (some 0) else ((ulpref04_Top.f k a7 a5 a8).bind fun ap => ((ulpref04_Top.f k a9 a6 aa).bind fun aq => (if ap = aq then ((ulpref04_Less.f k a7 a5 a8 a9 a6 aa).bind fun aw => ((ulpref04_Sign.f k aw.1 aw.2.1 aw.2.2).bind fun ax => (some ax))) else (if ap > aq then (some ah) else (some (wrap64 (-ah)))))))))))) = some r := h;clear h;obtain ⟨ah, A3, H⟩ := zh H;obtain ⟨ao, A4, H⟩ := zh H
 by_cases c5 : ah < ao
 ·rw [if_pos c5] at H;have aR := decide_eq_true c5;clear c5;obtain rfl := Option.some.inj H;go_enter Tryd.func13, Tryd.ntmps13
  try go_wp2_with (first | ((with_reducible refine zD 2 rfl ?_); refine zn (N := 2) (cs := #[.bool a7, .slice ab a5.length ac, .int .i64 a8]) (t := 25) rfl rfl ?_; intro af hg w6 hbox hb; have a1 := zA (hbox); have ar := zw hg; replace HB := ze hb; clear hb hbox hg) | ((with_reducible refine zD 3 rfl ?_); refine zn (N := 3) (cs := #[.bool a9, .slice ad a6.length ae, .int .i64 aa]) (t := 25) rfl rfl ?_; intro ag hg w7 hbox hb; have a2 := zA (hbox); have au := zx hg; replace HB := zf hb; have ai := zl a1 hg; have aj := zg a1 hg; replace a1 := zb a1 hb; clear hb hbox hg))
  replace a1 := zA (blk_drew a1.out);replace a2 := zA (blk_drew a2.out);replace HB := zA (below_drew1 HB.out);refine start_ (n := 6) (S := fun w' => z4 w' af (.bool a7) (.slice ab a5.length ac) (.int .i64 a8) (z3 w' ag (.bool a9) (.slice ad a6.length ae) (.int .i64 aa))) (ds := []) #[false, false, false, false, false, false] (by kernel_rfl) rfl rfl (za a1 (zz a2)) (fun hHeld => ?_);generalize w7.drew = w8 at a1 a2 HB hHeld ⊢;refine take_ (i := 0) (N := some 9) (v := ?_) (a' := ?_) #[true, false, false, false, false, false] rfl rfl (by kernel_rfl) (fun _ _ _ h => h) (Or.inl ⟨by rfl, ?_⟩) hHeld ?_ ?_;rotate_left;·rintro w' ⟨s0, s1, s2, s3, s4, s5⟩;go_simp;with_reducible rfl
  rotate_left;·exact zq
  refine take_ (i := 2) (N := some 11) (v := ?_) (a' := ?_) #[true, false, true, false, false, false] rfl rfl (by kernel_rfl) (fun _ _ _ h => h) (Or.inl ⟨by rfl, ?_⟩) hHeld ?_ ?_;rotate_left;·rintro w' ⟨s0, s1, s2, s3, s4, s5⟩;go_simp;with_reducible rfl
  rotate_left;·exact zq
  refine one_ (i := 1) (N := some 10) #[true, true, true, false, false, false] rfl rfl (by kernel_rfl) (by decide) (fun K hK => ?_);refine goes_ Tryd.func38 (by kernel_rfl) rfl #[.agg #[.bool a7, .slice ab a5.length ac, .int .i64 a8]] (by rfl) rfl rfl ga ?_
  with_reducible refine (ulpref04_Sign.calls k a7 _ _ a5 a8 ah _ ?a3 ?a4 A3.out).mono ?_
  (case a3 => exact zk (C_below ak.out HB.out));(case a4 => exact al.out);rintro e w9 ⟨rfl, hb⟩;refine ⟨_, rfl, ?_⟩;replace a1 := zb a1 hb;replace a2 := zb a2 hb;replace HB := zf hb;(try clear hb);(try clear hb2);(try clear hk);(try clear hi);refine hK.out _ _ (za a1 (zz a2)) (fun hHeld => ?_);clear hK K;refine norm_ (a' := ?_) ?_ ?_;rotate_left;·show Act.put _ (some 10) _ = _;exact zq
  refine one_ (i := 3) (N := some 12) #[true, true, true, true, false, false] rfl rfl (by kernel_rfl) (by decide) (fun K hK => ?_);refine goes_ Tryd.func38 (by kernel_rfl) rfl #[.agg #[.bool a9, .slice ad a6.length ae, .int .i64 aa]] (by rfl) rfl rfl ga ?_
  with_reducible refine (ulpref04_Sign.calls k a9 _ _ a6 aa ao _ ?a3 ?a4 A4.out).mono ?_
  (case a3 => exact zk (C_below am.out HB.out));(case a4 => exact an.out);rintro e w10 ⟨rfl, hb⟩;refine ⟨_, rfl, ?_⟩;replace a1 := zb a1 hb;replace a2 := zb a2 hb;replace HB := zf hb;(try clear hb);(try clear hb2);(try clear hk);(try clear hi);refine hK.out _ _ (za a1 (zz a2)) (fun hHeld => ?_);clear hK K;refine norm_ (a' := ?_) ?_ ?_;rotate_left;·show Act.put _ (some 12) _ = _;exact zq
  refine pure_ (i := 4) (N := some 5) (v := ?_) (a' := ?_) #[true, true, true, true, true, false] rfl rfl (by kernel_rfl) (fun _ _ _ h => h) (Or.inl ⟨by rfl, ?_⟩) ?_ ?_;rotate_left;·intro w';go_simp;with_reducible rfl
  rotate_left;·exact zq
  refine pure_ (i := 5) (N := some 6) (v := ?_) (a' := ?_) #[true, true, true, true, true, true] rfl rfl (by kernel_rfl) (fun _ _ _ h => h) (Or.inl ⟨by rfl, ?_⟩) ?_ ?_;rotate_left;·intro w';go_simp;with_reducible rfl
  rotate_left;·exact zq
  refine done_ (by kernel_rfl) ?_
  try go_wp2
  go_ret;exact ⟨er, zs⟩
 rw [if_neg c5] at H;have aR := decide_eq_false c5;clear c5
 by_cases c11 : ah > ao
 ·rw [if_pos c11] at H;have aI := decide_eq_true c11;clear c11;obtain rfl := Option.some.inj H;go_enter Tryd.func13, Tryd.ntmps13
  try go_wp2_with (first | ((with_reducible refine zD 2 rfl ?_); refine zn (N := 2) (cs := #[.bool a7, .slice ab a5.length ac, .int .i64 a8]) (t := 25) rfl rfl ?_; intro af hg w12 hbox hb; have a1 := zA (hbox); have ar := zw hg; replace HB := ze hb; clear hb hbox hg) | ((with_reducible refine zD 3 rfl ?_); refine zn (N := 3) (cs := #[.bool a9, .slice ad a6.length ae, .int .i64 aa]) (t := 25) rfl rfl ?_; intro ag hg w13 hbox hb; have a2 := zA (hbox); have au := zx hg; replace HB := zf hb; have ai := zl a1 hg; have aj := zg a1 hg; replace a1 := zb a1 hb; clear hb hbox hg))
  replace a1 := zA (blk_drew a1.out);replace a2 := zA (blk_drew a2.out);replace HB := zA (below_drew1 HB.out);refine start_ (n := 6) (S := fun w' => z4 w' af (.bool a7) (.slice ab a5.length ac) (.int .i64 a8) (z3 w' ag (.bool a9) (.slice ad a6.length ae) (.int .i64 aa))) (ds := []) #[false, false, false, false, false, false] (by kernel_rfl) rfl rfl (za a1 (zz a2)) (fun hHeld => ?_);generalize w13.drew = w14 at a1 a2 HB hHeld ⊢;refine take_ (i := 0) (N := some 9) (v := ?_) (a' := ?_) #[true, false, false, false, false, false] rfl rfl (by kernel_rfl) (fun _ _ _ h => h) (Or.inl ⟨by rfl, ?_⟩) hHeld ?_ ?_;rotate_left;·rintro w' ⟨s0, s1, s2, s3, s4, s5⟩;go_simp;with_reducible rfl
  rotate_left;·exact zq
  refine take_ (i := 2) (N := some 11) (v := ?_) (a' := ?_) #[true, false, true, false, false, false] rfl rfl (by kernel_rfl) (fun _ _ _ h => h) (Or.inl ⟨by rfl, ?_⟩) hHeld ?_ ?_;rotate_left;·rintro w' ⟨s0, s1, s2, s3, s4, s5⟩;go_simp;with_reducible rfl
  rotate_left;·exact zq
  refine one_ (i := 1) (N := some 10) #[true, true, true, false, false, false] rfl rfl (by kernel_rfl) (by decide) (fun K hK => ?_);refine goes_ Tryd.func38 (by kernel_rfl) rfl #[.agg #[.bool a7, .slice ab a5.length ac, .int .i64 a8]] (by rfl) rfl rfl ga ?_
  with_reducible refine (ulpref04_Sign.calls k a7 _ _ a5 a8 ah _ ?a3 ?a4 A3.out).mono ?_
  (case a3 => exact zk (C_below ak.out HB.out));(case a4 => exact al.out);rintro e w15 ⟨rfl, hb⟩;refine ⟨_, rfl, ?_⟩;replace a1 := zb a1 hb;replace a2 := zb a2 hb;replace HB := zf hb;(try clear hb);(try clear hb2);(try clear hk);(try clear hi);refine hK.out _ _ (za a1 (zz a2)) (fun hHeld => ?_);clear hK K;refine norm_ (a' := ?_) ?_ ?_;rotate_left;·show Act.put _ (some 10) _ = _;exact zq
  refine one_ (i := 3) (N := some 12) #[true, true, true, true, false, false] rfl rfl (by kernel_rfl) (by decide) (fun K hK => ?_);refine goes_ Tryd.func38 (by kernel_rfl) rfl #[.agg #[.bool a9, .slice ad a6.length ae, .int .i64 aa]] (by rfl) rfl rfl ga ?_
  with_reducible refine (ulpref04_Sign.calls k a9 _ _ a6 aa ao _ ?a3 ?a4 A4.out).mono ?_
  (case a3 => exact zk (C_below am.out HB.out));(case a4 => exact an.out);rintro e w16 ⟨rfl, hb⟩;refine ⟨_, rfl, ?_⟩;replace a1 := zb a1 hb;replace a2 := zb a2 hb;replace HB := zf hb;(try clear hb);(try clear hb2);(try clear hk);(try clear hi);refine hK.out _ _ (za a1 (zz a2)) (fun hHeld => ?_);clear hK K;refine norm_ (a' := ?_) ?_ ?_;rotate_left;·show Act.put _ (some 12) _ = _;exact zq
  refine pure_ (i := 4) (N := some 5) (v := ?_) (a' := ?_) #[true, true, true, true, true, false] rfl rfl (by kernel_rfl) (fun _ _ _ h => h) (Or.inl ⟨by rfl, ?_⟩) ?_ ?_;rotate_left;·intro w';go_simp;with_reducible rfl
  rotate_left;·exact zq
  refine pure_ (i := 5) (N := some 6) (v := ?_) (a' := ?_) #[true, true, true, true, true, true] rfl rfl (by kernel_rfl) (fun _ _ _ h => h) (Or.inl ⟨by rfl, ?_⟩) ?_ ?_;rotate_left;·intro w';go_simp;with_reducible rfl
  rotate_left;·exact zq
  refine done_ (by kernel_rfl) ?_
  try go_wp2
  go_ret;exact ⟨er, zs⟩
 rw [if_neg c11] at H;have aI := decide_eq_false c11;clear c11
 by_cases c17 : ah = 0
 ·rw [if_pos c17] at H;have aJ := beq_iff_eq.mpr c17;have aK := bne_eq_false_iff_eq.mpr c17;clear c17;obtain rfl := Option.some.inj H;go_enter Tryd.func13, Tryd.ntmps13
  try go_wp2_with (first | ((with_reducible refine zD 2 rfl ?_); refine zn (N := 2) (cs := #[.bool a7, .slice ab a5.length ac, .int .i64 a8]) (t := 25) rfl rfl ?_; intro af hg w18 hbox hb; have a1 := zA (hbox); have ar := zw hg; replace HB := ze hb; clear hb hbox hg) | ((with_reducible refine zD 3 rfl ?_); refine zn (N := 3) (cs := #[.bool a9, .slice ad a6.length ae, .int .i64 aa]) (t := 25) rfl rfl ?_; intro ag hg w19 hbox hb; have a2 := zA (hbox); have au := zx hg; replace HB := zf hb; have ai := zl a1 hg; have aj := zg a1 hg; replace a1 := zb a1 hb; clear hb hbox hg))
  replace a1 := zA (blk_drew a1.out);replace a2 := zA (blk_drew a2.out);replace HB := zA (below_drew1 HB.out);refine start_ (n := 6) (S := fun w' => z4 w' af (.bool a7) (.slice ab a5.length ac) (.int .i64 a8) (z3 w' ag (.bool a9) (.slice ad a6.length ae) (.int .i64 aa))) (ds := []) #[false, false, false, false, false, false] (by kernel_rfl) rfl rfl (za a1 (zz a2)) (fun hHeld => ?_);generalize w19.drew = w20 at a1 a2 HB hHeld ⊢;refine take_ (i := 0) (N := some 9) (v := ?_) (a' := ?_) #[true, false, false, false, false, false] rfl rfl (by kernel_rfl) (fun _ _ _ h => h) (Or.inl ⟨by rfl, ?_⟩) hHeld ?_ ?_;rotate_left;·rintro w' ⟨s0, s1, s2, s3, s4, s5⟩;go_simp;with_reducible rfl
  rotate_left;·exact zq
  refine take_ (i := 2) (N := some 11) (v := ?_) (a' := ?_) #[true, false, true, false, false, false] rfl rfl (by kernel_rfl) (fun _ _ _ h => h) (Or.inl ⟨by rfl, ?_⟩) hHeld ?_ ?_;rotate_left;·rintro w' ⟨s0, s1, s2, s3, s4, s5⟩;go_simp;with_reducible rfl
  rotate_left;·exact zq
  refine one_ (i := 1) (N := some 10) #[true, true, true, false, false, false] rfl rfl (by kernel_rfl) (by decide) (fun K hK => ?_);refine goes_ Tryd.func38 (by kernel_rfl) rfl #[.agg #[.bool a7, .slice ab a5.length ac, .int .i64 a8]] (by rfl) rfl rfl ga ?_
  with_reducible refine (ulpref04_Sign.calls k a7 _ _ a5 a8 ah _ ?a3 ?a4 A3.out).mono ?_
  (case a3 => exact zk (C_below ak.out HB.out));(case a4 => exact al.out);rintro e w21 ⟨rfl, hb⟩;refine ⟨_, rfl, ?_⟩;replace a1 := zb a1 hb;replace a2 := zb a2 hb;replace HB := zf hb;(try clear hb);(try clear hb2);(try clear hk);(try clear hi);refine hK.out _ _ (za a1 (zz a2)) (fun hHeld => ?_);clear hK K;refine norm_ (a' := ?_) ?_ ?_;rotate_left;·show Act.put _ (some 10) _ = _;exact zq
  refine one_ (i := 3) (N := some 12) #[true, true, true, true, false, false] rfl rfl (by kernel_rfl) (by decide) (fun K hK => ?_);refine goes_ Tryd.func38 (by kernel_rfl) rfl #[.agg #[.bool a9, .slice ad a6.length ae, .int .i64 aa]] (by rfl) rfl rfl ga ?_
  with_reducible refine (ulpref04_Sign.calls k a9 _ _ a6 aa ao _ ?a3 ?a4 A4.out).mono ?_
  (case a3 => exact zk (C_below am.out HB.out));(case a4 => exact an.out);rintro e w22 ⟨rfl, hb⟩;refine ⟨_, rfl, ?_⟩;replace a1 := zb a1 hb;replace a2 := zb a2 hb;replace HB := zf hb;(try clear hb);(try clear hb2);(try clear hk);(try clear hi);refine hK.out _ _ (za a1 (zz a2)) (fun hHeld => ?_);clear hK K;refine norm_ (a' := ?_) ?_ ?_;rotate_left;·show Act.put _ (some 12) _ = _;exact zq
  refine pure_ (i := 4) (N := some 5) (v := ?_) (a' := ?_) #[true, true, true, true, true, false] rfl rfl (by kernel_rfl) (fun _ _ _ h => h) (Or.inl ⟨by rfl, ?_⟩) ?_ ?_;rotate_left;·intro w';go_simp;with_reducible rfl
  rotate_left;·exact zq
  refine pure_ (i := 5) (N := some 6) (v := ?_) (a' := ?_) #[true, true, true, true, true, true] rfl rfl (by kernel_rfl) (fun _ _ _ h => h) (Or.inl ⟨by rfl, ?_⟩) ?_ ?_;rotate_left;·intro w';go_simp;with_reducible rfl
  rotate_left;·exact zq
  refine done_ (by kernel_rfl) ?_
  try go_wp2
  go_ret;exact ⟨er, zs⟩
 rw [if_neg c17] at H;have aJ := beq_eq_false_iff_ne.mpr c17;have aK := bne_iff_ne.mpr c17;obtain ⟨ap, aG, H⟩ := zh H;obtain ⟨aq, aH, H⟩ := zh H
 by_cases c25 : ap = aq
 ·rw [if_pos c25] at H;have aL := beq_iff_eq.mpr c25;have aM := bne_eq_false_iff_eq.mpr c25;clear c25;obtain ⟨⟨ay, aA, aB⟩, aV, H⟩ := zh H;(try dsimp only at H);obtain ⟨ax, aW, H⟩ := zh H;obtain rfl := Option.some.inj H;go_enter Tryd.func13, Tryd.ntmps13
  try go_wp2_with (first | ((with_reducible refine zD 2 rfl ?_); refine zn (N := 2) (cs := #[.bool a7, .slice ab a5.length ac, .int .i64 a8]) (t := 25) rfl rfl ?_; intro af hg w28 hbox hb; have a1 := zA (hbox); have ar := zw hg; replace HB := ze hb; clear hb hbox hg) | ((with_reducible refine zD 3 rfl ?_); refine zn (N := 3) (cs := #[.bool a9, .slice ad a6.length ae, .int .i64 aa]) (t := 25) rfl rfl ?_; intro ag hg w29 hbox hb; have a2 := zA (hbox); have au := zx hg; replace HB := zf hb; have ai := zl a1 hg; have aj := zg a1 hg; replace a1 := zb a1 hb; clear hb hbox hg))
  replace a1 := zA (blk_drew a1.out);replace a2 := zA (blk_drew a2.out);replace HB := zA (below_drew1 HB.out);refine start_ (n := 6) (S := fun w' => z4 w' af (.bool a7) (.slice ab a5.length ac) (.int .i64 a8) (z3 w' ag (.bool a9) (.slice ad a6.length ae) (.int .i64 aa))) (ds := []) #[false, false, false, false, false, false] (by kernel_rfl) rfl rfl (za a1 (zz a2)) (fun hHeld => ?_);generalize w29.drew = w30 at a1 a2 HB hHeld ⊢;refine take_ (i := 0) (N := some 9) (v := ?_) (a' := ?_) #[true, false, false, false, false, false] rfl rfl (by kernel_rfl) (fun _ _ _ h => h) (Or.inl ⟨by rfl, ?_⟩) hHeld ?_ ?_;rotate_left;·rintro w' ⟨s0, s1, s2, s3, s4, s5⟩;go_simp;with_reducible rfl
  rotate_left;·exact zq
  refine take_ (i := 2) (N := some 11) (v := ?_) (a' := ?_) #[true, false, true, false, false, false] rfl rfl (by kernel_rfl) (fun _ _ _ h => h) (Or.inl ⟨by rfl, ?_⟩) hHeld ?_ ?_;rotate_left;·rintro w' ⟨s0, s1, s2, s3, s4, s5⟩;go_simp;with_reducible rfl
  rotate_left;·exact zq
  refine one_ (i := 1) (N := some 10) #[true, true, true, false, false, false] rfl rfl (by kernel_rfl) (by decide) (fun K hK => ?_);refine goes_ Tryd.func38 (by kernel_rfl) rfl #[.agg #[.bool a7, .slice ab a5.length ac, .int .i64 a8]] (by rfl) rfl rfl ga ?_
  with_reducible refine (ulpref04_Sign.calls k a7 _ _ a5 a8 ah _ ?a3 ?a4 A3.out).mono ?_
  (case a3 => exact zk (C_below ak.out HB.out));(case a4 => exact al.out);rintro e w31 ⟨rfl, hb⟩;refine ⟨_, rfl, ?_⟩;replace a1 := zb a1 hb;replace a2 := zb a2 hb;replace HB := zf hb;(try clear hb);(try clear hb2);(try clear hk);(try clear hi);refine hK.out _ _ (za a1 (zz a2)) (fun hHeld => ?_);clear hK K;refine norm_ (a' := ?_) ?_ ?_;rotate_left;·show Act.put _ (some 10) _ = _;exact zq
  refine one_ (i := 3) (N := some 12) #[true, true, true, true, false, false] rfl rfl (by kernel_rfl) (by decide) (fun K hK => ?_);refine goes_ Tryd.func38 (by kernel_rfl) rfl #[.agg #[.bool a9, .slice ad a6.length ae, .int .i64 aa]] (by rfl) rfl rfl ga ?_
  with_reducible refine (ulpref04_Sign.calls k a9 _ _ a6 aa ao _ ?a3 ?a4 A4.out).mono ?_
  (case a3 => exact zk (C_below am.out HB.out));(case a4 => exact an.out);rintro e w32 ⟨rfl, hb⟩;refine ⟨_, rfl, ?_⟩;replace a1 := zb a1 hb;replace a2 := zb a2 hb;replace HB := zf hb;(try clear hb);(try clear hb2);(try clear hk);(try clear hi);refine hK.out _ _ (za a1 (zz a2)) (fun hHeld => ?_);clear hK K;refine norm_ (a' := ?_) ?_ ?_;rotate_left;·show Act.put _ (some 12) _ = _;exact zq
  refine pure_ (i := 4) (N := some 5) (v := ?_) (a' := ?_) #[true, true, true, true, true, false] rfl rfl (by kernel_rfl) (fun _ _ _ h => h) (Or.inl ⟨by rfl, ?_⟩) ?_ ?_;rotate_left;·intro w';go_simp;with_reducible rfl
  rotate_left;·exact zq
  refine pure_ (i := 5) (N := some 6) (v := ?_) (a' := ?_) #[true, true, true, true, true, true] rfl rfl (by kernel_rfl) (fun _ _ _ h => h) (Or.inl ⟨by rfl, ?_⟩) ?_ ?_;rotate_left;·intro w';go_simp;with_reducible rfl
  rotate_left;·exact zq
  refine done_ (by kernel_rfl) ?_
  try go_wp2
  replace a1 := zA (blk_drew a1.out);replace a2 := zA (blk_drew a2.out);replace HB := zA (below_drew1 HB.out);refine start_ (n := 6) (S := fun w' => z4 w' af (.bool a7) (.slice ab a5.length ac) (.int .i64 a8) (z3 w' ag (.bool a9) (.slice ad a6.length ae) (.int .i64 aa))) (ds := []) #[false, false, false, false, false, false] (by kernel_rfl) rfl rfl (za a1 (zz a2)) (fun hHeld => ?_);generalize w32.drew = w33 at a1 a2 HB hHeld ⊢;refine take_ (i := 0) (N := some 24) (v := ?_) (a' := ?_) #[true, false, false, false, false, false] rfl rfl (by kernel_rfl) (fun _ _ _ h => h) (Or.inl ⟨by rfl, ?_⟩) hHeld ?_ ?_;rotate_left;·rintro w' ⟨s0, s1, s2, s3, s4, s5⟩;go_simp;with_reducible rfl
  rotate_left;·exact zq
  refine take_ (i := 2) (N := some 26) (v := ?_) (a' := ?_) #[true, false, true, false, false, false] rfl rfl (by kernel_rfl) (fun _ _ _ h => h) (Or.inl ⟨by rfl, ?_⟩) hHeld ?_ ?_;rotate_left;·rintro w' ⟨s0, s1, s2, s3, s4, s5⟩;go_simp;with_reducible rfl
  rotate_left;·exact zq
  refine one_ (i := 1) (N := some 25) #[true, true, true, false, false, false] rfl rfl (by kernel_rfl) (by decide) (fun K hK => ?_);refine goes_ Tryd.func39 (by kernel_rfl) rfl #[.agg #[.bool a7, .slice ab a5.length ac, .int .i64 a8]] (by rfl) rfl rfl ga ?_
  with_reducible refine (ulpref04_Top.calls k a7 _ _ a5 a8 ap _ ?a3 ?a4 aG.out).mono ?_
  (case a3 => exact zk (C_below ak.out HB.out));(case a4 => exact al.out);rintro e w34 ⟨rfl, hb⟩;refine ⟨_, rfl, ?_⟩;replace a1 := zb a1 hb;replace a2 := zb a2 hb;replace HB := zf hb;(try clear hb);(try clear hb2);(try clear hk);(try clear hi);refine hK.out _ _ (za a1 (zz a2)) (fun hHeld => ?_);clear hK K;refine norm_ (a' := ?_) ?_ ?_;rotate_left;·show Act.put _ (some 25) _ = _;exact zq
  refine one_ (i := 3) (N := some 27) #[true, true, true, true, false, false] rfl rfl (by kernel_rfl) (by decide) (fun K hK => ?_);refine goes_ Tryd.func39 (by kernel_rfl) rfl #[.agg #[.bool a9, .slice ad a6.length ae, .int .i64 aa]] (by rfl) rfl rfl ga ?_
  with_reducible refine (ulpref04_Top.calls k a9 _ _ a6 aa aq _ ?a3 ?a4 aH.out).mono ?_
  (case a3 => exact zk (C_below am.out HB.out));(case a4 => exact an.out);rintro e w35 ⟨rfl, hb⟩;refine ⟨_, rfl, ?_⟩;replace a1 := zb a1 hb;replace a2 := zb a2 hb;replace HB := zf hb;(try clear hb);(try clear hb2);(try clear hk);(try clear hi);refine hK.out _ _ (za a1 (zz a2)) (fun hHeld => ?_);clear hK K;refine norm_ (a' := ?_) ?_ ?_;rotate_left;·show Act.put _ (some 27) _ = _;exact zq
  refine pure_ (i := 4) (N := some 7) (v := ?_) (a' := ?_) #[true, true, true, true, true, false] rfl rfl (by kernel_rfl) (fun _ _ _ h => h) (Or.inl ⟨by rfl, ?_⟩) ?_ ?_;rotate_left;·intro w';go_simp;with_reducible rfl
  rotate_left;·exact zq
  refine pure_ (i := 5) (N := some 8) (v := ?_) (a' := ?_) #[true, true, true, true, true, true] rfl rfl (by kernel_rfl) (fun _ _ _ h => h) (Or.inl ⟨by rfl, ?_⟩) ?_ ?_;rotate_left;·intro w';go_simp;with_reducible rfl
  rotate_left;·exact zq
  refine done_ (by kernel_rfl) ?_;have aX := ai.out;have aY := aj.out;obtain ⟨_, _, _, _, _, _⟩ := zc a1;obtain ⟨_, _, _, _, _, _⟩ := zc a2
  try go_wp2_with (first | ((with_reducible refine zG 40 rfl ?_); refine zL (some 39) rfl rfl Tryd.func40 #[.agg #[.bool a7, .slice ab a5.length ac, .int .i64 a8], .agg #[.bool a9, .slice ad a6.length ae, .int .i64 aa]] rfl ?_; (with_reducible refine (ulpref04_Less.calls k a7 _ _ a5 a8 a9 _ _ a6 aa ay aA aB _ ?a3 ?a4 ?aN ?aO aV.out).mono ?_); (case a3 => exact zk (C_below ak.out HB.out)); (case a4 => exact al.out); (case aN => exact zk (C_below am.out HB.out)); (case aO => exact an.out); rintro e w39 ⟨v723, rfl, aQ, hb⟩; refine ⟨_, rfl, ?_⟩; have av := zA (R_lower aQ (below_size zs)); replace a1 := zb a1 hb; replace a2 := zb a2 hb; replace HB := zf hb; (try clear aQ); obtain ⟨aS, aT, aU⟩ := R_slice av.out; subst aU) | ((with_reducible refine zG 38 rfl ?_); refine zL (some 40) rfl rfl Tryd.func38 #[.agg #[.bool ay, .slice aS aA.length aT, .int .i64 aB]] rfl ?_; (with_reducible refine (ulpref04_Sign.calls k ay _ _ aA aB ax _ ?a3 ?a4 aW.out).mono ?_); (case a3 => exact zk (R_reads' av.out).2.2); (case a4 => exact (R_reads' av.out).2.1); rintro e w41 ⟨rfl, hb⟩; refine ⟨_, rfl, ?_⟩; replace av := zA (R_below (ru av.out) hb); replace a1 := zb a1 hb; replace a2 := zb a2 hb; replace HB := zf hb))
  go_ret;exact ⟨er, zs⟩
 rw [if_neg c25] at H;have aL := beq_eq_false_iff_ne.mpr c25;have aM := bne_iff_ne.mpr c25
 by_cases c42 : ap > aq
 ·rw [if_pos c42] at H;have aP := decide_eq_true c42;clear c42;obtain rfl := Option.some.inj H;go_enter Tryd.func13, Tryd.ntmps13
  try go_wp2_with (first | ((with_reducible refine zD 2 rfl ?_); refine zn (N := 2) (cs := #[.bool a7, .slice ab a5.length ac, .int .i64 a8]) (t := 25) rfl rfl ?_; intro af hg w43 hbox hb; have a1 := zA (hbox); have ar := zw hg; replace HB := ze hb; clear hb hbox hg) | ((with_reducible refine zD 3 rfl ?_); refine zn (N := 3) (cs := #[.bool a9, .slice ad a6.length ae, .int .i64 aa]) (t := 25) rfl rfl ?_; intro ag hg w44 hbox hb; have a2 := zA (hbox); have au := zx hg; replace HB := zf hb; have ai := zl a1 hg; have aj := zg a1 hg; replace a1 := zb a1 hb; clear hb hbox hg))
  replace a1 := zA (blk_drew a1.out);replace a2 := zA (blk_drew a2.out);replace HB := zA (below_drew1 HB.out);refine start_ (n := 6) (S := fun w' => z4 w' af (.bool a7) (.slice ab a5.length ac) (.int .i64 a8) (z3 w' ag (.bool a9) (.slice ad a6.length ae) (.int .i64 aa))) (ds := []) #[false, false, false, false, false, false] (by kernel_rfl) rfl rfl (za a1 (zz a2)) (fun hHeld => ?_);generalize w44.drew = w45 at a1 a2 HB hHeld ⊢;refine take_ (i := 0) (N := some 9) (v := ?_) (a' := ?_) #[true, false, false, false, false, false] rfl rfl (by kernel_rfl) (fun _ _ _ h => h) (Or.inl ⟨by rfl, ?_⟩) hHeld ?_ ?_;rotate_left;·rintro w' ⟨s0, s1, s2, s3, s4, s5⟩;go_simp;with_reducible rfl
  rotate_left;·exact zq
  refine take_ (i := 2) (N := some 11) (v := ?_) (a' := ?_) #[true, false, true, false, false, false] rfl rfl (by kernel_rfl) (fun _ _ _ h => h) (Or.inl ⟨by rfl, ?_⟩) hHeld ?_ ?_;rotate_left;·rintro w' ⟨s0, s1, s2, s3, s4, s5⟩;go_simp;with_reducible rfl
  rotate_left;·exact zq
  refine one_ (i := 1) (N := some 10) #[true, true, true, false, false, false] rfl rfl (by kernel_rfl) (by decide) (fun K hK => ?_);refine goes_ Tryd.func38 (by kernel_rfl) rfl #[.agg #[.bool a7, .slice ab a5.length ac, .int .i64 a8]] (by rfl) rfl rfl ga ?_
  with_reducible refine (ulpref04_Sign.calls k a7 _ _ a5 a8 ah _ ?a3 ?a4 A3.out).mono ?_
  (case a3 => exact zk (C_below ak.out HB.out));(case a4 => exact al.out);rintro e w46 ⟨rfl, hb⟩;refine ⟨_, rfl, ?_⟩;replace a1 := zb a1 hb;replace a2 := zb a2 hb;replace HB := zf hb;(try clear hb);(try clear hb2);(try clear hk);(try clear hi);refine hK.out _ _ (za a1 (zz a2)) (fun hHeld => ?_);clear hK K;refine norm_ (a' := ?_) ?_ ?_;rotate_left;·show Act.put _ (some 10) _ = _;exact zq
  refine one_ (i := 3) (N := some 12) #[true, true, true, true, false, false] rfl rfl (by kernel_rfl) (by decide) (fun K hK => ?_);refine goes_ Tryd.func38 (by kernel_rfl) rfl #[.agg #[.bool a9, .slice ad a6.length ae, .int .i64 aa]] (by rfl) rfl rfl ga ?_
  with_reducible refine (ulpref04_Sign.calls k a9 _ _ a6 aa ao _ ?a3 ?a4 A4.out).mono ?_
  (case a3 => exact zk (C_below am.out HB.out));(case a4 => exact an.out);rintro e w47 ⟨rfl, hb⟩;refine ⟨_, rfl, ?_⟩;replace a1 := zb a1 hb;replace a2 := zb a2 hb;replace HB := zf hb;(try clear hb);(try clear hb2);(try clear hk);(try clear hi);refine hK.out _ _ (za a1 (zz a2)) (fun hHeld => ?_);clear hK K;refine norm_ (a' := ?_) ?_ ?_;rotate_left;·show Act.put _ (some 12) _ = _;exact zq
  refine pure_ (i := 4) (N := some 5) (v := ?_) (a' := ?_) #[true, true, true, true, true, false] rfl rfl (by kernel_rfl) (fun _ _ _ h => h) (Or.inl ⟨by rfl, ?_⟩) ?_ ?_;rotate_left;·intro w';go_simp;with_reducible rfl
  rotate_left;·exact zq
  refine pure_ (i := 5) (N := some 6) (v := ?_) (a' := ?_) #[true, true, true, true, true, true] rfl rfl (by kernel_rfl) (fun _ _ _ h => h) (Or.inl ⟨by rfl, ?_⟩) ?_ ?_;rotate_left;·intro w';go_simp;with_reducible rfl
  rotate_left;·exact zq
  refine done_ (by kernel_rfl) ?_
  try go_wp2
  replace a1 := zA (blk_drew a1.out);replace a2 := zA (blk_drew a2.out);replace HB := zA (below_drew1 HB.out);refine start_ (n := 6) (S := fun w' => z4 w' af (.bool a7) (.slice ab a5.length ac) (.int .i64 a8) (z3 w' ag (.bool a9) (.slice ad a6.length ae) (.int .i64 aa))) (ds := []) #[false, false, false, false, false, false] (by kernel_rfl) rfl rfl (za a1 (zz a2)) (fun hHeld => ?_);generalize w47.drew = w48 at a1 a2 HB hHeld ⊢;refine take_ (i := 0) (N := some 24) (v := ?_) (a' := ?_) #[true, false, false, false, false, false] rfl rfl (by kernel_rfl) (fun _ _ _ h => h) (Or.inl ⟨by rfl, ?_⟩) hHeld ?_ ?_;rotate_left;·rintro w' ⟨s0, s1, s2, s3, s4, s5⟩;go_simp;with_reducible rfl
  rotate_left;·exact zq
  refine take_ (i := 2) (N := some 26) (v := ?_) (a' := ?_) #[true, false, true, false, false, false] rfl rfl (by kernel_rfl) (fun _ _ _ h => h) (Or.inl ⟨by rfl, ?_⟩) hHeld ?_ ?_;rotate_left;·rintro w' ⟨s0, s1, s2, s3, s4, s5⟩;go_simp;with_reducible rfl
  rotate_left;·exact zq
  refine one_ (i := 1) (N := some 25) #[true, true, true, false, false, false] rfl rfl (by kernel_rfl) (by decide) (fun K hK => ?_);refine goes_ Tryd.func39 (by kernel_rfl) rfl #[.agg #[.bool a7, .slice ab a5.length ac, .int .i64 a8]] (by rfl) rfl rfl ga ?_
  with_reducible refine (ulpref04_Top.calls k a7 _ _ a5 a8 ap _ ?a3 ?a4 aG.out).mono ?_
  (case a3 => exact zk (C_below ak.out HB.out));(case a4 => exact al.out);rintro e w49 ⟨rfl, hb⟩;refine ⟨_, rfl, ?_⟩;replace a1 := zb a1 hb;replace a2 := zb a2 hb;replace HB := zf hb;(try clear hb);(try clear hb2);(try clear hk);(try clear hi);refine hK.out _ _ (za a1 (zz a2)) (fun hHeld => ?_);clear hK K;refine norm_ (a' := ?_) ?_ ?_;rotate_left;·show Act.put _ (some 25) _ = _;exact zq
  refine one_ (i := 3) (N := some 27) #[true, true, true, true, false, false] rfl rfl (by kernel_rfl) (by decide) (fun K hK => ?_);refine goes_ Tryd.func39 (by kernel_rfl) rfl #[.agg #[.bool a9, .slice ad a6.length ae, .int .i64 aa]] (by rfl) rfl rfl ga ?_
  with_reducible refine (ulpref04_Top.calls k a9 _ _ a6 aa aq _ ?a3 ?a4 aH.out).mono ?_
  (case a3 => exact zk (C_below am.out HB.out));(case a4 => exact an.out);rintro e w50 ⟨rfl, hb⟩;refine ⟨_, rfl, ?_⟩;replace a1 := zb a1 hb;replace a2 := zb a2 hb;replace HB := zf hb;(try clear hb);(try clear hb2);(try clear hk);(try clear hi);refine hK.out _ _ (za a1 (zz a2)) (fun hHeld => ?_);clear hK K;refine norm_ (a' := ?_) ?_ ?_;rotate_left;·show Act.put _ (some 27) _ = _;exact zq
  refine pure_ (i := 4) (N := some 7) (v := ?_) (a' := ?_) #[true, true, true, true, true, false] rfl rfl (by kernel_rfl) (fun _ _ _ h => h) (Or.inl ⟨by rfl, ?_⟩) ?_ ?_;rotate_left;·intro w';go_simp;with_reducible rfl
  rotate_left;·exact zq
  refine pure_ (i := 5) (N := some 8) (v := ?_) (a' := ?_) #[true, true, true, true, true, true] rfl rfl (by kernel_rfl) (fun _ _ _ h => h) (Or.inl ⟨by rfl, ?_⟩) ?_ ?_;rotate_left;·intro w';go_simp;with_reducible rfl
  rotate_left;·exact zq
  refine done_ (by kernel_rfl) ?_
  try go_wp2
  go_ret;exact ⟨er, zs⟩
 rw [if_neg c42] at H;have aP := decide_eq_false c42;clear c42;obtain rfl := Option.some.inj H;go_enter Tryd.func13, Tryd.ntmps13
 try go_wp2_with (first | ((with_reducible refine zD 2 rfl ?_); refine zn (N := 2) (cs := #[.bool a7, .slice ab a5.length ac, .int .i64 a8]) (t := 25) rfl rfl ?_; intro af hg w51 hbox hb; have a1 := zA (hbox); have ar := zw hg; replace HB := ze hb; clear hb hbox hg) | ((with_reducible refine zD 3 rfl ?_); refine zn (N := 3) (cs := #[.bool a9, .slice ad a6.length ae, .int .i64 aa]) (t := 25) rfl rfl ?_; intro ag hg w52 hbox hb; have a2 := zA (hbox); have au := zx hg; replace HB := zf hb; have ai := zl a1 hg; have aj := zg a1 hg; replace a1 := zb a1 hb; clear hb hbox hg))
 replace a1 := zA (blk_drew a1.out);replace a2 := zA (blk_drew a2.out);replace HB := zA (below_drew1 HB.out);refine start_ (n := 6) (S := fun w' => z4 w' af (.bool a7) (.slice ab a5.length ac) (.int .i64 a8) (z3 w' ag (.bool a9) (.slice ad a6.length ae) (.int .i64 aa))) (ds := []) #[false, false, false, false, false, false] (by kernel_rfl) rfl rfl (za a1 (zz a2)) (fun hHeld => ?_);generalize w52.drew = w53 at a1 a2 HB hHeld ⊢;refine take_ (i := 0) (N := some 9) (v := ?_) (a' := ?_) #[true, false, false, false, false, false] rfl rfl (by kernel_rfl) (fun _ _ _ h => h) (Or.inl ⟨by rfl, ?_⟩) hHeld ?_ ?_;rotate_left;·rintro w' ⟨s0, s1, s2, s3, s4, s5⟩;go_simp;with_reducible rfl
 rotate_left;·exact zq
 refine take_ (i := 2) (N := some 11) (v := ?_) (a' := ?_) #[true, false, true, false, false, false] rfl rfl (by kernel_rfl) (fun _ _ _ h => h) (Or.inl ⟨by rfl, ?_⟩) hHeld ?_ ?_;rotate_left;·rintro w' ⟨s0, s1, s2, s3, s4, s5⟩;go_simp;with_reducible rfl
 rotate_left;·exact zq
 refine one_ (i := 1) (N := some 10) #[true, true, true, false, false, false] rfl rfl (by kernel_rfl) (by decide) (fun K hK => ?_);refine goes_ Tryd.func38 (by kernel_rfl) rfl #[.agg #[.bool a7, .slice ab a5.length ac, .int .i64 a8]] (by rfl) rfl rfl ga ?_
 with_reducible refine (ulpref04_Sign.calls k a7 _ _ a5 a8 ah _ ?a3 ?a4 A3.out).mono ?_
 (case a3 => exact zk (C_below ak.out HB.out));(case a4 => exact al.out);rintro e w54 ⟨rfl, hb⟩;refine ⟨_, rfl, ?_⟩;replace a1 := zb a1 hb;replace a2 := zb a2 hb;replace HB := zf hb;(try clear hb);(try clear hb2);(try clear hk);(try clear hi);refine hK.out _ _ (za a1 (zz a2)) (fun hHeld => ?_);clear hK K;refine norm_ (a' := ?_) ?_ ?_;rotate_left;·show Act.put _ (some 10) _ = _;exact zq
 refine one_ (i := 3) (N := some 12) #[true, true, true, true, false, false] rfl rfl (by kernel_rfl) (by decide) (fun K hK => ?_);refine goes_ Tryd.func38 (by kernel_rfl) rfl #[.agg #[.bool a9, .slice ad a6.length ae, .int .i64 aa]] (by rfl) rfl rfl ga ?_
 with_reducible refine (ulpref04_Sign.calls k a9 _ _ a6 aa ao _ ?a3 ?a4 A4.out).mono ?_
 (case a3 => exact zk (C_below am.out HB.out));(case a4 => exact an.out);rintro e w55 ⟨rfl, hb⟩;refine ⟨_, rfl, ?_⟩;replace a1 := zb a1 hb;replace a2 := zb a2 hb;replace HB := zf hb;(try clear hb);(try clear hb2);(try clear hk);(try clear hi);refine hK.out _ _ (za a1 (zz a2)) (fun hHeld => ?_);clear hK K;refine norm_ (a' := ?_) ?_ ?_;rotate_left;·show Act.put _ (some 12) _ = _;exact zq
 refine pure_ (i := 4) (N := some 5) (v := ?_) (a' := ?_) #[true, true, true, true, true, false] rfl rfl (by kernel_rfl) (fun _ _ _ h => h) (Or.inl ⟨by rfl, ?_⟩) ?_ ?_;rotate_left;·intro w';go_simp;with_reducible rfl
 rotate_left;·exact zq
 refine pure_ (i := 5) (N := some 6) (v := ?_) (a' := ?_) #[true, true, true, true, true, true] rfl rfl (by kernel_rfl) (fun _ _ _ h => h) (Or.inl ⟨by rfl, ?_⟩) ?_ ?_;rotate_left;·intro w';go_simp;with_reducible rfl
 rotate_left;·exact zq
 refine done_ (by kernel_rfl) ?_
 try go_wp2
 replace a1 := zA (blk_drew a1.out);replace a2 := zA (blk_drew a2.out);replace HB := zA (below_drew1 HB.out);refine start_ (n := 6) (S := fun w' => z4 w' af (.bool a7) (.slice ab a5.length ac) (.int .i64 a8) (z3 w' ag (.bool a9) (.slice ad a6.length ae) (.int .i64 aa))) (ds := []) #[false, false, false, false, false, false] (by kernel_rfl) rfl rfl (za a1 (zz a2)) (fun hHeld => ?_);generalize w55.drew = w56 at a1 a2 HB hHeld ⊢;refine take_ (i := 0) (N := some 24) (v := ?_) (a' := ?_) #[true, false, false, false, false, false] rfl rfl (by kernel_rfl) (fun _ _ _ h => h) (Or.inl ⟨by rfl, ?_⟩) hHeld ?_ ?_;rotate_left;·rintro w' ⟨s0, s1, s2, s3, s4, s5⟩;go_simp;with_reducible rfl
 rotate_left;·exact zq
 refine take_ (i := 2) (N := some 26) (v := ?_) (a' := ?_) #[true, false, true, false, false, false] rfl rfl (by kernel_rfl) (fun _ _ _ h => h) (Or.inl ⟨by rfl, ?_⟩) hHeld ?_ ?_;rotate_left;·rintro w' ⟨s0, s1, s2, s3, s4, s5⟩;go_simp;with_reducible rfl
 rotate_left;·exact zq
 refine one_ (i := 1) (N := some 25) #[true, true, true, false, false, false] rfl rfl (by kernel_rfl) (by decide) (fun K hK => ?_);refine goes_ Tryd.func39 (by kernel_rfl) rfl #[.agg #[.bool a7, .slice ab a5.length ac, .int .i64 a8]] (by rfl) rfl rfl ga ?_
 with_reducible refine (ulpref04_Top.calls k a7 _ _ a5 a8 ap _ ?a3 ?a4 aG.out).mono ?_
 (case a3 => exact zk (C_below ak.out HB.out));(case a4 => exact al.out);rintro e w57 ⟨rfl, hb⟩;refine ⟨_, rfl, ?_⟩;replace a1 := zb a1 hb;replace a2 := zb a2 hb;replace HB := zf hb;(try clear hb);(try clear hb2);(try clear hk);(try clear hi);refine hK.out _ _ (za a1 (zz a2)) (fun hHeld => ?_);clear hK K;refine norm_ (a' := ?_) ?_ ?_;rotate_left;·show Act.put _ (some 25) _ = _;exact zq
 refine one_ (i := 3) (N := some 27) #[true, true, true, true, false, false] rfl rfl (by kernel_rfl) (by decide) (fun K hK => ?_);refine goes_ Tryd.func39 (by kernel_rfl) rfl #[.agg #[.bool a9, .slice ad a6.length ae, .int .i64 aa]] (by rfl) rfl rfl ga ?_
 with_reducible refine (ulpref04_Top.calls k a9 _ _ a6 aa aq _ ?a3 ?a4 aH.out).mono ?_
 (case a3 => exact zk (C_below am.out HB.out));(case a4 => exact an.out);rintro e w58 ⟨rfl, hb⟩;refine ⟨_, rfl, ?_⟩;replace a1 := zb a1 hb;replace a2 := zb a2 hb;replace HB := zf hb;(try clear hb);(try clear hb2);(try clear hk);(try clear hi);refine hK.out _ _ (za a1 (zz a2)) (fun hHeld => ?_);clear hK K;refine norm_ (a' := ?_) ?_ ?_;rotate_left;·show Act.put _ (some 27) _ = _;exact zq
 refine pure_ (i := 4) (N := some 7) (v := ?_) (a' := ?_) #[true, true, true, true, true, false] rfl rfl (by kernel_rfl) (fun _ _ _ h => h) (Or.inl ⟨by rfl, ?_⟩) ?_ ?_;rotate_left;·intro w';go_simp;with_reducible rfl
 rotate_left;·exact zq
 refine pure_ (i := 5) (N := some 8) (v := ?_) (a' := ?_) #[true, true, true, true, true, true] rfl rfl (by kernel_rfl) (fun _ _ _ h => h) (Or.inl ⟨by rfl, ?_⟩) ?_ ?_;rotate_left;·intro w';go_simp;with_reducible rfl
 rotate_left;·exact zq
 refine done_ (by kernel_rfl) ?_
 try go_wp2
 go_ret;exact ⟨er, zs⟩
end Go.Proofs.YtnjfckadjklmfaaDoor.PAll
