/- Printed functions, merged by a program of this session. -/
import Derived.Test.YtnjfckadjklmfaaDoorXRoundPointsP0
import Derived.Test.YtnjfckadjklmfaaDoorXRoundPointsP8
import Derived.Test.YtnjfckadjklmfaaDoorXRoundPointsP9
import Derived.Test.YtnjfckadjklmfaaDoorXRoundPointsP10
import Derived.Test.YtnjfckadjklmfaaDoorXRoundPointsSh
namespace Go.Proofs.YtnjfckadjklmfaaDoor.PAll
open Go.RowKit Go.Proofs.YtnjfckadjklmfaaDoorW.PrintWords Go.Proofs.YtnjfckadjklmfaaDoorW.PrintLast Go.Proofs.YtnjfckadjklmfaaDoorW.PrintMore Go.Proofs.YtnjfckadjklmfaaDoorW.PrintWords.Kd
attribute [local go_sem] max2_int min2_int max_two min_two max_three min_three max_four min_four   -- for this text's walks alone
set_option linter.unusedVariables false
set_option linter.unusedSimpArgs false
attribute [local go_sem] fld75_0 fld75_1 fld75_2 ext118 ext119
def raw_Cmp.f (k : Nat) (a4 : Bool) (a5 : List Int) (a6 : Int) (a7 : Bool) (a8 : List Int) (a9 : Int) : Option (Int) := (raw_Sign.f k a4 a5 a6).bind fun a1 => ((raw_Sign.f k a7 a8 a9).bind fun ab => (if a1 < ab then (some (-1)) else (if a1 > ab then (some 1) else (if a1 = 0 then (some 0) else ((raw_Top.f k a4 a5 a6).bind fun ac => ((raw_Top.f k a7 a8 a9).bind fun ad => (if ac = ad then ((raw_One.f k a4 a5 a6).bind fun a2 => ((raw_One.f k a7 a8 a9).bind fun a3 => ((raw_amounts.f k a2.1 a2.2.1 a2.2.2 a3.1 a3.2.1 a3.2.2).bind fun aa => ((limbs_Cmp.f k aa.1 aa.2.1).bind fun ae => (some (wrap64 (a1 * ae))))))) else (if ac < ad then (some (wrap64 (-a1))) else (some a1)))))))))
theorem raw_Cmp.mono : ∀ a0 a1 a2 a3 a4 a5 k, LeO (raw_Cmp.f k a0 a1 a2 a3 a4 a5) (raw_Cmp.f (k + 1) a0 a1 a2 a3 a4 a5) := by
 intro a0 a1 a2 a3 a4 a5 k
 unfold raw_Cmp.f
 repeat' first
   | (with_reducible exact limbs_Cmp.mono _ _ _)
   | (with_reducible exact raw_One.mono _ _ _ _)
   | (with_reducible exact raw_Sign.mono _ _ _ _)
   | (with_reducible exact raw_Top.mono _ _ _ _)
   | (with_reducible exact raw_amounts.mono _ _ _ _ _ _ _)
   | (with_reducible exact LeO.refl _)
   | (with_reducible exact LeO.none _)
   | (with_reducible refine LeO.ite ?_ ?_)
   | (with_reducible refine LeO.bind ?_ (fun _ => ?_))
   | exact limbs_Cmp.mono _ _ _
   | exact raw_One.mono _ _ _ _
   | exact raw_Sign.mono _ _ _ _
   | exact raw_Top.mono _ _ _ _
   | exact raw_amounts.mono _ _ _ _ _ _ _
   | exact LeO.none _
   | refine LeO.ite ?_ ?_
   | refine LeO.bind ?_ (fun _ => ?_)
def raw_Cmp.T13 : Bool × List (List Nat × List Nat) := (true, [([], []), ([0], [0]), ([], []), ([2, 1], [2]), ([1, 3, 3], [1, 3]), ([4], [4]), ([5], [5]), ([5], [5]), ([5], [5]), ([6, 4, 0, 1, 2, 3, 4, 5, 6], [6]), ([7, 9, 0, 1, 2, 3, 4, 5, 6, 7, 9], [7]), ([8, 10, 0, 1, 2, 3, 4, 5, 6, 7, 8, 9, 10], [8])])
def raw_Cmp.B13 : List Nat := [0, 1, 0, 7, 15, 31, 63, 63, 63, 127, 767, 2047]
theorem raw_Cmp.tab13 : rtab .any (opsOf Tryd.f59 13) = raw_Cmp.T13 := by kernel_rfl
theorem raw_Cmp.bits13 : waitsOk raw_Cmp.T13.2 raw_Cmp.B13 = true := by kernel_rfl
set_option maxHeartbeats 8000000 in
set_option maxRecDepth 100000 in
theorem raw_Cmp.calls (k : Nat) (a7 : Bool) (ab : Option Addr) (ac : Nat) (a5 : List Int) (a8 : Int) (a9 : Bool) (ad : Option Addr) (ae : Nat) (a6 : List Int) (aa : Int) (r : Int) (w : World) (aM : Kd.C (Kd.int .u64) w ab a5.length a5) (aN : a5.length ≤ ac) (aO : Kd.C (Kd.int .u64) w ad a6.length a6) (aP : a6.length ≤ ae) (hT : Laid w) (h : raw_Cmp.f k a7 a5 a8 a9 a6 aa = some r) :
  Calls Tryd.prog 59 #[.agg #[.bool a7, .slice ab a5.length ac, .int .i64 a8], .agg #[.bool a9, .slice ad a6.length ae, .int .i64 aa]] w fun e w' => e = .returned (.int .i64 r) ∧ Below w.heap.size w w' := by
 have hu25 := Tryd.underlying25;have ai := zA aM;have aj := zA aN;clear aM aN;have ak := zA aO;have al := zA aP;clear aO aP;have HB := zA (Below.refl w.heap.size w);have H : ((raw_Sign.f k a7 a5 a8).bind fun ah => ((raw_Sign.f k a9 a6 aa).bind fun ao => (if ah < ao then (some (-1)) else (if ah > ao then (some 1) else (if ah = 0 then (some 0) else ((raw_Top.f k a7 a5 a8).bind fun au => ((raw_Top.f k a9 a6 aa).bind fun av => (if au = av then ((raw_One.f k a7 a5 a8).bind fun aB => ((raw_One.f k a9 a6 aa).bind fun aC => ((raw_amounts.f k aB.1 aB.2.1 aB.2.2 aC.1 aC.2.1 aC.2.2).bind fun aQ => ((limbs_Cmp.f k aQ.1 aQ.2.1).bind fun aD => (some (wrap64 (ah * aD))))))) else (if au < av then (some (wrap64 (-ah))) else (some ah)))))))))) = some r := h;clear h;obtain ⟨ah, A3, H⟩ := zh H;obtain ⟨ao, A4, H⟩ := zh H
 by_cases c5 : ah < ao
 ·rw [if_pos c5] at H;have b4 := decide_eq_true c5;clear c5;obtain rfl := Option.some.inj H;go_enter Tryd.func59, Tryd.ntmps59
  try go_wp2_with (first | ((with_reducible refine zD 2 rfl ?_); refine zn (N := 2) (cs := #[.bool a7, .slice ab a5.length ac, .int .i64 a8]) (t := 25) rfl rfl ?_; intro af hg w6 hbox hb; have a1 := zA (hbox); have aq := zw hg; replace HB := ze hb; clear hb hbox hg) | ((with_reducible refine zD 3 rfl ?_); refine zn (N := 3) (cs := #[.bool a9, .slice ad a6.length ae, .int .i64 aa]) (t := 25) rfl rfl ?_; intro ag hg w7 hbox hb; have a2 := zA (hbox); have ar := zx hg; replace HB := zf hb; have am := zl a1 hg; have an := zg a1 hg; replace a1 := zb a1 hb; clear hb hbox hg))
  replace a1 := zA (blk_drew a1.out);replace a2 := zA (blk_drew a2.out);replace HB := zA (below_drew1 HB.out);refine start_ (n := 6) (S := fun w' => z4 w' af (.bool a7) (.slice ab a5.length ac) (.int .i64 a8) (z3 w' ag (.bool a9) (.slice ad a6.length ae) (.int .i64 aa))) (ds := []) #[false, false, false, false, false, false] (by kernel_rfl) rfl rfl (za a1 (zz a2)) (fun hHeld => ?_);generalize w7.drew = w8 at a1 a2 HB hHeld ⊢;refine take_ (i := 0) (N := some 12) (v := ?_) (a' := ?_) #[true, false, false, false, false, false] rfl rfl (by kernel_rfl) (fun _ _ _ h => h) (Or.inl ⟨by rfl, ?_⟩) hHeld ?_ ?_;rotate_left;·rintro w' ⟨s0, s1, s2, s3, s4, s5⟩;go_simp;with_reducible rfl
  rotate_left;·exact zq
  refine take_ (i := 2) (N := some 14) (v := ?_) (a' := ?_) #[true, false, true, false, false, false] rfl rfl (by kernel_rfl) (fun _ _ _ h => h) (Or.inl ⟨by rfl, ?_⟩) hHeld ?_ ?_;rotate_left;·rintro w' ⟨s0, s1, s2, s3, s4, s5⟩;go_simp;with_reducible rfl
  rotate_left;·exact zq
  refine one_ (i := 1) (N := some 13) #[true, true, true, false, false, false] rfl rfl (by kernel_rfl) (by decide) (fun K hK => ?_);refine goes_ Tryd.func89 (by kernel_rfl) rfl #[.agg #[.bool a7, .slice ab a5.length ac, .int .i64 a8]] (by rfl) rfl rfl ga ?_
  with_reducible refine (raw_Sign.calls k a7 _ _ a5 a8 ah _ ?a3 ?a4 A3.out).mono ?_
  (case a3 => exact zk (C_below ai.out HB.out));(case a4 => exact aj.out);rintro e w9 ⟨rfl, hb⟩;refine ⟨_, rfl, ?_⟩;replace a1 := zb a1 hb;replace a2 := zb a2 hb;replace HB := zf hb;(try clear hb);(try clear hb2);(try clear hk);(try clear hi);refine hK.out _ _ (za a1 (zz a2)) (fun hHeld => ?_);clear hK K;refine norm_ (a' := ?_) ?_ ?_;rotate_left;·show Act.put _ (some 13) _ = _;exact zq
  refine one_ (i := 3) (N := some 15) #[true, true, true, true, false, false] rfl rfl (by kernel_rfl) (by decide) (fun K hK => ?_);refine goes_ Tryd.func89 (by kernel_rfl) rfl #[.agg #[.bool a9, .slice ad a6.length ae, .int .i64 aa]] (by rfl) rfl rfl ga ?_
  with_reducible refine (raw_Sign.calls k a9 _ _ a6 aa ao _ ?a3 ?a4 A4.out).mono ?_
  (case a3 => exact zk (C_below ak.out HB.out));(case a4 => exact al.out);rintro e w10 ⟨rfl, hb⟩;refine ⟨_, rfl, ?_⟩;replace a1 := zb a1 hb;replace a2 := zb a2 hb;replace HB := zf hb;(try clear hb);(try clear hb2);(try clear hk);(try clear hi);refine hK.out _ _ (za a1 (zz a2)) (fun hHeld => ?_);clear hK K;refine norm_ (a' := ?_) ?_ ?_;rotate_left;·show Act.put _ (some 15) _ = _;exact zq
  refine pure_ (i := 4) (N := some 5) (v := ?_) (a' := ?_) #[true, true, true, true, true, false] rfl rfl (by kernel_rfl) (fun _ _ _ h => h) (Or.inl ⟨by rfl, ?_⟩) ?_ ?_;rotate_left;·intro w';go_simp;with_reducible rfl
  rotate_left;·exact zq
  refine pure_ (i := 5) (N := some 6) (v := ?_) (a' := ?_) #[true, true, true, true, true, true] rfl rfl (by kernel_rfl) (fun _ _ _ h => h) (Or.inl ⟨by rfl, ?_⟩) ?_ ?_;rotate_left;·intro w';go_simp;with_reducible rfl
  rotate_left;·exact zq
  refine done_ (by kernel_rfl) ?_
  try go_wp2
  go_ret;exact ⟨er, zs⟩
 rw [if_neg c5] at H;have b4 := decide_eq_false c5;clear c5
 by_cases c11 : ah > ao
 ·rw [if_pos c11] at H;have aV := decide_eq_true c11;clear c11;obtain rfl := Option.some.inj H;go_enter Tryd.func59, Tryd.ntmps59
  try go_wp2_with (first | ((with_reducible refine zD 2 rfl ?_); refine zn (N := 2) (cs := #[.bool a7, .slice ab a5.length ac, .int .i64 a8]) (t := 25) rfl rfl ?_; intro af hg w12 hbox hb; have a1 := zA (hbox); have aq := zw hg; replace HB := ze hb; clear hb hbox hg) | ((with_reducible refine zD 3 rfl ?_); refine zn (N := 3) (cs := #[.bool a9, .slice ad a6.length ae, .int .i64 aa]) (t := 25) rfl rfl ?_; intro ag hg w13 hbox hb; have a2 := zA (hbox); have ar := zx hg; replace HB := zf hb; have am := zl a1 hg; have an := zg a1 hg; replace a1 := zb a1 hb; clear hb hbox hg))
  replace a1 := zA (blk_drew a1.out);replace a2 := zA (blk_drew a2.out);replace HB := zA (below_drew1 HB.out);refine start_ (n := 6) (S := fun w' => z4 w' af (.bool a7) (.slice ab a5.length ac) (.int .i64 a8) (z3 w' ag (.bool a9) (.slice ad a6.length ae) (.int .i64 aa))) (ds := []) #[false, false, false, false, false, false] (by kernel_rfl) rfl rfl (za a1 (zz a2)) (fun hHeld => ?_);generalize w13.drew = w14 at a1 a2 HB hHeld ⊢;refine take_ (i := 0) (N := some 12) (v := ?_) (a' := ?_) #[true, false, false, false, false, false] rfl rfl (by kernel_rfl) (fun _ _ _ h => h) (Or.inl ⟨by rfl, ?_⟩) hHeld ?_ ?_;rotate_left;·rintro w' ⟨s0, s1, s2, s3, s4, s5⟩;go_simp;with_reducible rfl
  rotate_left;·exact zq
  refine take_ (i := 2) (N := some 14) (v := ?_) (a' := ?_) #[true, false, true, false, false, false] rfl rfl (by kernel_rfl) (fun _ _ _ h => h) (Or.inl ⟨by rfl, ?_⟩) hHeld ?_ ?_;rotate_left;·rintro w' ⟨s0, s1, s2, s3, s4, s5⟩;go_simp;with_reducible rfl
  rotate_left;·exact zq
  refine one_ (i := 1) (N := some 13) #[true, true, true, false, false, false] rfl rfl (by kernel_rfl) (by decide) (fun K hK => ?_);refine goes_ Tryd.func89 (by kernel_rfl) rfl #[.agg #[.bool a7, .slice ab a5.length ac, .int .i64 a8]] (by rfl) rfl rfl ga ?_
  with_reducible refine (raw_Sign.calls k a7 _ _ a5 a8 ah _ ?a3 ?a4 A3.out).mono ?_
  (case a3 => exact zk (C_below ai.out HB.out));(case a4 => exact aj.out);rintro e w15 ⟨rfl, hb⟩;refine ⟨_, rfl, ?_⟩;replace a1 := zb a1 hb;replace a2 := zb a2 hb;replace HB := zf hb;(try clear hb);(try clear hb2);(try clear hk);(try clear hi);refine hK.out _ _ (za a1 (zz a2)) (fun hHeld => ?_);clear hK K;refine norm_ (a' := ?_) ?_ ?_;rotate_left;·show Act.put _ (some 13) _ = _;exact zq
  refine one_ (i := 3) (N := some 15) #[true, true, true, true, false, false] rfl rfl (by kernel_rfl) (by decide) (fun K hK => ?_);refine goes_ Tryd.func89 (by kernel_rfl) rfl #[.agg #[.bool a9, .slice ad a6.length ae, .int .i64 aa]] (by rfl) rfl rfl ga ?_
  with_reducible refine (raw_Sign.calls k a9 _ _ a6 aa ao _ ?a3 ?a4 A4.out).mono ?_
  (case a3 => exact zk (C_below ak.out HB.out));(case a4 => exact al.out);rintro e w16 ⟨rfl, hb⟩;refine ⟨_, rfl, ?_⟩;replace a1 := zb a1 hb;replace a2 := zb a2 hb;replace HB := zf hb;(try clear hb);(try clear hb2);(try clear hk);(try clear hi);refine hK.out _ _ (za a1 (zz a2)) (fun hHeld => ?_);clear hK K;refine norm_ (a' := ?_) ?_ ?_;rotate_left;·show Act.put _ (some 15) _ = _;exact zq
  refine pure_ (i := 4) (N := some 5) (v := ?_) (a' := ?_) #[true, true, true, true, true, false] rfl rfl (by kernel_rfl) (fun _ _ _ h => h) (Or.inl ⟨by rfl, ?_⟩) ?_ ?_;rotate_left;·intro w';go_simp;with_reducible rfl
  rotate_left;·exact zq
  refine pure_ (i := 5) (N := some 6) (v := ?_) (a' := ?_) #[true, true, true, true, true, true] rfl rfl (by kernel_rfl) (fun _ _ _ h => h) (Or.inl ⟨by rfl, ?_⟩) ?_ ?_;rotate_left;·intro w';go_simp;with_reducible rfl
  rotate_left;·exact zq
  refine done_ (by kernel_rfl) ?_
  try go_wp2
  go_ret;exact ⟨er, zs⟩
 rw [if_neg c11] at H;have aV := decide_eq_false c11;clear c11
 by_cases c17 : ah = 0
 ·rw [if_pos c17] at H;have aW := beq_iff_eq.mpr c17;have aX := bne_eq_false_iff_eq.mpr c17;clear c17;obtain rfl := Option.some.inj H;go_enter Tryd.func59, Tryd.ntmps59
  try go_wp2_with (first | ((with_reducible refine zD 2 rfl ?_); refine zn (N := 2) (cs := #[.bool a7, .slice ab a5.length ac, .int .i64 a8]) (t := 25) rfl rfl ?_; intro af hg w18 hbox hb; have a1 := zA (hbox); have aq := zw hg; replace HB := ze hb; clear hb hbox hg) | ((with_reducible refine zD 3 rfl ?_); refine zn (N := 3) (cs := #[.bool a9, .slice ad a6.length ae, .int .i64 aa]) (t := 25) rfl rfl ?_; intro ag hg w19 hbox hb; have a2 := zA (hbox); have ar := zx hg; replace HB := zf hb; have am := zl a1 hg; have an := zg a1 hg; replace a1 := zb a1 hb; clear hb hbox hg))
  replace a1 := zA (blk_drew a1.out);replace a2 := zA (blk_drew a2.out);replace HB := zA (below_drew1 HB.out);refine start_ (n := 6) (S := fun w' => z4 w' af (.bool a7) (.slice ab a5.length ac) (.int .i64 a8) (z3 w' ag (.bool a9) (.slice ad a6.length ae) (.int .i64 aa))) (ds := []) #[false, false, false, false, false, false] (by kernel_rfl) rfl rfl (za a1 (zz a2)) (fun hHeld => ?_);generalize w19.drew = w20 at a1 a2 HB hHeld ⊢;refine take_ (i := 0) (N := some 12) (v := ?_) (a' := ?_) #[true, false, false, false, false, false] rfl rfl (by kernel_rfl) (fun _ _ _ h => h) (Or.inl ⟨by rfl, ?_⟩) hHeld ?_ ?_;rotate_left;·rintro w' ⟨s0, s1, s2, s3, s4, s5⟩;go_simp;with_reducible rfl
  rotate_left;·exact zq
  refine take_ (i := 2) (N := some 14) (v := ?_) (a' := ?_) #[true, false, true, false, false, false] rfl rfl (by kernel_rfl) (fun _ _ _ h => h) (Or.inl ⟨by rfl, ?_⟩) hHeld ?_ ?_;rotate_left;·rintro w' ⟨s0, s1, s2, s3, s4, s5⟩;go_simp;with_reducible rfl
  rotate_left;·exact zq
  refine one_ (i := 1) (N := some 13) #[true, true, true, false, false, false] rfl rfl (by kernel_rfl) (by decide) (fun K hK => ?_);refine goes_ Tryd.func89 (by kernel_rfl) rfl #[.agg #[.bool a7, .slice ab a5.length ac, .int .i64 a8]] (by rfl) rfl rfl ga ?_
  with_reducible refine (raw_Sign.calls k a7 _ _ a5 a8 ah _ ?a3 ?a4 A3.out).mono ?_
  (case a3 => exact zk (C_below ai.out HB.out));(case a4 => exact aj.out);rintro e w21 ⟨rfl, hb⟩;refine ⟨_, rfl, ?_⟩;replace a1 := zb a1 hb;replace a2 := zb a2 hb;replace HB := zf hb;(try clear hb);(try clear hb2);(try clear hk);(try clear hi);refine hK.out _ _ (za a1 (zz a2)) (fun hHeld => ?_);clear hK K;refine norm_ (a' := ?_) ?_ ?_;rotate_left;·show Act.put _ (some 13) _ = _;exact zq
  refine one_ (i := 3) (N := some 15) #[true, true, true, true, false, false] rfl rfl (by kernel_rfl) (by decide) (fun K hK => ?_);refine goes_ Tryd.func89 (by kernel_rfl) rfl #[.agg #[.bool a9, .slice ad a6.length ae, .int .i64 aa]] (by rfl) rfl rfl ga ?_
  with_reducible refine (raw_Sign.calls k a9 _ _ a6 aa ao _ ?a3 ?a4 A4.out).mono ?_
  (case a3 => exact zk (C_below ak.out HB.out));(case a4 => exact al.out);rintro e w22 ⟨rfl, hb⟩;refine ⟨_, rfl, ?_⟩;replace a1 := zb a1 hb;replace a2 := zb a2 hb;replace HB := zf hb;(try clear hb);(try clear hb2);(try clear hk);(try clear hi);refine hK.out _ _ (za a1 (zz a2)) (fun hHeld => ?_);clear hK K;refine norm_ (a' := ?_) ?_ ?_;rotate_left;·show Act.put _ (some 15) _ = _;exact zq
  refine pure_ (i := 4) (N := some 5) (v := ?_) (a' := ?_) #[true, true, true, true, true, false] rfl rfl (by kernel_rfl) (fun _ _ _ h => h) (Or.inl ⟨by rfl, ?_⟩) ?_ ?_;rotate_left;·intro w';go_simp;with_reducible rfl
  rotate_left;·exact zq
  refine pure_ (i := 5) (N := some 6) (v := ?_) (a' := ?_) #[true, true, true, true, true, true] rfl rfl (by kernel_rfl) (fun _ _ _ h => h) (Or.inl ⟨by rfl, ?_⟩) ?_ ?_;rotate_left;·intro w';go_simp;with_reducible rfl
  rotate_left;·exact zq
  refine done_ (by kernel_rfl) ?_
  try go_wp2
  go_ret;exact ⟨er, zs⟩
 rw [if_neg c17] at H;have aW := beq_eq_false_iff_ne.mpr c17;have aX := bne_iff_ne.mpr c17;obtain ⟨au, aR, H⟩ := zh H;obtain ⟨av, aS, H⟩ := zh H
 by_cases c25 : au = av
 ·rw [if_pos c25] at H;have aY := beq_iff_eq.mpr c25;have az := bne_eq_false_iff_eq.mpr c25;clear c25;obtain ⟨⟨aE, aF, aG⟩, bg, H⟩ := zh H;(try dsimp only at H);obtain ⟨⟨aH, aI, aJ⟩, bh, H⟩ := zh H;(try dsimp only at H);obtain ⟨⟨aK, aL, b5⟩, bi, H⟩ := zh H;(try dsimp only at H);obtain ⟨aD, bj, H⟩ := zh H;obtain rfl := Option.some.inj H;go_enter Tryd.func59, Tryd.ntmps59
  try go_wp2_with (first | ((with_reducible refine zD 2 rfl ?_); refine zn (N := 2) (cs := #[.bool a7, .slice ab a5.length ac, .int .i64 a8]) (t := 25) rfl rfl ?_; intro af hg w30 hbox hb; have a1 := zA (hbox); have aq := zw hg; replace HB := ze hb; clear hb hbox hg) | ((with_reducible refine zD 3 rfl ?_); refine zn (N := 3) (cs := #[.bool a9, .slice ad a6.length ae, .int .i64 aa]) (t := 25) rfl rfl ?_; intro ag hg w31 hbox hb; have a2 := zA (hbox); have ar := zx hg; replace HB := zf hb; have am := zl a1 hg; have an := zg a1 hg; replace a1 := zb a1 hb; clear hb hbox hg))
  replace a1 := zA (blk_drew a1.out);replace a2 := zA (blk_drew a2.out);replace HB := zA (below_drew1 HB.out);refine start_ (n := 6) (S := fun w' => z4 w' af (.bool a7) (.slice ab a5.length ac) (.int .i64 a8) (z3 w' ag (.bool a9) (.slice ad a6.length ae) (.int .i64 aa))) (ds := []) #[false, false, false, false, false, false] (by kernel_rfl) rfl rfl (za a1 (zz a2)) (fun hHeld => ?_);generalize w31.drew = w32 at a1 a2 HB hHeld ⊢;refine take_ (i := 0) (N := some 12) (v := ?_) (a' := ?_) #[true, false, false, false, false, false] rfl rfl (by kernel_rfl) (fun _ _ _ h => h) (Or.inl ⟨by rfl, ?_⟩) hHeld ?_ ?_;rotate_left;·rintro w' ⟨s0, s1, s2, s3, s4, s5⟩;go_simp;with_reducible rfl
  rotate_left;·exact zq
  refine take_ (i := 2) (N := some 14) (v := ?_) (a' := ?_) #[true, false, true, false, false, false] rfl rfl (by kernel_rfl) (fun _ _ _ h => h) (Or.inl ⟨by rfl, ?_⟩) hHeld ?_ ?_;rotate_left;·rintro w' ⟨s0, s1, s2, s3, s4, s5⟩;go_simp;with_reducible rfl
  rotate_left;·exact zq
  refine one_ (i := 1) (N := some 13) #[true, true, true, false, false, false] rfl rfl (by kernel_rfl) (by decide) (fun K hK => ?_);refine goes_ Tryd.func89 (by kernel_rfl) rfl #[.agg #[.bool a7, .slice ab a5.length ac, .int .i64 a8]] (by rfl) rfl rfl ga ?_
  with_reducible refine (raw_Sign.calls k a7 _ _ a5 a8 ah _ ?a3 ?a4 A3.out).mono ?_
  (case a3 => exact zk (C_below ai.out HB.out));(case a4 => exact aj.out);rintro e w33 ⟨rfl, hb⟩;refine ⟨_, rfl, ?_⟩;replace a1 := zb a1 hb;replace a2 := zb a2 hb;replace HB := zf hb;(try clear hb);(try clear hb2);(try clear hk);(try clear hi);refine hK.out _ _ (za a1 (zz a2)) (fun hHeld => ?_);clear hK K;refine norm_ (a' := ?_) ?_ ?_;rotate_left;·show Act.put _ (some 13) _ = _;exact zq
  refine one_ (i := 3) (N := some 15) #[true, true, true, true, false, false] rfl rfl (by kernel_rfl) (by decide) (fun K hK => ?_);refine goes_ Tryd.func89 (by kernel_rfl) rfl #[.agg #[.bool a9, .slice ad a6.length ae, .int .i64 aa]] (by rfl) rfl rfl ga ?_
  with_reducible refine (raw_Sign.calls k a9 _ _ a6 aa ao _ ?a3 ?a4 A4.out).mono ?_
  (case a3 => exact zk (C_below ak.out HB.out));(case a4 => exact al.out);rintro e w34 ⟨rfl, hb⟩;refine ⟨_, rfl, ?_⟩;replace a1 := zb a1 hb;replace a2 := zb a2 hb;replace HB := zf hb;(try clear hb);(try clear hb2);(try clear hk);(try clear hi);refine hK.out _ _ (za a1 (zz a2)) (fun hHeld => ?_);clear hK K;refine norm_ (a' := ?_) ?_ ?_;rotate_left;·show Act.put _ (some 15) _ = _;exact zq
  refine pure_ (i := 4) (N := some 5) (v := ?_) (a' := ?_) #[true, true, true, true, true, false] rfl rfl (by kernel_rfl) (fun _ _ _ h => h) (Or.inl ⟨by rfl, ?_⟩) ?_ ?_;rotate_left;·intro w';go_simp;with_reducible rfl
  rotate_left;·exact zq
  refine pure_ (i := 5) (N := some 6) (v := ?_) (a' := ?_) #[true, true, true, true, true, true] rfl rfl (by kernel_rfl) (fun _ _ _ h => h) (Or.inl ⟨by rfl, ?_⟩) ?_ ?_;rotate_left;·intro w';go_simp;with_reducible rfl
  rotate_left;·exact zq
  refine done_ (by kernel_rfl) ?_
  try go_wp2
  replace a1 := zA (blk_drew a1.out);replace a2 := zA (blk_drew a2.out);replace HB := zA (below_drew1 HB.out);refine start_ (n := 6) (S := fun w' => z4 w' af (.bool a7) (.slice ab a5.length ac) (.int .i64 a8) (z3 w' ag (.bool a9) (.slice ad a6.length ae) (.int .i64 aa))) (ds := []) #[false, false, false, false, false, false] (by kernel_rfl) rfl rfl (za a1 (zz a2)) (fun hHeld => ?_);generalize w34.drew = w35 at a1 a2 HB hHeld ⊢;refine take_ (i := 0) (N := some 27) (v := ?_) (a' := ?_) #[true, false, false, false, false, false] rfl rfl (by kernel_rfl) (fun _ _ _ h => h) (Or.inl ⟨by rfl, ?_⟩) hHeld ?_ ?_;rotate_left;·rintro w' ⟨s0, s1, s2, s3, s4, s5⟩;go_simp;with_reducible rfl
  rotate_left;·exact zq
  refine take_ (i := 2) (N := some 29) (v := ?_) (a' := ?_) #[true, false, true, false, false, false] rfl rfl (by kernel_rfl) (fun _ _ _ h => h) (Or.inl ⟨by rfl, ?_⟩) hHeld ?_ ?_;rotate_left;·rintro w' ⟨s0, s1, s2, s3, s4, s5⟩;go_simp;with_reducible rfl
  rotate_left;·exact zq
  refine one_ (i := 1) (N := some 28) #[true, true, true, false, false, false] rfl rfl (by kernel_rfl) (by decide) (fun K hK => ?_);refine goes_ Tryd.func56 (by kernel_rfl) rfl #[.agg #[.bool a7, .slice ab a5.length ac, .int .i64 a8]] (by rfl) rfl rfl ga ?_
  with_reducible refine (raw_Top.calls k a7 _ _ a5 a8 au _ ?a3 ?a4 aR.out).mono ?_
  (case a3 => exact zk (C_below ai.out HB.out));(case a4 => exact aj.out);rintro e w36 ⟨rfl, hb⟩;refine ⟨_, rfl, ?_⟩;replace a1 := zb a1 hb;replace a2 := zb a2 hb;replace HB := zf hb;(try clear hb);(try clear hb2);(try clear hk);(try clear hi);refine hK.out _ _ (za a1 (zz a2)) (fun hHeld => ?_);clear hK K;refine norm_ (a' := ?_) ?_ ?_;rotate_left;·show Act.put _ (some 28) _ = _;exact zq
  refine one_ (i := 3) (N := some 30) #[true, true, true, true, false, false] rfl rfl (by kernel_rfl) (by decide) (fun K hK => ?_);refine goes_ Tryd.func56 (by kernel_rfl) rfl #[.agg #[.bool a9, .slice ad a6.length ae, .int .i64 aa]] (by rfl) rfl rfl ga ?_
  with_reducible refine (raw_Top.calls k a9 _ _ a6 aa av _ ?a3 ?a4 aS.out).mono ?_
  (case a3 => exact zk (C_below ak.out HB.out));(case a4 => exact al.out);rintro e w37 ⟨rfl, hb⟩;refine ⟨_, rfl, ?_⟩;replace a1 := zb a1 hb;replace a2 := zb a2 hb;replace HB := zf hb;(try clear hb);(try clear hb2);(try clear hk);(try clear hi);refine hK.out _ _ (za a1 (zz a2)) (fun hHeld => ?_);clear hK K;refine norm_ (a' := ?_) ?_ ?_;rotate_left;·show Act.put _ (some 30) _ = _;exact zq
  refine pure_ (i := 4) (N := some 7) (v := ?_) (a' := ?_) #[true, true, true, true, true, false] rfl rfl (by kernel_rfl) (fun _ _ _ h => h) (Or.inl ⟨by rfl, ?_⟩) ?_ ?_;rotate_left;·intro w';go_simp;with_reducible rfl
  rotate_left;·exact zq
  refine pure_ (i := 5) (N := some 8) (v := ?_) (a' := ?_) #[true, true, true, true, true, true] rfl rfl (by kernel_rfl) (fun _ _ _ h => h) (Or.inl ⟨by rfl, ?_⟩) ?_ ?_;rotate_left;·intro w';go_simp;with_reducible rfl
  rotate_left;·exact zq
  refine done_ (by kernel_rfl) ?_
  try go_wp2
  replace a1 := zA (blk_drew a1.out);replace a2 := zA (blk_drew a2.out);replace HB := zA (below_drew1 HB.out);refine start_ (n := 12) (S := fun w' => z4 w' af (.bool a7) (.slice ab a5.length ac) (.int .i64 a8) (z3 w' ag (.bool a9) (.slice ad a6.length ae) (.int .i64 aa))) (ds := []) #[false, false, false, false, false, false, false, false, false, false, false, false] (by kernel_rfl) rfl rfl (za a1 (zz a2)) (fun hHeld => ?_); refine with_tabW raw_Cmp.tab13 raw_Cmp.bits13 (fun HT_ HW_ => ?_);generalize w37.drew = w38 at a1 a2 HB hHeld ⊢;refine take_ (i := 0) (N := some 41) (v := ?_) (a' := ?_) #[true, false, false, false, false, false, false, false, false, false, false, false] rfl rfl (take_ofW HT_.out HW_.out (by kernel_rfl)) (fun _ _ _ h => h) (Or.inl ⟨by rfl, ?_⟩) hHeld ?_ ?_;rotate_left;·rintro w' ⟨s0, s1, s2, s3, s4, s5⟩;go_simp;with_reducible rfl
  rotate_left;·exact zq
  refine take_ (i := 2) (N := some 43) (v := ?_) (a' := ?_) #[true, false, true, false, false, false, false, false, false, false, false, false] rfl rfl (take_ofW HT_.out HW_.out (by kernel_rfl)) (fun _ _ _ h => h) (Or.inl ⟨by rfl, ?_⟩) hHeld ?_ ?_;rotate_left;·rintro w' ⟨s0, s1, s2, s3, s4, s5⟩;go_simp;with_reducible rfl
  rotate_left;·exact zq
  refine one_ (i := 1) (N := some 42) #[true, true, true, false, false, false, false, false, false, false, false, false] rfl rfl (one_of HT_.out (by kernel_rfl)) (by decide) (fun K hK => ?_);refine goes_ Tryd.func54 (by kernel_rfl) rfl #[.agg #[.bool a7, .slice ab a5.length ac, .int .i64 a8]] (by rfl) rfl rfl ga ?_
  with_reducible refine (raw_One.calls k a7 (fun k_ => k_ < w.heap.size) _ _ a5 a8 aE aF aG _ ?a3 (laid_below hT zs) bg.out).mono ?_
  (case a3 => exact V_mk aj.out (Kd.F_below (C_F (Kd.heap_int .u64) ai.out) zs));rintro e w39 ⟨v502, rfl, aA, hb⟩;refine ⟨_, rfl, ?_⟩;have ap := zA (V_lower (V_mono (ok' := fun k_ => k_ ≠ af ∧ k_ ≠ ag) aA (fun k_ hk_ => ⟨Or.elim hk_ (fun hs_ => fun e_ => Nat.not_le.2 hs_ (by rw [e_]; exact aq.out)) (fun hn_ => (zj a1 k_ hn_)), Or.elim hk_ (fun hs_ => fun e_ => Nat.not_le.2 hs_ (by rw [e_]; exact ar.out)) (fun hn_ => (zj a2 k_ hn_))⟩)) (below_size zs));replace a1 := zb a1 hb;replace a2 := zb a2 hb;replace HB := zf hb;(try clear hb);(try clear hb2);(try clear hk);(try clear hi);(try clear aA);refine hK.out _ _ (za a1 (zz a2)) (fun hHeld => ?_);clear hK K;refine norm_ (a' := ?_) ?_ ?_;rotate_left;·show Act.put _ (some 42) _ = _;exact zq
  refine one_ (i := 3) (N := some 44) #[true, true, true, true, false, false, false, false, false, false, false, false] rfl rfl (one_of HT_.out (by kernel_rfl)) (by decide) (fun K hK => ?_);refine goes_ Tryd.func54 (by kernel_rfl) rfl #[.agg #[.bool a9, .slice ad a6.length ae, .int .i64 aa]] (by rfl) rfl rfl ga ?_
  with_reducible refine (raw_One.calls k a9 (fun k_ => k_ < w.heap.size) _ _ a6 aa aH aI aJ _ ?a3 (laid_below hT zs) bh.out).mono ?_
  (case a3 => exact V_mk al.out (Kd.F_below (C_F (Kd.heap_int .u64) ak.out) zs));rintro e w40 ⟨v507, rfl, aA, hb⟩;refine ⟨_, rfl, ?_⟩;replace ap := zA (V_below (vu ap.out) hb);have aw := zA (V_lower (V_mono (ok' := fun k_ => k_ ≠ af ∧ k_ ≠ ag) aA (fun k_ hk_ => ⟨Or.elim hk_ (fun hs_ => fun e_ => Nat.not_le.2 hs_ (by rw [e_]; exact aq.out)) (fun hn_ => (zj a1 k_ hn_)), Or.elim hk_ (fun hs_ => fun e_ => Nat.not_le.2 hs_ (by rw [e_]; exact ar.out)) (fun hn_ => (zj a2 k_ hn_))⟩)) (below_size zs));replace a1 := zb a1 hb;replace a2 := zb a2 hb;replace HB := zf hb;(try clear hb);(try clear hb2);(try clear hk);(try clear hi);(try clear aA);obtain ⟨b6, b7, aT⟩ := V_slice ap.out
  (first | subst aT | (injection aT with f1_ f2_ f3_; have f4_ := f1_.symm; have f5_ := f3_.symm; clear f1_ f2_ f3_; subst f4_; subst f5_))
  obtain ⟨b8, b9, aU⟩ := V_slice aw.out
  (first | subst aU | (injection aU with f1_ f2_ f3_; have f4_ := f1_.symm; have f5_ := f3_.symm; clear f1_ f2_ f3_; subst f4_; subst f5_))
  refine hK.out _ _ (za a1 (zz a2)) (fun hHeld => ?_);clear hK K;refine norm_ (a' := ?_) ?_ ?_;rotate_left;·show Act.put _ (some 44) _ = _;exact zq
  refine one_ (i := 4) (N := some 45) #[true, true, true, true, true, false, false, false, false, false, false, false] rfl rfl (one_of HT_.out (by kernel_rfl)) (by decide) (fun K hK => ?_);refine goes_ Tryd.func90 (by kernel_rfl) rfl #[.agg #[.bool aE, .slice b6 aF.length b7, .int .i64 aG], .agg #[.bool aH, .slice b8 aI.length b9, .int .i64 aJ]] (by rfl) rfl rfl ga ?_
  with_reducible refine (raw_amounts.calls k aE (fun k_ => (k_ ≠ af ∧ k_ ≠ ag)) _ _ aF aG aH (fun k_ => (k_ ≠ af ∧ k_ ≠ ag)) _ _ aI aJ aK aL b5 _ ?a3 ?a4 bi.out).mono ?_
  (case a3 => exact ap.out);(case a4 => exact aw.out);rintro e w43 ⟨v511, v514, rfl, aA, b3, hb⟩;refine ⟨_, rfl, ?_⟩;replace ap := zA (V_below (vu ap.out) hb);replace aw := zA (V_below (vu aw.out) hb);have ax := zA (V_lower (V_mono (ok' := fun k_ => k_ ≠ af ∧ k_ ≠ ag) aA (fun k_ hk_ => ⟨Or.elim hk_ (fun hs_ => Or.elim hs_ (fun hs_ => hs_.1) (fun hs_ => hs_.1)) (fun hn_ => (zj a1 k_ hn_)), Or.elim hk_ (fun hs_ => Or.elim hs_ (fun hs_ => hs_.2) (fun hs_ => hs_.2)) (fun hn_ => (zj a2 k_ hn_))⟩)) (below_size zs));have ay := zA (V_lower (V_mono (ok' := fun k_ => k_ ≠ af ∧ k_ ≠ ag) b3 (fun k_ hk_ => ⟨Or.elim hk_ (fun hs_ => Or.elim hs_ (fun hs_ => hs_.1) (fun hs_ => hs_.1)) (fun hn_ => (zj a1 k_ hn_)), Or.elim hk_ (fun hs_ => Or.elim hs_ (fun hs_ => hs_.2) (fun hs_ => hs_.2)) (fun hn_ => (zj a2 k_ hn_))⟩)) (below_size zs));replace a1 := zb a1 hb;replace a2 := zb a2 hb;replace HB := zf hb;(try clear hb);(try clear hb2);(try clear hk);(try clear hi);(try clear aA);(try clear b3);refine hK.out _ _ (za a1 (zz a2)) (fun hHeld => ?_);clear hK K;refine norm_ (a' := ?_) ?_ ?_;rotate_left;·show Act.put _ (some 45) _ = _;exact zq
  refine pure_ (i := 5) (N := some 40) (v := ?_) (a' := ?_) #[true, true, true, true, true, true, false, false, false, false, false, false] rfl rfl (any_of HT_.out (by kernel_rfl)) (fun _ _ _ h => h) (Or.inl ⟨by rfl, ?_⟩) ?_ ?_;rotate_left;·intro w';go_simp;with_reducible rfl
  rotate_left;·exact zq
  refine pure_ (i := 6) (N := some 46) (v := ?_) (a' := ?_) #[true, true, true, true, true, true, true, false, false, false, false, false] rfl rfl (any_of HT_.out (by kernel_rfl)) (fun _ _ _ h => h) (Or.inl ⟨by rfl, ?_⟩) ?_ ?_;rotate_left;·intro w';go_simp;with_reducible rfl
  rotate_left;·exact zq
  refine pure_ (i := 7) (N := some 47) (v := ?_) (a' := ?_) #[true, true, true, true, true, true, true, true, false, false, false, false] rfl rfl (any_of HT_.out (by kernel_rfl)) (fun _ _ _ h => h) (Or.inl ⟨by rfl, ?_⟩) ?_ ?_;rotate_left;·intro w';go_simp;with_reducible rfl
  rotate_left;·exact zq
  refine pure_ (i := 8) (N := some 48) (v := ?_) (a' := ?_) #[true, true, true, true, true, true, true, true, true, false, false, false] rfl rfl (any_of HT_.out (by kernel_rfl)) (fun _ _ _ h => h) (Or.inl ⟨by rfl, ?_⟩) ?_ ?_;rotate_left;·intro w';go_simp;with_reducible rfl
  rotate_left;·exact zq
  refine pure_ (i := 9) (N := some 9) (v := ?_) (a' := ?_) #[true, true, true, true, true, true, true, true, true, true, false, false] rfl rfl (any_of HT_.out (by kernel_rfl)) (fun _ _ _ h => h) (Or.inl ⟨by rfl, ?_⟩) ?_ ?_;rotate_left;·intro w';go_simp;with_reducible rfl
  rotate_left;·exact zq
  refine pure_ (i := 10) (N := some 10) (v := ?_) (a' := ?_) #[true, true, true, true, true, true, true, true, true, true, true, false] rfl rfl (any_of HT_.out (by kernel_rfl)) (fun _ _ _ h => h) (Or.inl ⟨by rfl, ?_⟩) ?_ ?_;rotate_left;·intro w';go_simp;with_reducible rfl
  rotate_left;·exact zq
  refine pure_ (i := 11) (N := some 11) (v := ?_) (a' := ?_) #[true, true, true, true, true, true, true, true, true, true, true, true] rfl rfl (any_of HT_.out (by kernel_rfl)) (fun _ _ _ h => h) (Or.inl ⟨by rfl, ?_⟩) ?_ ?_;rotate_left;·intro w';go_simp;with_reducible rfl
  rotate_left;·exact zq
  refine done_ (done_of HT_.out (by kernel_rfl)) ?_;obtain ⟨ba, bb, bc⟩ := V_slice ax.out;subst bc;obtain ⟨bd, be, bf⟩ := V_slice ay.out;subst bf
  try go_wp2_with (first | ((with_reducible refine zG 91 rfl ?_); refine zL (some 52) rfl rfl Tryd.func91 #[.slice ba aK.length bb, .slice bd aL.length be] rfl ?_; (with_reducible refine (limbs_Cmp.calls k _ _ aK _ _ aL aD _ ?a3 ?a4 ?aZ ?b1 bj.out).mono ?_); (case a3 => exact zk (V_reads' ax.out).2.2); (case a4 => exact (V_reads' ax.out).2.1); (case aZ => exact zk (V_reads' ay.out).2.2); (case b1 => exact (V_reads' ay.out).2.1); rintro e w46 ⟨rfl, hb⟩; refine ⟨_, rfl, ?_⟩; replace ap := zA (V_below (vu ap.out) hb); replace aw := zA (V_below (vu aw.out) hb); replace ax := zA (V_below (vu ax.out) hb); replace ay := zA (V_below (vu ay.out) hb); replace a1 := zb a1 hb; replace a2 := zb a2 hb; replace HB := zf hb))
  go_ret;exact ⟨er, zs⟩
 rw [if_neg c25] at H;have aY := beq_eq_false_iff_ne.mpr c25;have az := bne_iff_ne.mpr c25
 by_cases c47 : au < av
 ·rw [if_pos c47] at H;have b2 := decide_eq_true c47;clear c47;obtain rfl := Option.some.inj H;go_enter Tryd.func59, Tryd.ntmps59
  try go_wp2_with (first | ((with_reducible refine zD 2 rfl ?_); refine zn (N := 2) (cs := #[.bool a7, .slice ab a5.length ac, .int .i64 a8]) (t := 25) rfl rfl ?_; intro af hg w48 hbox hb; have a1 := zA (hbox); have aq := zw hg; replace HB := ze hb; clear hb hbox hg) | ((with_reducible refine zD 3 rfl ?_); refine zn (N := 3) (cs := #[.bool a9, .slice ad a6.length ae, .int .i64 aa]) (t := 25) rfl rfl ?_; intro ag hg w49 hbox hb; have a2 := zA (hbox); have ar := zx hg; replace HB := zf hb; have am := zl a1 hg; have an := zg a1 hg; replace a1 := zb a1 hb; clear hb hbox hg))
  replace a1 := zA (blk_drew a1.out);replace a2 := zA (blk_drew a2.out);replace HB := zA (below_drew1 HB.out);refine start_ (n := 6) (S := fun w' => z4 w' af (.bool a7) (.slice ab a5.length ac) (.int .i64 a8) (z3 w' ag (.bool a9) (.slice ad a6.length ae) (.int .i64 aa))) (ds := []) #[false, false, false, false, false, false] (by kernel_rfl) rfl rfl (za a1 (zz a2)) (fun hHeld => ?_);generalize w49.drew = w50 at a1 a2 HB hHeld ⊢;refine take_ (i := 0) (N := some 12) (v := ?_) (a' := ?_) #[true, false, false, false, false, false] rfl rfl (by kernel_rfl) (fun _ _ _ h => h) (Or.inl ⟨by rfl, ?_⟩) hHeld ?_ ?_;rotate_left;·rintro w' ⟨s0, s1, s2, s3, s4, s5⟩;go_simp;with_reducible rfl
  rotate_left;·exact zq
  refine take_ (i := 2) (N := some 14) (v := ?_) (a' := ?_) #[true, false, true, false, false, false] rfl rfl (by kernel_rfl) (fun _ _ _ h => h) (Or.inl ⟨by rfl, ?_⟩) hHeld ?_ ?_;rotate_left;·rintro w' ⟨s0, s1, s2, s3, s4, s5⟩;go_simp;with_reducible rfl
  rotate_left;·exact zq
  refine one_ (i := 1) (N := some 13) #[true, true, true, false, false, false] rfl rfl (by kernel_rfl) (by decide) (fun K hK => ?_);refine goes_ Tryd.func89 (by kernel_rfl) rfl #[.agg #[.bool a7, .slice ab a5.length ac, .int .i64 a8]] (by rfl) rfl rfl ga ?_
  with_reducible refine (raw_Sign.calls k a7 _ _ a5 a8 ah _ ?a3 ?a4 A3.out).mono ?_
  (case a3 => exact zk (C_below ai.out HB.out));(case a4 => exact aj.out);rintro e w51 ⟨rfl, hb⟩;refine ⟨_, rfl, ?_⟩;replace a1 := zb a1 hb;replace a2 := zb a2 hb;replace HB := zf hb;(try clear hb);(try clear hb2);(try clear hk);(try clear hi);refine hK.out _ _ (za a1 (zz a2)) (fun hHeld => ?_);clear hK K;refine norm_ (a' := ?_) ?_ ?_;rotate_left;·show Act.put _ (some 13) _ = _;exact zq
  refine one_ (i := 3) (N := some 15) #[true, true, true, true, false, false] rfl rfl (by kernel_rfl) (by decide) (fun K hK => ?_);refine goes_ Tryd.func89 (by kernel_rfl) rfl #[.agg #[.bool a9, .slice ad a6.length ae, .int .i64 aa]] (by rfl) rfl rfl ga ?_
  with_reducible refine (raw_Sign.calls k a9 _ _ a6 aa ao _ ?a3 ?a4 A4.out).mono ?_
  (case a3 => exact zk (C_below ak.out HB.out));(case a4 => exact al.out);rintro e w52 ⟨rfl, hb⟩;refine ⟨_, rfl, ?_⟩;replace a1 := zb a1 hb;replace a2 := zb a2 hb;replace HB := zf hb;(try clear hb);(try clear hb2);(try clear hk);(try clear hi);refine hK.out _ _ (za a1 (zz a2)) (fun hHeld => ?_);clear hK K;refine norm_ (a' := ?_) ?_ ?_;rotate_left;·show Act.put _ (some 15) _ = _;exact zq
  refine pure_ (i := 4) (N := some 5) (v := ?_) (a' := ?_) #[true, true, true, true, true, false] rfl rfl (by kernel_rfl) (fun _ _ _ h => h) (Or.inl ⟨by rfl, ?_⟩) ?_ ?_;rotate_left;·intro w';go_simp;with_reducible rfl
  rotate_left;·exact zq
  refine pure_ (i := 5) (N := some 6) (v := ?_) (a' := ?_) #[true, true, true, true, true, true] rfl rfl (by kernel_rfl) (fun _ _ _ h => h) (Or.inl ⟨by rfl, ?_⟩) ?_ ?_;rotate_left;·intro w';go_simp;with_reducible rfl
  rotate_left;·exact zq
  refine done_ (by kernel_rfl) ?_
  try go_wp2
  replace a1 := zA (blk_drew a1.out);replace a2 := zA (blk_drew a2.out);replace HB := zA (below_drew1 HB.out);refine start_ (n := 6) (S := fun w' => z4 w' af (.bool a7) (.slice ab a5.length ac) (.int .i64 a8) (z3 w' ag (.bool a9) (.slice ad a6.length ae) (.int .i64 aa))) (ds := []) #[false, false, false, false, false, false] (by kernel_rfl) rfl rfl (za a1 (zz a2)) (fun hHeld => ?_);generalize w52.drew = w53 at a1 a2 HB hHeld ⊢;refine take_ (i := 0) (N := some 27) (v := ?_) (a' := ?_) #[true, false, false, false, false, false] rfl rfl (by kernel_rfl) (fun _ _ _ h => h) (Or.inl ⟨by rfl, ?_⟩) hHeld ?_ ?_;rotate_left;·rintro w' ⟨s0, s1, s2, s3, s4, s5⟩;go_simp;with_reducible rfl
  rotate_left;·exact zq
  refine take_ (i := 2) (N := some 29) (v := ?_) (a' := ?_) #[true, false, true, false, false, false] rfl rfl (by kernel_rfl) (fun _ _ _ h => h) (Or.inl ⟨by rfl, ?_⟩) hHeld ?_ ?_;rotate_left;·rintro w' ⟨s0, s1, s2, s3, s4, s5⟩;go_simp;with_reducible rfl
  rotate_left;·exact zq
  refine one_ (i := 1) (N := some 28) #[true, true, true, false, false, false] rfl rfl (by kernel_rfl) (by decide) (fun K hK => ?_);refine goes_ Tryd.func56 (by kernel_rfl) rfl #[.agg #[.bool a7, .slice ab a5.length ac, .int .i64 a8]] (by rfl) rfl rfl ga ?_
  with_reducible refine (raw_Top.calls k a7 _ _ a5 a8 au _ ?a3 ?a4 aR.out).mono ?_
  (case a3 => exact zk (C_below ai.out HB.out));(case a4 => exact aj.out);rintro e w54 ⟨rfl, hb⟩;refine ⟨_, rfl, ?_⟩;replace a1 := zb a1 hb;replace a2 := zb a2 hb;replace HB := zf hb;(try clear hb);(try clear hb2);(try clear hk);(try clear hi);refine hK.out _ _ (za a1 (zz a2)) (fun hHeld => ?_);clear hK K;refine norm_ (a' := ?_) ?_ ?_;rotate_left;·show Act.put _ (some 28) _ = _;exact zq
  refine one_ (i := 3) (N := some 30) #[true, true, true, true, false, false] rfl rfl (by kernel_rfl) (by decide) (fun K hK => ?_);refine goes_ Tryd.func56 (by kernel_rfl) rfl #[.agg #[.bool a9, .slice ad a6.length ae, .int .i64 aa]] (by rfl) rfl rfl ga ?_
  with_reducible refine (raw_Top.calls k a9 _ _ a6 aa av _ ?a3 ?a4 aS.out).mono ?_
  (case a3 => exact zk (C_below ak.out HB.out));(case a4 => exact al.out);rintro e w55 ⟨rfl, hb⟩;refine ⟨_, rfl, ?_⟩;replace a1 := zb a1 hb;replace a2 := zb a2 hb;replace HB := zf hb;(try clear hb);(try clear hb2);(try clear hk);(try clear hi);refine hK.out _ _ (za a1 (zz a2)) (fun hHeld => ?_);clear hK K;refine norm_ (a' := ?_) ?_ ?_;rotate_left;·show Act.put _ (some 30) _ = _;exact zq
  refine pure_ (i := 4) (N := some 7) (v := ?_) (a' := ?_) #[true, true, true, true, true, false] rfl rfl (by kernel_rfl) (fun _ _ _ h => h) (Or.inl ⟨by rfl, ?_⟩) ?_ ?_;rotate_left;·intro w';go_simp;with_reducible rfl
  rotate_left;·exact zq
  refine pure_ (i := 5) (N := some 8) (v := ?_) (a' := ?_) #[true, true, true, true, true, true] rfl rfl (by kernel_rfl) (fun _ _ _ h => h) (Or.inl ⟨by rfl, ?_⟩) ?_ ?_;rotate_left;·intro w';go_simp;with_reducible rfl
  rotate_left;·exact zq
  refine done_ (by kernel_rfl) ?_
  try go_wp2
  go_ret;exact ⟨er, zs⟩
 rw [if_neg c47] at H;have b2 := decide_eq_false c47;clear c47;obtain rfl := Option.some.inj H;go_enter Tryd.func59, Tryd.ntmps59
 try go_wp2_with (first | ((with_reducible refine zD 2 rfl ?_); refine zn (N := 2) (cs := #[.bool a7, .slice ab a5.length ac, .int .i64 a8]) (t := 25) rfl rfl ?_; intro af hg w56 hbox hb; have a1 := zA (hbox); have aq := zw hg; replace HB := ze hb; clear hb hbox hg) | ((with_reducible refine zD 3 rfl ?_); refine zn (N := 3) (cs := #[.bool a9, .slice ad a6.length ae, .int .i64 aa]) (t := 25) rfl rfl ?_; intro ag hg w57 hbox hb; have a2 := zA (hbox); have ar := zx hg; replace HB := zf hb; have am := zl a1 hg; have an := zg a1 hg; replace a1 := zb a1 hb; clear hb hbox hg))
 replace a1 := zA (blk_drew a1.out);replace a2 := zA (blk_drew a2.out);replace HB := zA (below_drew1 HB.out);refine start_ (n := 6) (S := fun w' => z4 w' af (.bool a7) (.slice ab a5.length ac) (.int .i64 a8) (z3 w' ag (.bool a9) (.slice ad a6.length ae) (.int .i64 aa))) (ds := []) #[false, false, false, false, false, false] (by kernel_rfl) rfl rfl (za a1 (zz a2)) (fun hHeld => ?_);generalize w57.drew = w58 at a1 a2 HB hHeld ⊢;refine take_ (i := 0) (N := some 12) (v := ?_) (a' := ?_) #[true, false, false, false, false, false] rfl rfl (by kernel_rfl) (fun _ _ _ h => h) (Or.inl ⟨by rfl, ?_⟩) hHeld ?_ ?_;rotate_left;·rintro w' ⟨s0, s1, s2, s3, s4, s5⟩;go_simp;with_reducible rfl
 rotate_left;·exact zq
 refine take_ (i := 2) (N := some 14) (v := ?_) (a' := ?_) #[true, false, true, false, false, false] rfl rfl (by kernel_rfl) (fun _ _ _ h => h) (Or.inl ⟨by rfl, ?_⟩) hHeld ?_ ?_;rotate_left;·rintro w' ⟨s0, s1, s2, s3, s4, s5⟩;go_simp;with_reducible rfl
 rotate_left;·exact zq
 refine one_ (i := 1) (N := some 13) #[true, true, true, false, false, false] rfl rfl (by kernel_rfl) (by decide) (fun K hK => ?_);refine goes_ Tryd.func89 (by kernel_rfl) rfl #[.agg #[.bool a7, .slice ab a5.length ac, .int .i64 a8]] (by rfl) rfl rfl ga ?_
 with_reducible refine (raw_Sign.calls k a7 _ _ a5 a8 ah _ ?a3 ?a4 A3.out).mono ?_
 (case a3 => exact zk (C_below ai.out HB.out));(case a4 => exact aj.out);rintro e w59 ⟨rfl, hb⟩;refine ⟨_, rfl, ?_⟩;replace a1 := zb a1 hb;replace a2 := zb a2 hb;replace HB := zf hb;(try clear hb);(try clear hb2);(try clear hk);(try clear hi);refine hK.out _ _ (za a1 (zz a2)) (fun hHeld => ?_);clear hK K;refine norm_ (a' := ?_) ?_ ?_;rotate_left;·show Act.put _ (some 13) _ = _;exact zq
 refine one_ (i := 3) (N := some 15) #[true, true, true, true, false, false] rfl rfl (by kernel_rfl) (by decide) (fun K hK => ?_);refine goes_ Tryd.func89 (by kernel_rfl) rfl #[.agg #[.bool a9, .slice ad a6.length ae, .int .i64 aa]] (by rfl) rfl rfl ga ?_
 with_reducible refine (raw_Sign.calls k a9 _ _ a6 aa ao _ ?a3 ?a4 A4.out).mono ?_
 (case a3 => exact zk (C_below ak.out HB.out));(case a4 => exact al.out);rintro e w60 ⟨rfl, hb⟩;refine ⟨_, rfl, ?_⟩;replace a1 := zb a1 hb;replace a2 := zb a2 hb;replace HB := zf hb;(try clear hb);(try clear hb2);(try clear hk);(try clear hi);refine hK.out _ _ (za a1 (zz a2)) (fun hHeld => ?_);clear hK K;refine norm_ (a' := ?_) ?_ ?_;rotate_left;·show Act.put _ (some 15) _ = _;exact zq
 refine pure_ (i := 4) (N := some 5) (v := ?_) (a' := ?_) #[true, true, true, true, true, false] rfl rfl (by kernel_rfl) (fun _ _ _ h => h) (Or.inl ⟨by rfl, ?_⟩) ?_ ?_;rotate_left;·intro w';go_simp;with_reducible rfl
 rotate_left;·exact zq
 refine pure_ (i := 5) (N := some 6) (v := ?_) (a' := ?_) #[true, true, true, true, true, true] rfl rfl (by kernel_rfl) (fun _ _ _ h => h) (Or.inl ⟨by rfl, ?_⟩) ?_ ?_;rotate_left;·intro w';go_simp;with_reducible rfl
 rotate_left;·exact zq
 refine done_ (by kernel_rfl) ?_
 try go_wp2
 replace a1 := zA (blk_drew a1.out);replace a2 := zA (blk_drew a2.out);replace HB := zA (below_drew1 HB.out);refine start_ (n := 6) (S := fun w' => z4 w' af (.bool a7) (.slice ab a5.length ac) (.int .i64 a8) (z3 w' ag (.bool a9) (.slice ad a6.length ae) (.int .i64 aa))) (ds := []) #[false, false, false, false, false, false] (by kernel_rfl) rfl rfl (za a1 (zz a2)) (fun hHeld => ?_);generalize w60.drew = w61 at a1 a2 HB hHeld ⊢;refine take_ (i := 0) (N := some 27) (v := ?_) (a' := ?_) #[true, false, false, false, false, false] rfl rfl (by kernel_rfl) (fun _ _ _ h => h) (Or.inl ⟨by rfl, ?_⟩) hHeld ?_ ?_;rotate_left;·rintro w' ⟨s0, s1, s2, s3, s4, s5⟩;go_simp;with_reducible rfl
 rotate_left;·exact zq
 refine take_ (i := 2) (N := some 29) (v := ?_) (a' := ?_) #[true, false, true, false, false, false] rfl rfl (by kernel_rfl) (fun _ _ _ h => h) (Or.inl ⟨by rfl, ?_⟩) hHeld ?_ ?_;rotate_left;·rintro w' ⟨s0, s1, s2, s3, s4, s5⟩;go_simp;with_reducible rfl
 rotate_left;·exact zq
 refine one_ (i := 1) (N := some 28) #[true, true, true, false, false, false] rfl rfl (by kernel_rfl) (by decide) (fun K hK => ?_);refine goes_ Tryd.func56 (by kernel_rfl) rfl #[.agg #[.bool a7, .slice ab a5.length ac, .int .i64 a8]] (by rfl) rfl rfl ga ?_
 with_reducible refine (raw_Top.calls k a7 _ _ a5 a8 au _ ?a3 ?a4 aR.out).mono ?_
 (case a3 => exact zk (C_below ai.out HB.out));(case a4 => exact aj.out);rintro e w62 ⟨rfl, hb⟩;refine ⟨_, rfl, ?_⟩;replace a1 := zb a1 hb;replace a2 := zb a2 hb;replace HB := zf hb;(try clear hb);(try clear hb2);(try clear hk);(try clear hi);refine hK.out _ _ (za a1 (zz a2)) (fun hHeld => ?_);clear hK K;refine norm_ (a' := ?_) ?_ ?_;rotate_left;·show Act.put _ (some 28) _ = _;exact zq
 refine one_ (i := 3) (N := some 30) #[true, true, true, true, false, false] rfl rfl (by kernel_rfl) (by decide) (fun K hK => ?_);refine goes_ Tryd.func56 (by kernel_rfl) rfl #[.agg #[.bool a9, .slice ad a6.length ae, .int .i64 aa]] (by rfl) rfl rfl ga ?_
 with_reducible refine (raw_Top.calls k a9 _ _ a6 aa av _ ?a3 ?a4 aS.out).mono ?_
 (case a3 => exact zk (C_below ak.out HB.out));(case a4 => exact al.out);rintro e w63 ⟨rfl, hb⟩;refine ⟨_, rfl, ?_⟩;replace a1 := zb a1 hb;replace a2 := zb a2 hb;replace HB := zf hb;(try clear hb);(try clear hb2);(try clear hk);(try clear hi);refine hK.out _ _ (za a1 (zz a2)) (fun hHeld => ?_);clear hK K;refine norm_ (a' := ?_) ?_ ?_;rotate_left;·show Act.put _ (some 30) _ = _;exact zq
 refine pure_ (i := 4) (N := some 7) (v := ?_) (a' := ?_) #[true, true, true, true, true, false] rfl rfl (by kernel_rfl) (fun _ _ _ h => h) (Or.inl ⟨by rfl, ?_⟩) ?_ ?_;rotate_left;·intro w';go_simp;with_reducible rfl
 rotate_left;·exact zq
 refine pure_ (i := 5) (N := some 8) (v := ?_) (a' := ?_) #[true, true, true, true, true, true] rfl rfl (by kernel_rfl) (fun _ _ _ h => h) (Or.inl ⟨by rfl, ?_⟩) ?_ ?_;rotate_left;·intro w';go_simp;with_reducible rfl
 rotate_left;·exact zq
 refine done_ (by kernel_rfl) ?_
 try go_wp2
 go_ret;exact ⟨er, zs⟩
end Go.Proofs.YtnjfckadjklmfaaDoor.PAll
