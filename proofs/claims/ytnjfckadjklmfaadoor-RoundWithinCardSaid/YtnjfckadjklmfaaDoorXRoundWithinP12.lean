/- Printed functions. -/
import Derived.Test.YtnjfckadjklmfaaDoorXRoundWithinP11
namespace Go.Proofs.YtnjfckadjklmfaaDoor.PAll
open RowKit YtnjfckadjklmfaaDoorW.PrintWords YtnjfckadjklmfaaDoorW.PrintLast YtnjfckadjklmfaaDoorW.PrintMore YtnjfckadjklmfaaDoorW.PrintWords.Kd
attribute [local go_sem] Z0V Z0W Z1d Z1e Z0E Z0F Z0X Z0Y
set_option linter.unusedVariables false
set_option maxHeartbeats 8000000
set_option maxRecDepth 100000
set_option linter.unusedSimpArgs false
attribute [local go_sem] fld75_0 fld75_1 fld75_2 ext118 ext119
def Z1Z.f (k : Nat) (a2 : Bool) (a3 : List Int) (a4 : Int) : Option (Bool × List Int × Int) := (Z0v.f k (!a2) a3 a4).bind fun a1 => (some (a1.1, a1.2.1, a1.2.2))
theorem Z1Z.calls (k : Nat) (a4 : Bool) (a8 : Option Addr) (a9 : Nat) (a2 : List Int) (a5 : Int) (r1 : Bool) (r2 : List Int) (r3 : Int) (w : World) (aa : Kd.C Zu w a8 a2.length a2) (ab : a2.length ≤ a9) (h : Z1Z.f k a4 a2 a5 = some (r1, r2, r3)) :
  Calls Tryd.prog 79 #[.agg #[.bool a4, .slice a8 a2.length a9, .int .i64 a5]] w fun e w' => ∃ v1_ : Value, e = .returned (.agg #[.bool r1, v1_, .int .i64 r3]) ∧ Kd.R Zu 26 w' w.heap.size (fun _ => True) v1_ r2 ∧ Below w.heap.size w w' := by
 have hu25 := Tryd.underlying25;have ah := zA aa;have ai := zA ab;clear aa ab;have HB := zA (Below.refl w.heap.size w);have H := h
 unfold Z1Z.f at H
 clear h;obtain ⟨⟨ae, af, ag⟩, A2, H⟩ := zh H;(try dsimp only at H);simp only [zk3, zk7] at H;obtain ⟨rfl, rfl, rfl⟩ := H;go_enter Tryd.func79, Tryd.ntmps79
 go_wp2_with (first | ((with_reducible refine zD 1 rfl ?_); refine zn (N := 1) (cs := #[.bool a4, .slice a8 a2.length a9, .int .i64 a5]) (t := 25) rfl rfl ?_; intro av hg w3 hbox hb; have a1 := zA (hbox); have aw := zw hg; replace HB := ze hb; clear hb hbox hg) | ((with_reducible refine zD 2 rfl ?_); refine zn (N := 2) (cs := #[.bool false, .slice none 0 0, .int .i64 0]) (t := 25) rfl rfl ?_; intro ac hg w4 hbox hb; have a3 := zA (hbox); have ax := zx hg; replace HB := zf hb; have a6 := zl a1 hg; have a7 := zg a1 hg; replace a1 := zb a1 hb; clear hb hbox hg; have ay := a6.out; have aA := a7.out; obtain ⟨_, _, _, _, _, _⟩ := zc a1) | ((with_reducible refine zG 112 rfl ?_); refine zC (some 10) Tryd.func112 (Z0v.calls k (!a4) _ _ a2 a5 ae af ag _ (zk (Za ah.out HB.out)) (ai.out) A2.out) ?_; rintro e w7 ⟨v699, rfl, aj, hb⟩; refine ⟨_, rfl, ?_⟩; have ad := zA (ZH aj (Z7 zs)); replace a1 := zb a1 hb; replace a3 := zb a3 hb; replace HB := zf hb; obtain ⟨ak, al, am, an, ao, ap⟩ := zc a3; obtain ⟨aq, ar, au⟩ := ZO ad.out; subst au))
 refine bodyPost_ret (results_cell_row rfl _ _ ac 25 #[.bool ae, .slice aq af.length ar, .int .i64 ag] (0, 0) _ rfl (zy a3) Tryd.underlying25 rfl (by kernel_rfl)) rfl ?_;exact ⟨_, er, ru (ZC (zr ac (ZR ad.out a3.out (by decide)) (fun _ hk => hk.2) _ _ _) (fun _ hk => trivial)), zs⟩
def Z1O.f (k : Nat) (a3 : Bool) (a4 : List Int) (a5 : Int) (a6 : Bool) (a7 : List Int) (a8 : Int) : Option (Bool × List Int × Int) := (Z1Z.f k a6 a7 a8).bind fun a1 => ((Zn.f k a3 a4 a5 a1.1 a1.2.1 a1.2.2).bind fun a2 => (some (a2.1, a2.2.1, a2.2.2)))
theorem Z1O.calls (k : Nat) (ac : Bool) (ag : Option Addr) (ah : Nat) (a7 : List Int) (ad : Int) (ae : Bool) (ai : Option Addr) (aj : Nat) (a8 : List Int) (af : Int) (r1 : Bool) (r2 : List Int) (r3 : Int) (w : World) (ap : Kd.C Zu w ag a7.length a7) (aq : a7.length ≤ ah) (ar : Kd.C Zu w ai a8.length a8) (au : a8.length ≤ aj) (h : Z1O.f k ac a7 ad ae a8 af = some (r1, r2, r3)) :
  Calls Tryd.prog 40 #[.agg #[.bool ac, .slice ag a7.length ah, .int .i64 ad], .agg #[.bool ae, .slice ai a8.length aj, .int .i64 af]] w fun e w' => ∃ v1_ : Value, e = .returned (.agg #[.bool r1, v1_, .int .i64 r3]) ∧ Kd.R Zu 26 w' w.heap.size (fun _ => True) v1_ r2 ∧ Below w.heap.size w w' := by
 have hu25 := Tryd.underlying25;have aD := zA ap;have aE := zA aq;clear ap aq;have aF := zA ar;have aG := zA au;clear ar au;have HB := zA (Below.refl w.heap.size w);have H := h
 unfold Z1O.f at H
 clear h;obtain ⟨⟨am, an, ao⟩, A3, H⟩ := zh H;(try dsimp only at H);obtain ⟨⟨ax, ay, aA⟩, A4, H⟩ := zh H;(try dsimp only at H);simp only [zk3, zk7] at H;obtain ⟨rfl, rfl, rfl⟩ := H;go_enter Tryd.func40, Tryd.ntmps40
 try go_wp2_with (first | ((with_reducible refine zD 2 rfl ?_); refine zn (N := 2) (cs := #[.bool ac, .slice ag a7.length ah, .int .i64 ad]) (t := 25) rfl rfl ?_; intro aH hg w5 hbox hb; have a4 := zA (hbox); have b3 := zw hg; replace HB := ze hb; clear hb hbox hg) | ((with_reducible refine zD 3 rfl ?_); refine zn (N := 3) (cs := #[.bool ae, .slice ai a8.length aj, .int .i64 af]) (t := 25) rfl rfl ?_; intro aI hg w6 hbox hb; have a6 := zA (hbox); have b4 := zx hg; replace HB := zf hb; have aL := zl a4 hg; have aM := zg a4 hg; replace a4 := zb a4 hb; clear hb hbox hg) | ((with_reducible refine zD 4 rfl ?_); refine zn (N := 4) (cs := #[.bool false, .slice none 0 0, .int .i64 0]) (t := 25) rfl rfl ?_; intro a3 hg w7 hbox hb; have a5 := zA (hbox); have b5 := zx hg; replace HB := zf hb; have a1 := zl a4 hg; have a9 := zg a4 hg; replace a4 := zb a4 hb; have a2 := zl a6 hg; have aa := zg a6 hg; replace a6 := zb a6 hb; clear hb hbox hg))
 replace a4 := zA (Z8 a4.out);replace a6 := zA (Z8 a6.out);replace a5 := zA (Z8 a5.out);replace HB := zA (Zs HB.out);refine Z09 (n := 5) (S := fun w' => z4 w' aH (.bool ac) (.slice ag a7.length ah) (.int .i64 ad) (z3 w' aI (.bool ae) (.slice ai a8.length aj) (.int .i64 af))) (ds := []) #[O, O, O, O, O] (by kernel_rfl) rfl rfl (za a4 (zz a6)) (fun hHeld => ?_);generalize w7.drew = w8 at a4 a6 a5 HB hHeld ⊢;refine take_ (i := 0) (N := some 5) (v := ?_) (a' := ?_) #[I, O, O, O, O] rfl rfl (by kernel_rfl) (fun _ _ _ h => h) (Or.inl ⟨by rfl, ?_⟩) hHeld ?_ ?_;rotate_left;·rintro w' ⟨s0, s1, s2, s3, s4, s5⟩;go_simp;with_reducible rfl
 rotate_left;·exact zq
 refine take_ (i := 1) (N := some 6) (v := ?_) (a' := ?_) #[I, I, O, O, O] rfl rfl (by kernel_rfl) (fun _ _ _ h => h) (Or.inl ⟨by rfl, ?_⟩) hHeld ?_ ?_;rotate_left;·rintro w' ⟨s0, s1, s2, s3, s4, s5⟩;go_simp;with_reducible rfl
 rotate_left;·exact zq
 refine ZL (i := 2) (N := some 7) #[I, I, I, O, O] rfl rfl (by kernel_rfl) (by decide) (fun K hK => ?_);refine Zz Tryd.func79 (by kernel_rfl) rfl #[.agg #[.bool ae, .slice ai a8.length aj, .int .i64 af]] (by rfl) rfl rfl ga ?_
 with_reducible refine (Z1Z.calls k ae _ _ a8 af am an ao _ ?ak ?al A3.out).mono ?_
 (case ak => exact zk (Za aF.out HB.out));(case al => exact aG.out);rintro e w9 ⟨v707, rfl, av, hb⟩;refine ⟨_, rfl, ?_⟩;have ab := zA (ZH av (Z7 zs));replace a4 := zb a4 hb;replace a6 := zb a6 hb;replace a5 := zb a5 hb;replace HB := zf hb;obtain ⟨aN, aO, aB⟩ := ZO ab.out
 (first | subst aB | (injection aB with f1_ f2_ f3_; have f4_ := f1_.symm; have f5_ := f3_.symm; clear f1_ f2_ f3_; subst f4_; subst f5_))
 refine hK.out _ _ (za a4 (zz a6)) (fun hHeld => ?_);clear hK K;refine Zh (a' := ?_) ?_ ?_;rotate_left;·show Act.put _ (some 7) _ = _;exact zq
 refine ZL (i := 3) (N := some 8) #[I, I, I, I, O] rfl rfl (by kernel_rfl) (by decide) (fun K hK => ?_);refine Zz Tryd.func78 (by kernel_rfl) rfl #[.agg #[.bool ac, .slice ag a7.length ah, .int .i64 ad], .agg #[.bool am, .slice aN an.length aO, .int .i64 ao]] (by rfl) rfl rfl ga ?_
 with_reducible refine (Zn.calls k ac _ _ a7 ad am _ _ an ao ax ay aA _ ?ak ?al ?aJ ?aK A4.out).mono ?_
 (case ak => exact zk (Za aD.out HB.out));(case al => exact aE.out);(case aJ => exact zk (Zi ab.out).2.2);(case aK => exact (Zi ab.out).2.1);rintro e w11 ⟨v712, rfl, av, hb⟩;refine ⟨_, rfl, ?_⟩;have aw := zA (ZH (ZN av (Z0d (ru ab.out))) (Z7 zs));replace ab := zA (Zx (ru ab.out) (ZA av) hb);replace a4 := zb a4 hb;replace a6 := zb a6 hb;replace a5 := zb a5 hb;replace HB := zf hb;obtain ⟨aP, aQ, aC⟩ := ZO aw.out
 (first | subst aC | (injection aC with f1_ f2_ f3_; have f4_ := f1_.symm; have f5_ := f3_.symm; clear f1_ f2_ f3_; subst f4_; subst f5_))
 refine hK.out _ _ (za a4 (zz a6)) (fun hHeld => ?_);clear hK K;refine Zh (a' := ?_) ?_ ?_;rotate_left;·show Act.put _ (some 8) _ = _;exact zq
 refine ZL (i := 4) (N := none) #[I, I, I, I, I] rfl rfl (by kernel_rfl) (by decide) (fun K hK => ?_);have hs12 := zM0 a5;have hfs12 := Z2 a5.out 0;have aR := a1.out;have aS := a2.out;have aT := a9.out;have aU := aa.out;have hs14 := zM1 a5;have hfs14 := Z2 a5.out 1;have aV := a1.out;have aW := a2.out;have aX := a9.out;have aY := aa.out;have hs15 := zM2 a5;have hfs15 := Z2 a5.out 2;have az := a1.out;have aZ := a2.out;have b1 := a9.out;have b2 := aa.out;refine Z1p (w1 := ?_) (by rfl) rfl ?_ ?_;rotate_left;·go_simp;rfl
 refine hK.out _ _ ⟨((Z5 (p := ⟨a3, _, none⟩) a1.out _).trans (((Z5 (p := ⟨a3, _, none⟩) a1.out _).trans (((Z5 (p := ⟨a3, _, none⟩) a1.out _).trans (hHeld.1)))))), ((Z5 (p := ⟨a3, _, none⟩) a1.out _).trans (((Z5 (p := ⟨a3, _, none⟩) a1.out _).trans (((Z5 (p := ⟨a3, _, none⟩) a1.out _).trans (hHeld.2.1)))))), ((Z5 (p := ⟨a3, _, none⟩) a1.out _).trans (((Z5 (p := ⟨a3, _, none⟩) a1.out _).trans (((Z5 (p := ⟨a3, _, none⟩) a1.out _).trans (hHeld.2.2.1)))))), ((Z5 (p := ⟨a3, _, none⟩) a2.out _).trans (((Z5 (p := ⟨a3, _, none⟩) a2.out _).trans (((Z5 (p := ⟨a3, _, none⟩) a2.out _).trans (hHeld.2.2.2.1)))))), ((Z5 (p := ⟨a3, _, none⟩) a2.out _).trans (((Z5 (p := ⟨a3, _, none⟩) a2.out _).trans (((Z5 (p := ⟨a3, _, none⟩) a2.out _).trans (hHeld.2.2.2.2.1)))))), ((Z5 (p := ⟨a3, _, none⟩) a2.out _).trans (((Z5 (p := ⟨a3, _, none⟩) a2.out _).trans (((Z5 (p := ⟨a3, _, none⟩) a2.out _).trans (hHeld.2.2.2.2.2))))))⟩ (fun hHeld => ?_);clear hK K;refine Z0l (by kernel_rfl) ?_
 try go_wp2
 refine bodyPost_ret (results_cell_row rfl _ _ a3 25 #[.bool ax, .slice aP ay.length aQ, .int .i64 aA] (0, 0) _ rfl (zy a5) Tryd.underlying25 rfl (by kernel_rfl)) rfl ?_;exact ⟨_, er, ru (ZC (zr a3 (ZR aw.out a5.out (by decide)) (fun _ hk => hk.2) _ _ _) (fun _ hk => trivial)), zs⟩
def ZW.f (k : Nat) (a3 : Bool) (a4 : List Int) (a5 : Int) (a6 : Bool) (a7 : List Int) (a8 : Int) : Option (Int) := (Z04.f k a3 a4 a5).bind fun a1 => ((Z04.f k a6 a7 a8).bind fun a9 => (if a1 < a9 then (some (-1)) else (if a1 > a9 then (some 1) else (if a1 = 0 then (some 0) else ((Z07.f k a3 a4 a5).bind fun aa => ((Z07.f k a6 a7 a8).bind fun ab => (if aa = ab then ((Z1O.f k a3 a4 a5 a6 a7 a8).bind fun a2 => ((Z04.f k a2.1 a2.2.1 a2.2.2).bind fun ac => (some ac))) else (if aa > ab then (some a1) else (some (wrap64 (-a1)))))))))))
theorem ZW.calls (k : Nat) (a7 : Bool) (ab : Option Addr) (ac : Nat) (a5 : List Int) (a8 : Int) (a9 : Bool) (ad : Option Addr) (ae : Nat) (a6 : List Int) (aa : Int) (r : Int) (w : World) (aw : Kd.C Zu w ab a5.length a5) (ax : a5.length ≤ ac) (ay : Kd.C Zu w ad a6.length a6) (aA : a6.length ≤ ae) (h : ZW.f k a7 a5 a8 a9 a6 aa = some r) :
  Calls Tryd.prog 13 #[.agg #[.bool a7, .slice ab a5.length ac, .int .i64 a8], .agg #[.bool a9, .slice ad a6.length ae, .int .i64 aa]] w fun e w' => e = .returned (.int .i64 r) ∧ Below w.heap.size w w' := by
 have hu25 := Tryd.underlying25;have aj := zA aw;have ak := zA ax;clear aw ax;have al := zA ay;have am := zA aA;clear ay aA;have HB := zA (Below.refl w.heap.size w);have H := h
 unfold ZW.f at H
 clear h;obtain ⟨an, A3, H⟩ := zh H;obtain ⟨ao, A4, H⟩ := zh H
 by_cases c5 : an < ao
 ·rw [if_pos c5] at H;have aM := dT c5;clear c5;obtain rfl := zk1 H;go_enter Tryd.func13, Tryd.ntmps13
  try go_wp2_with (first | ((with_reducible refine zD 2 rfl ?_); refine zn (N := 2) (cs := #[.bool a7, .slice ab a5.length ac, .int .i64 a8]) (t := 25) rfl rfl ?_; intro af hg w6 hbox hb; have a1 := zA (hbox); have ap := zw hg; replace HB := ze hb; clear hb hbox hg) | ((with_reducible refine zD 3 rfl ?_); refine zn (N := 3) (cs := #[.bool a9, .slice ad a6.length ae, .int .i64 aa]) (t := 25) rfl rfl ?_; intro ag hg w7 hbox hb; have a2 := zA (hbox); have aq := zx hg; replace HB := zf hb; have ah := zl a1 hg; have ai := zg a1 hg; replace a1 := zb a1 hb; clear hb hbox hg))
  replace a1 := zA (Z8 a1.out);replace a2 := zA (Z8 a2.out);replace HB := zA (Zs HB.out);refine Z09 (n := 6) (S := fun w' => z4 w' af (.bool a7) (.slice ab a5.length ac) (.int .i64 a8) (z3 w' ag (.bool a9) (.slice ad a6.length ae) (.int .i64 aa))) (ds := []) #[O, O, O, O, O, O] (by kernel_rfl) rfl rfl (za a1 (zz a2)) (fun hHeld => ?_);generalize w7.drew = w8 at a1 a2 HB hHeld ⊢;refine take_ (i := 0) (N := some 9) (v := ?_) (a' := ?_) #[I, O, O, O, O, O] rfl rfl (by kernel_rfl) (fun _ _ _ h => h) (Or.inl ⟨by rfl, ?_⟩) hHeld ?_ ?_;rotate_left;·rintro w' ⟨s0, s1, s2, s3, s4, s5⟩;go_simp;with_reducible rfl
  rotate_left;·exact zq
  refine take_ (i := 2) (N := some 11) (v := ?_) (a' := ?_) #[I, O, I, O, O, O] rfl rfl (by kernel_rfl) (fun _ _ _ h => h) (Or.inl ⟨by rfl, ?_⟩) hHeld ?_ ?_;rotate_left;·rintro w' ⟨s0, s1, s2, s3, s4, s5⟩;go_simp;with_reducible rfl
  rotate_left;·exact zq
  refine ZL (i := 1) (N := some 10) #[I, I, I, O, O, O] rfl rfl (by kernel_rfl) (by decide) (fun K hK => ?_);refine Zz Tryd.func38 (by kernel_rfl) rfl #[.agg #[.bool a7, .slice ab a5.length ac, .int .i64 a8]] (by rfl) rfl rfl ga ?_
  with_reducible refine (Z04.calls k a7 _ _ a5 a8 an _ ?a3 ?a4 A3.out).mono ?_
  (case a3 => exact zk (Za aj.out HB.out));(case a4 => exact ak.out);rintro e w9 ⟨rfl, hb⟩;refine ⟨_, rfl, ?_⟩;replace a1 := zb a1 hb;replace a2 := zb a2 hb;replace HB := zf hb;refine hK.out _ _ (za a1 (zz a2)) (fun hHeld => ?_);clear hK K;refine Zh (a' := ?_) ?_ ?_;rotate_left;·show Act.put _ (some 10) _ = _;exact zq
  refine ZL (i := 3) (N := some 12) #[I, I, I, I, O, O] rfl rfl (by kernel_rfl) (by decide) (fun K hK => ?_);refine Zz Tryd.func38 (by kernel_rfl) rfl #[.agg #[.bool a9, .slice ad a6.length ae, .int .i64 aa]] (by rfl) rfl rfl ga ?_
  with_reducible refine (Z04.calls k a9 _ _ a6 aa ao _ ?a3 ?a4 A4.out).mono ?_
  (case a3 => exact zk (Za al.out HB.out));(case a4 => exact am.out);rintro e w10 ⟨rfl, hb⟩;refine ⟨_, rfl, ?_⟩;replace a1 := zb a1 hb;replace a2 := zb a2 hb;replace HB := zf hb;refine hK.out _ _ (za a1 (zz a2)) (fun hHeld => ?_);clear hK K;refine Zh (a' := ?_) ?_ ?_;rotate_left;·show Act.put _ (some 12) _ = _;exact zq
  refine Z0D (i := 4) (N := some 5) (v := ?_) (a' := ?_) #[I, I, I, I, I, O] rfl rfl (by kernel_rfl) (fun _ _ _ h => h) (Or.inl ⟨by rfl, ?_⟩) ?_ ?_;rotate_left;·intro w';go_simp;with_reducible rfl
  rotate_left;·exact zq
  refine Z0D (i := 5) (N := some 6) (v := ?_) (a' := ?_) #[I, I, I, I, I, I] rfl rfl (by kernel_rfl) (fun _ _ _ h => h) (Or.inl ⟨by rfl, ?_⟩) ?_ ?_;rotate_left;·intro w';go_simp;with_reducible rfl
  rotate_left;·exact zq
  refine Z0l (by kernel_rfl) ?_
  try go_wp2
  go_ret;exact ⟨er, zs⟩
 rw [if_neg c5] at H;have aM := dF c5;clear c5
 by_cases c11 : an > ao
 ·rw [if_pos c11] at H;have aG := dT c11;clear c11;obtain rfl := zk1 H;go_enter Tryd.func13, Tryd.ntmps13
  try go_wp2_with (first | ((with_reducible refine zD 2 rfl ?_); refine zn (N := 2) (cs := #[.bool a7, .slice ab a5.length ac, .int .i64 a8]) (t := 25) rfl rfl ?_; intro af hg w12 hbox hb; have a1 := zA (hbox); have ap := zw hg; replace HB := ze hb; clear hb hbox hg) | ((with_reducible refine zD 3 rfl ?_); refine zn (N := 3) (cs := #[.bool a9, .slice ad a6.length ae, .int .i64 aa]) (t := 25) rfl rfl ?_; intro ag hg w13 hbox hb; have a2 := zA (hbox); have aq := zx hg; replace HB := zf hb; have ah := zl a1 hg; have ai := zg a1 hg; replace a1 := zb a1 hb; clear hb hbox hg))
  replace a1 := zA (Z8 a1.out);replace a2 := zA (Z8 a2.out);replace HB := zA (Zs HB.out);refine Z09 (n := 6) (S := fun w' => z4 w' af (.bool a7) (.slice ab a5.length ac) (.int .i64 a8) (z3 w' ag (.bool a9) (.slice ad a6.length ae) (.int .i64 aa))) (ds := []) #[O, O, O, O, O, O] (by kernel_rfl) rfl rfl (za a1 (zz a2)) (fun hHeld => ?_);generalize w13.drew = w14 at a1 a2 HB hHeld ⊢;refine take_ (i := 0) (N := some 9) (v := ?_) (a' := ?_) #[I, O, O, O, O, O] rfl rfl (by kernel_rfl) (fun _ _ _ h => h) (Or.inl ⟨by rfl, ?_⟩) hHeld ?_ ?_;rotate_left;·rintro w' ⟨s0, s1, s2, s3, s4, s5⟩;go_simp;with_reducible rfl
  rotate_left;·exact zq
  refine take_ (i := 2) (N := some 11) (v := ?_) (a' := ?_) #[I, O, I, O, O, O] rfl rfl (by kernel_rfl) (fun _ _ _ h => h) (Or.inl ⟨by rfl, ?_⟩) hHeld ?_ ?_;rotate_left;·rintro w' ⟨s0, s1, s2, s3, s4, s5⟩;go_simp;with_reducible rfl
  rotate_left;·exact zq
  refine ZL (i := 1) (N := some 10) #[I, I, I, O, O, O] rfl rfl (by kernel_rfl) (by decide) (fun K hK => ?_);refine Zz Tryd.func38 (by kernel_rfl) rfl #[.agg #[.bool a7, .slice ab a5.length ac, .int .i64 a8]] (by rfl) rfl rfl ga ?_
  with_reducible refine (Z04.calls k a7 _ _ a5 a8 an _ ?a3 ?a4 A3.out).mono ?_
  (case a3 => exact zk (Za aj.out HB.out));(case a4 => exact ak.out);rintro e w15 ⟨rfl, hb⟩;refine ⟨_, rfl, ?_⟩;replace a1 := zb a1 hb;replace a2 := zb a2 hb;replace HB := zf hb;refine hK.out _ _ (za a1 (zz a2)) (fun hHeld => ?_);clear hK K;refine Zh (a' := ?_) ?_ ?_;rotate_left;·show Act.put _ (some 10) _ = _;exact zq
  refine ZL (i := 3) (N := some 12) #[I, I, I, I, O, O] rfl rfl (by kernel_rfl) (by decide) (fun K hK => ?_);refine Zz Tryd.func38 (by kernel_rfl) rfl #[.agg #[.bool a9, .slice ad a6.length ae, .int .i64 aa]] (by rfl) rfl rfl ga ?_
  with_reducible refine (Z04.calls k a9 _ _ a6 aa ao _ ?a3 ?a4 A4.out).mono ?_
  (case a3 => exact zk (Za al.out HB.out));(case a4 => exact am.out);rintro e w16 ⟨rfl, hb⟩;refine ⟨_, rfl, ?_⟩;replace a1 := zb a1 hb;replace a2 := zb a2 hb;replace HB := zf hb;refine hK.out _ _ (za a1 (zz a2)) (fun hHeld => ?_);clear hK K;refine Zh (a' := ?_) ?_ ?_;rotate_left;·show Act.put _ (some 12) _ = _;exact zq
  refine Z0D (i := 4) (N := some 5) (v := ?_) (a' := ?_) #[I, I, I, I, I, O] rfl rfl (by kernel_rfl) (fun _ _ _ h => h) (Or.inl ⟨by rfl, ?_⟩) ?_ ?_;rotate_left;·intro w';go_simp;with_reducible rfl
  rotate_left;·exact zq
  refine Z0D (i := 5) (N := some 6) (v := ?_) (a' := ?_) #[I, I, I, I, I, I] rfl rfl (by kernel_rfl) (fun _ _ _ h => h) (Or.inl ⟨by rfl, ?_⟩) ?_ ?_;rotate_left;·intro w';go_simp;with_reducible rfl
  rotate_left;·exact zq
  refine Z0l (by kernel_rfl) ?_
  try go_wp2
  go_ret;exact ⟨er, zs⟩
 rw [if_neg c11] at H;have aG := dF c11;clear c11
 by_cases c17 : an = 0
 ·rw [if_pos c17] at H;have aH := eT c17;have aI := nF c17;clear c17;obtain rfl := zk1 H;go_enter Tryd.func13, Tryd.ntmps13
  try go_wp2_with (first | ((with_reducible refine zD 2 rfl ?_); refine zn (N := 2) (cs := #[.bool a7, .slice ab a5.length ac, .int .i64 a8]) (t := 25) rfl rfl ?_; intro af hg w18 hbox hb; have a1 := zA (hbox); have ap := zw hg; replace HB := ze hb; clear hb hbox hg) | ((with_reducible refine zD 3 rfl ?_); refine zn (N := 3) (cs := #[.bool a9, .slice ad a6.length ae, .int .i64 aa]) (t := 25) rfl rfl ?_; intro ag hg w19 hbox hb; have a2 := zA (hbox); have aq := zx hg; replace HB := zf hb; have ah := zl a1 hg; have ai := zg a1 hg; replace a1 := zb a1 hb; clear hb hbox hg))
  replace a1 := zA (Z8 a1.out);replace a2 := zA (Z8 a2.out);replace HB := zA (Zs HB.out);refine Z09 (n := 6) (S := fun w' => z4 w' af (.bool a7) (.slice ab a5.length ac) (.int .i64 a8) (z3 w' ag (.bool a9) (.slice ad a6.length ae) (.int .i64 aa))) (ds := []) #[O, O, O, O, O, O] (by kernel_rfl) rfl rfl (za a1 (zz a2)) (fun hHeld => ?_);generalize w19.drew = w20 at a1 a2 HB hHeld ⊢;refine take_ (i := 0) (N := some 9) (v := ?_) (a' := ?_) #[I, O, O, O, O, O] rfl rfl (by kernel_rfl) (fun _ _ _ h => h) (Or.inl ⟨by rfl, ?_⟩) hHeld ?_ ?_;rotate_left;·rintro w' ⟨s0, s1, s2, s3, s4, s5⟩;go_simp;with_reducible rfl
  rotate_left;·exact zq
  refine take_ (i := 2) (N := some 11) (v := ?_) (a' := ?_) #[I, O, I, O, O, O] rfl rfl (by kernel_rfl) (fun _ _ _ h => h) (Or.inl ⟨by rfl, ?_⟩) hHeld ?_ ?_;rotate_left;·rintro w' ⟨s0, s1, s2, s3, s4, s5⟩;go_simp;with_reducible rfl
  rotate_left;·exact zq
  refine ZL (i := 1) (N := some 10) #[I, I, I, O, O, O] rfl rfl (by kernel_rfl) (by decide) (fun K hK => ?_);refine Zz Tryd.func38 (by kernel_rfl) rfl #[.agg #[.bool a7, .slice ab a5.length ac, .int .i64 a8]] (by rfl) rfl rfl ga ?_
  with_reducible refine (Z04.calls k a7 _ _ a5 a8 an _ ?a3 ?a4 A3.out).mono ?_
  (case a3 => exact zk (Za aj.out HB.out));(case a4 => exact ak.out);rintro e w21 ⟨rfl, hb⟩;refine ⟨_, rfl, ?_⟩;replace a1 := zb a1 hb;replace a2 := zb a2 hb;replace HB := zf hb;refine hK.out _ _ (za a1 (zz a2)) (fun hHeld => ?_);clear hK K;refine Zh (a' := ?_) ?_ ?_;rotate_left;·show Act.put _ (some 10) _ = _;exact zq
  refine ZL (i := 3) (N := some 12) #[I, I, I, I, O, O] rfl rfl (by kernel_rfl) (by decide) (fun K hK => ?_);refine Zz Tryd.func38 (by kernel_rfl) rfl #[.agg #[.bool a9, .slice ad a6.length ae, .int .i64 aa]] (by rfl) rfl rfl ga ?_
  with_reducible refine (Z04.calls k a9 _ _ a6 aa ao _ ?a3 ?a4 A4.out).mono ?_
  (case a3 => exact zk (Za al.out HB.out));(case a4 => exact am.out);rintro e w22 ⟨rfl, hb⟩;refine ⟨_, rfl, ?_⟩;replace a1 := zb a1 hb;replace a2 := zb a2 hb;replace HB := zf hb;refine hK.out _ _ (za a1 (zz a2)) (fun hHeld => ?_);clear hK K;refine Zh (a' := ?_) ?_ ?_;rotate_left;·show Act.put _ (some 12) _ = _;exact zq
  refine Z0D (i := 4) (N := some 5) (v := ?_) (a' := ?_) #[I, I, I, I, I, O] rfl rfl (by kernel_rfl) (fun _ _ _ h => h) (Or.inl ⟨by rfl, ?_⟩) ?_ ?_;rotate_left;·intro w';go_simp;with_reducible rfl
  rotate_left;·exact zq
  refine Z0D (i := 5) (N := some 6) (v := ?_) (a' := ?_) #[I, I, I, I, I, I] rfl rfl (by kernel_rfl) (fun _ _ _ h => h) (Or.inl ⟨by rfl, ?_⟩) ?_ ?_;rotate_left;·intro w';go_simp;with_reducible rfl
  rotate_left;·exact zq
  refine Z0l (by kernel_rfl) ?_
  try go_wp2
  go_ret;exact ⟨er, zs⟩
 rw [if_neg c17] at H;have aH := eF c17;have aI := nT c17;obtain ⟨au, aB, H⟩ := zh H;obtain ⟨av, aC, H⟩ := zh H
 by_cases c25 : au = av
 ·rw [if_pos c25] at H;have aJ := eT c25;have aK := nF c25;clear c25;obtain ⟨⟨aD, aE, aF⟩, aP, H⟩ := zh H;(try dsimp only at H);obtain ⟨aN, aQ, H⟩ := zh H;obtain rfl := zk1 H;go_enter Tryd.func13, Tryd.ntmps13
  try go_wp2_with (first | ((with_reducible refine zD 2 rfl ?_); refine zn (N := 2) (cs := #[.bool a7, .slice ab a5.length ac, .int .i64 a8]) (t := 25) rfl rfl ?_; intro af hg w28 hbox hb; have a1 := zA (hbox); have ap := zw hg; replace HB := ze hb; clear hb hbox hg) | ((with_reducible refine zD 3 rfl ?_); refine zn (N := 3) (cs := #[.bool a9, .slice ad a6.length ae, .int .i64 aa]) (t := 25) rfl rfl ?_; intro ag hg w29 hbox hb; have a2 := zA (hbox); have aq := zx hg; replace HB := zf hb; have ah := zl a1 hg; have ai := zg a1 hg; replace a1 := zb a1 hb; clear hb hbox hg))
  replace a1 := zA (Z8 a1.out);replace a2 := zA (Z8 a2.out);replace HB := zA (Zs HB.out);refine Z09 (n := 6) (S := fun w' => z4 w' af (.bool a7) (.slice ab a5.length ac) (.int .i64 a8) (z3 w' ag (.bool a9) (.slice ad a6.length ae) (.int .i64 aa))) (ds := []) #[O, O, O, O, O, O] (by kernel_rfl) rfl rfl (za a1 (zz a2)) (fun hHeld => ?_);generalize w29.drew = w30 at a1 a2 HB hHeld ⊢;refine take_ (i := 0) (N := some 9) (v := ?_) (a' := ?_) #[I, O, O, O, O, O] rfl rfl (by kernel_rfl) (fun _ _ _ h => h) (Or.inl ⟨by rfl, ?_⟩) hHeld ?_ ?_;rotate_left;·rintro w' ⟨s0, s1, s2, s3, s4, s5⟩;go_simp;with_reducible rfl
  rotate_left;·exact zq
  refine take_ (i := 2) (N := some 11) (v := ?_) (a' := ?_) #[I, O, I, O, O, O] rfl rfl (by kernel_rfl) (fun _ _ _ h => h) (Or.inl ⟨by rfl, ?_⟩) hHeld ?_ ?_;rotate_left;·rintro w' ⟨s0, s1, s2, s3, s4, s5⟩;go_simp;with_reducible rfl
  rotate_left;·exact zq
  refine ZL (i := 1) (N := some 10) #[I, I, I, O, O, O] rfl rfl (by kernel_rfl) (by decide) (fun K hK => ?_);refine Zz Tryd.func38 (by kernel_rfl) rfl #[.agg #[.bool a7, .slice ab a5.length ac, .int .i64 a8]] (by rfl) rfl rfl ga ?_
  with_reducible refine (Z04.calls k a7 _ _ a5 a8 an _ ?a3 ?a4 A3.out).mono ?_
  (case a3 => exact zk (Za aj.out HB.out));(case a4 => exact ak.out);rintro e w31 ⟨rfl, hb⟩;refine ⟨_, rfl, ?_⟩;replace a1 := zb a1 hb;replace a2 := zb a2 hb;replace HB := zf hb;refine hK.out _ _ (za a1 (zz a2)) (fun hHeld => ?_);clear hK K;refine Zh (a' := ?_) ?_ ?_;rotate_left;·show Act.put _ (some 10) _ = _;exact zq
  refine ZL (i := 3) (N := some 12) #[I, I, I, I, O, O] rfl rfl (by kernel_rfl) (by decide) (fun K hK => ?_);refine Zz Tryd.func38 (by kernel_rfl) rfl #[.agg #[.bool a9, .slice ad a6.length ae, .int .i64 aa]] (by rfl) rfl rfl ga ?_
  with_reducible refine (Z04.calls k a9 _ _ a6 aa ao _ ?a3 ?a4 A4.out).mono ?_
  (case a3 => exact zk (Za al.out HB.out));(case a4 => exact am.out);rintro e w32 ⟨rfl, hb⟩;refine ⟨_, rfl, ?_⟩;replace a1 := zb a1 hb;replace a2 := zb a2 hb;replace HB := zf hb;refine hK.out _ _ (za a1 (zz a2)) (fun hHeld => ?_);clear hK K;refine Zh (a' := ?_) ?_ ?_;rotate_left;·show Act.put _ (some 12) _ = _;exact zq
  refine Z0D (i := 4) (N := some 5) (v := ?_) (a' := ?_) #[I, I, I, I, I, O] rfl rfl (by kernel_rfl) (fun _ _ _ h => h) (Or.inl ⟨by rfl, ?_⟩) ?_ ?_;rotate_left;·intro w';go_simp;with_reducible rfl
  rotate_left;·exact zq
  refine Z0D (i := 5) (N := some 6) (v := ?_) (a' := ?_) #[I, I, I, I, I, I] rfl rfl (by kernel_rfl) (fun _ _ _ h => h) (Or.inl ⟨by rfl, ?_⟩) ?_ ?_;rotate_left;·intro w';go_simp;with_reducible rfl
  rotate_left;·exact zq
  refine Z0l (by kernel_rfl) ?_
  try go_wp2
  replace a1 := zA (Z8 a1.out);replace a2 := zA (Z8 a2.out);replace HB := zA (Zs HB.out);refine Z09 (n := 6) (S := fun w' => z4 w' af (.bool a7) (.slice ab a5.length ac) (.int .i64 a8) (z3 w' ag (.bool a9) (.slice ad a6.length ae) (.int .i64 aa))) (ds := []) #[O, O, O, O, O, O] (by kernel_rfl) rfl rfl (za a1 (zz a2)) (fun hHeld => ?_);generalize w32.drew = w33 at a1 a2 HB hHeld ⊢;refine take_ (i := 0) (N := some 24) (v := ?_) (a' := ?_) #[I, O, O, O, O, O] rfl rfl (by kernel_rfl) (fun _ _ _ h => h) (Or.inl ⟨by rfl, ?_⟩) hHeld ?_ ?_;rotate_left;·rintro w' ⟨s0, s1, s2, s3, s4, s5⟩;go_simp;with_reducible rfl
  rotate_left;·exact zq
  refine take_ (i := 2) (N := some 26) (v := ?_) (a' := ?_) #[I, O, I, O, O, O] rfl rfl (by kernel_rfl) (fun _ _ _ h => h) (Or.inl ⟨by rfl, ?_⟩) hHeld ?_ ?_;rotate_left;·rintro w' ⟨s0, s1, s2, s3, s4, s5⟩;go_simp;with_reducible rfl
  rotate_left;·exact zq
  refine ZL (i := 1) (N := some 25) #[I, I, I, O, O, O] rfl rfl (by kernel_rfl) (by decide) (fun K hK => ?_);refine Zz Tryd.func39 (by kernel_rfl) rfl #[.agg #[.bool a7, .slice ab a5.length ac, .int .i64 a8]] (by rfl) rfl rfl ga ?_
  with_reducible refine (Z07.calls k a7 _ _ a5 a8 au _ ?a3 ?a4 aB.out).mono ?_
  (case a3 => exact zk (Za aj.out HB.out));(case a4 => exact ak.out);rintro e w34 ⟨rfl, hb⟩;refine ⟨_, rfl, ?_⟩;replace a1 := zb a1 hb;replace a2 := zb a2 hb;replace HB := zf hb;refine hK.out _ _ (za a1 (zz a2)) (fun hHeld => ?_);clear hK K;refine Zh (a' := ?_) ?_ ?_;rotate_left;·show Act.put _ (some 25) _ = _;exact zq
  refine ZL (i := 3) (N := some 27) #[I, I, I, I, O, O] rfl rfl (by kernel_rfl) (by decide) (fun K hK => ?_);refine Zz Tryd.func39 (by kernel_rfl) rfl #[.agg #[.bool a9, .slice ad a6.length ae, .int .i64 aa]] (by rfl) rfl rfl ga ?_
  with_reducible refine (Z07.calls k a9 _ _ a6 aa av _ ?a3 ?a4 aC.out).mono ?_
  (case a3 => exact zk (Za al.out HB.out));(case a4 => exact am.out);rintro e w35 ⟨rfl, hb⟩;refine ⟨_, rfl, ?_⟩;replace a1 := zb a1 hb;replace a2 := zb a2 hb;replace HB := zf hb;refine hK.out _ _ (za a1 (zz a2)) (fun hHeld => ?_);clear hK K;refine Zh (a' := ?_) ?_ ?_;rotate_left;·show Act.put _ (some 27) _ = _;exact zq
  refine Z0D (i := 4) (N := some 7) (v := ?_) (a' := ?_) #[I, I, I, I, I, O] rfl rfl (by kernel_rfl) (fun _ _ _ h => h) (Or.inl ⟨by rfl, ?_⟩) ?_ ?_;rotate_left;·intro w';go_simp;with_reducible rfl
  rotate_left;·exact zq
  refine Z0D (i := 5) (N := some 8) (v := ?_) (a' := ?_) #[I, I, I, I, I, I] rfl rfl (by kernel_rfl) (fun _ _ _ h => h) (Or.inl ⟨by rfl, ?_⟩) ?_ ?_;rotate_left;·intro w';go_simp;with_reducible rfl
  rotate_left;·exact zq
  refine Z0l (by kernel_rfl) ?_;have aS := ah.out;have aT := ai.out;obtain ⟨_, _, _, _, _, _⟩ := zc a1;obtain ⟨_, _, _, _, _, _⟩ := zc a2
  try go_wp2_with (first | ((with_reducible refine zG 40 rfl ?_); refine zC (some 39) Tryd.func40 (Z1O.calls k a7 _ _ a5 a8 a9 _ _ a6 aa aD aE aF _ (zk (Za aj.out HB.out)) (ak.out) (zk (Za al.out HB.out)) (am.out) aP.out) ?_; rintro e w39 ⟨v723, rfl, aR, hb⟩; refine ⟨_, rfl, ?_⟩; have ar := zA (ZH aR (Z7 zs)); replace a1 := zb a1 hb; replace a2 := zb a2 hb; replace HB := zf hb; obtain ⟨aU, aV, aO⟩ := ZO ar.out; subst aO) | ((with_reducible refine zG 38 rfl ?_); refine zC (some 40) Tryd.func38 (Z04.calls k aD _ _ aE aF aN _ (zk (Zi ar.out).2.2) ((Zi ar.out).2.1) aQ.out) ?_; rintro e w41 ⟨rfl, hb⟩; refine ⟨_, rfl, ?_⟩; replace ar := zA (Zw (ru ar.out) hb); replace a1 := zb a1 hb; replace a2 := zb a2 hb; replace HB := zf hb))
  go_ret;exact ⟨er, zs⟩
 rw [if_neg c25] at H;have aJ := eF c25;have aK := nT c25
 by_cases c42 : au > av
 ·rw [if_pos c42] at H;have aL := dT c42;clear c42;obtain rfl := zk1 H;go_enter Tryd.func13, Tryd.ntmps13
  try go_wp2_with (first | ((with_reducible refine zD 2 rfl ?_); refine zn (N := 2) (cs := #[.bool a7, .slice ab a5.length ac, .int .i64 a8]) (t := 25) rfl rfl ?_; intro af hg w43 hbox hb; have a1 := zA (hbox); have ap := zw hg; replace HB := ze hb; clear hb hbox hg) | ((with_reducible refine zD 3 rfl ?_); refine zn (N := 3) (cs := #[.bool a9, .slice ad a6.length ae, .int .i64 aa]) (t := 25) rfl rfl ?_; intro ag hg w44 hbox hb; have a2 := zA (hbox); have aq := zx hg; replace HB := zf hb; have ah := zl a1 hg; have ai := zg a1 hg; replace a1 := zb a1 hb; clear hb hbox hg))
  replace a1 := zA (Z8 a1.out);replace a2 := zA (Z8 a2.out);replace HB := zA (Zs HB.out);refine Z09 (n := 6) (S := fun w' => z4 w' af (.bool a7) (.slice ab a5.length ac) (.int .i64 a8) (z3 w' ag (.bool a9) (.slice ad a6.length ae) (.int .i64 aa))) (ds := []) #[O, O, O, O, O, O] (by kernel_rfl) rfl rfl (za a1 (zz a2)) (fun hHeld => ?_);generalize w44.drew = w45 at a1 a2 HB hHeld ⊢;refine take_ (i := 0) (N := some 9) (v := ?_) (a' := ?_) #[I, O, O, O, O, O] rfl rfl (by kernel_rfl) (fun _ _ _ h => h) (Or.inl ⟨by rfl, ?_⟩) hHeld ?_ ?_;rotate_left;·rintro w' ⟨s0, s1, s2, s3, s4, s5⟩;go_simp;with_reducible rfl
  rotate_left;·exact zq
  refine take_ (i := 2) (N := some 11) (v := ?_) (a' := ?_) #[I, O, I, O, O, O] rfl rfl (by kernel_rfl) (fun _ _ _ h => h) (Or.inl ⟨by rfl, ?_⟩) hHeld ?_ ?_;rotate_left;·rintro w' ⟨s0, s1, s2, s3, s4, s5⟩;go_simp;with_reducible rfl
  rotate_left;·exact zq
  refine ZL (i := 1) (N := some 10) #[I, I, I, O, O, O] rfl rfl (by kernel_rfl) (by decide) (fun K hK => ?_);refine Zz Tryd.func38 (by kernel_rfl) rfl #[.agg #[.bool a7, .slice ab a5.length ac, .int .i64 a8]] (by rfl) rfl rfl ga ?_
  with_reducible refine (Z04.calls k a7 _ _ a5 a8 an _ ?a3 ?a4 A3.out).mono ?_
  (case a3 => exact zk (Za aj.out HB.out));(case a4 => exact ak.out);rintro e w46 ⟨rfl, hb⟩;refine ⟨_, rfl, ?_⟩;replace a1 := zb a1 hb;replace a2 := zb a2 hb;replace HB := zf hb;refine hK.out _ _ (za a1 (zz a2)) (fun hHeld => ?_);clear hK K;refine Zh (a' := ?_) ?_ ?_;rotate_left;·show Act.put _ (some 10) _ = _;exact zq
  refine ZL (i := 3) (N := some 12) #[I, I, I, I, O, O] rfl rfl (by kernel_rfl) (by decide) (fun K hK => ?_);refine Zz Tryd.func38 (by kernel_rfl) rfl #[.agg #[.bool a9, .slice ad a6.length ae, .int .i64 aa]] (by rfl) rfl rfl ga ?_
  with_reducible refine (Z04.calls k a9 _ _ a6 aa ao _ ?a3 ?a4 A4.out).mono ?_
  (case a3 => exact zk (Za al.out HB.out));(case a4 => exact am.out);rintro e w47 ⟨rfl, hb⟩;refine ⟨_, rfl, ?_⟩;replace a1 := zb a1 hb;replace a2 := zb a2 hb;replace HB := zf hb;refine hK.out _ _ (za a1 (zz a2)) (fun hHeld => ?_);clear hK K;refine Zh (a' := ?_) ?_ ?_;rotate_left;·show Act.put _ (some 12) _ = _;exact zq
  refine Z0D (i := 4) (N := some 5) (v := ?_) (a' := ?_) #[I, I, I, I, I, O] rfl rfl (by kernel_rfl) (fun _ _ _ h => h) (Or.inl ⟨by rfl, ?_⟩) ?_ ?_;rotate_left;·intro w';go_simp;with_reducible rfl
  rotate_left;·exact zq
  refine Z0D (i := 5) (N := some 6) (v := ?_) (a' := ?_) #[I, I, I, I, I, I] rfl rfl (by kernel_rfl) (fun _ _ _ h => h) (Or.inl ⟨by rfl, ?_⟩) ?_ ?_;rotate_left;·intro w';go_simp;with_reducible rfl
  rotate_left;·exact zq
  refine Z0l (by kernel_rfl) ?_
  try go_wp2
  replace a1 := zA (Z8 a1.out);replace a2 := zA (Z8 a2.out);replace HB := zA (Zs HB.out);refine Z09 (n := 6) (S := fun w' => z4 w' af (.bool a7) (.slice ab a5.length ac) (.int .i64 a8) (z3 w' ag (.bool a9) (.slice ad a6.length ae) (.int .i64 aa))) (ds := []) #[O, O, O, O, O, O] (by kernel_rfl) rfl rfl (za a1 (zz a2)) (fun hHeld => ?_);generalize w47.drew = w48 at a1 a2 HB hHeld ⊢;refine take_ (i := 0) (N := some 24) (v := ?_) (a' := ?_) #[I, O, O, O, O, O] rfl rfl (by kernel_rfl) (fun _ _ _ h => h) (Or.inl ⟨by rfl, ?_⟩) hHeld ?_ ?_;rotate_left;·rintro w' ⟨s0, s1, s2, s3, s4, s5⟩;go_simp;with_reducible rfl
  rotate_left;·exact zq
  refine take_ (i := 2) (N := some 26) (v := ?_) (a' := ?_) #[I, O, I, O, O, O] rfl rfl (by kernel_rfl) (fun _ _ _ h => h) (Or.inl ⟨by rfl, ?_⟩) hHeld ?_ ?_;rotate_left;·rintro w' ⟨s0, s1, s2, s3, s4, s5⟩;go_simp;with_reducible rfl
  rotate_left;·exact zq
  refine ZL (i := 1) (N := some 25) #[I, I, I, O, O, O] rfl rfl (by kernel_rfl) (by decide) (fun K hK => ?_);refine Zz Tryd.func39 (by kernel_rfl) rfl #[.agg #[.bool a7, .slice ab a5.length ac, .int .i64 a8]] (by rfl) rfl rfl ga ?_
  with_reducible refine (Z07.calls k a7 _ _ a5 a8 au _ ?a3 ?a4 aB.out).mono ?_
  (case a3 => exact zk (Za aj.out HB.out));(case a4 => exact ak.out);rintro e w49 ⟨rfl, hb⟩;refine ⟨_, rfl, ?_⟩;replace a1 := zb a1 hb;replace a2 := zb a2 hb;replace HB := zf hb;refine hK.out _ _ (za a1 (zz a2)) (fun hHeld => ?_);clear hK K;refine Zh (a' := ?_) ?_ ?_;rotate_left;·show Act.put _ (some 25) _ = _;exact zq
  refine ZL (i := 3) (N := some 27) #[I, I, I, I, O, O] rfl rfl (by kernel_rfl) (by decide) (fun K hK => ?_);refine Zz Tryd.func39 (by kernel_rfl) rfl #[.agg #[.bool a9, .slice ad a6.length ae, .int .i64 aa]] (by rfl) rfl rfl ga ?_
  with_reducible refine (Z07.calls k a9 _ _ a6 aa av _ ?a3 ?a4 aC.out).mono ?_
  (case a3 => exact zk (Za al.out HB.out));(case a4 => exact am.out);rintro e w50 ⟨rfl, hb⟩;refine ⟨_, rfl, ?_⟩;replace a1 := zb a1 hb;replace a2 := zb a2 hb;replace HB := zf hb;refine hK.out _ _ (za a1 (zz a2)) (fun hHeld => ?_);clear hK K;refine Zh (a' := ?_) ?_ ?_;rotate_left;·show Act.put _ (some 27) _ = _;exact zq
  refine Z0D (i := 4) (N := some 7) (v := ?_) (a' := ?_) #[I, I, I, I, I, O] rfl rfl (by kernel_rfl) (fun _ _ _ h => h) (Or.inl ⟨by rfl, ?_⟩) ?_ ?_;rotate_left;·intro w';go_simp;with_reducible rfl
  rotate_left;·exact zq
  refine Z0D (i := 5) (N := some 8) (v := ?_) (a' := ?_) #[I, I, I, I, I, I] rfl rfl (by kernel_rfl) (fun _ _ _ h => h) (Or.inl ⟨by rfl, ?_⟩) ?_ ?_;rotate_left;·intro w';go_simp;with_reducible rfl
  rotate_left;·exact zq
  refine Z0l (by kernel_rfl) ?_
  try go_wp2
  go_ret;exact ⟨er, zs⟩
 rw [if_neg c42] at H;have aL := dF c42;clear c42;obtain rfl := zk1 H;go_enter Tryd.func13, Tryd.ntmps13
 try go_wp2_with (first | ((with_reducible refine zD 2 rfl ?_); refine zn (N := 2) (cs := #[.bool a7, .slice ab a5.length ac, .int .i64 a8]) (t := 25) rfl rfl ?_; intro af hg w51 hbox hb; have a1 := zA (hbox); have ap := zw hg; replace HB := ze hb; clear hb hbox hg) | ((with_reducible refine zD 3 rfl ?_); refine zn (N := 3) (cs := #[.bool a9, .slice ad a6.length ae, .int .i64 aa]) (t := 25) rfl rfl ?_; intro ag hg w52 hbox hb; have a2 := zA (hbox); have aq := zx hg; replace HB := zf hb; have ah := zl a1 hg; have ai := zg a1 hg; replace a1 := zb a1 hb; clear hb hbox hg))
 replace a1 := zA (Z8 a1.out);replace a2 := zA (Z8 a2.out);replace HB := zA (Zs HB.out);refine Z09 (n := 6) (S := fun w' => z4 w' af (.bool a7) (.slice ab a5.length ac) (.int .i64 a8) (z3 w' ag (.bool a9) (.slice ad a6.length ae) (.int .i64 aa))) (ds := []) #[O, O, O, O, O, O] (by kernel_rfl) rfl rfl (za a1 (zz a2)) (fun hHeld => ?_);generalize w52.drew = w53 at a1 a2 HB hHeld ⊢;refine take_ (i := 0) (N := some 9) (v := ?_) (a' := ?_) #[I, O, O, O, O, O] rfl rfl (by kernel_rfl) (fun _ _ _ h => h) (Or.inl ⟨by rfl, ?_⟩) hHeld ?_ ?_;rotate_left;·rintro w' ⟨s0, s1, s2, s3, s4, s5⟩;go_simp;with_reducible rfl
 rotate_left;·exact zq
 refine take_ (i := 2) (N := some 11) (v := ?_) (a' := ?_) #[I, O, I, O, O, O] rfl rfl (by kernel_rfl) (fun _ _ _ h => h) (Or.inl ⟨by rfl, ?_⟩) hHeld ?_ ?_;rotate_left;·rintro w' ⟨s0, s1, s2, s3, s4, s5⟩;go_simp;with_reducible rfl
 rotate_left;·exact zq
 refine ZL (i := 1) (N := some 10) #[I, I, I, O, O, O] rfl rfl (by kernel_rfl) (by decide) (fun K hK => ?_);refine Zz Tryd.func38 (by kernel_rfl) rfl #[.agg #[.bool a7, .slice ab a5.length ac, .int .i64 a8]] (by rfl) rfl rfl ga ?_
 with_reducible refine (Z04.calls k a7 _ _ a5 a8 an _ ?a3 ?a4 A3.out).mono ?_
 (case a3 => exact zk (Za aj.out HB.out));(case a4 => exact ak.out);rintro e w54 ⟨rfl, hb⟩;refine ⟨_, rfl, ?_⟩;replace a1 := zb a1 hb;replace a2 := zb a2 hb;replace HB := zf hb;refine hK.out _ _ (za a1 (zz a2)) (fun hHeld => ?_);clear hK K;refine Zh (a' := ?_) ?_ ?_;rotate_left;·show Act.put _ (some 10) _ = _;exact zq
 refine ZL (i := 3) (N := some 12) #[I, I, I, I, O, O] rfl rfl (by kernel_rfl) (by decide) (fun K hK => ?_);refine Zz Tryd.func38 (by kernel_rfl) rfl #[.agg #[.bool a9, .slice ad a6.length ae, .int .i64 aa]] (by rfl) rfl rfl ga ?_
 with_reducible refine (Z04.calls k a9 _ _ a6 aa ao _ ?a3 ?a4 A4.out).mono ?_
 (case a3 => exact zk (Za al.out HB.out));(case a4 => exact am.out);rintro e w55 ⟨rfl, hb⟩;refine ⟨_, rfl, ?_⟩;replace a1 := zb a1 hb;replace a2 := zb a2 hb;replace HB := zf hb;refine hK.out _ _ (za a1 (zz a2)) (fun hHeld => ?_);clear hK K;refine Zh (a' := ?_) ?_ ?_;rotate_left;·show Act.put _ (some 12) _ = _;exact zq
 refine Z0D (i := 4) (N := some 5) (v := ?_) (a' := ?_) #[I, I, I, I, I, O] rfl rfl (by kernel_rfl) (fun _ _ _ h => h) (Or.inl ⟨by rfl, ?_⟩) ?_ ?_;rotate_left;·intro w';go_simp;with_reducible rfl
 rotate_left;·exact zq
 refine Z0D (i := 5) (N := some 6) (v := ?_) (a' := ?_) #[I, I, I, I, I, I] rfl rfl (by kernel_rfl) (fun _ _ _ h => h) (Or.inl ⟨by rfl, ?_⟩) ?_ ?_;rotate_left;·intro w';go_simp;with_reducible rfl
 rotate_left;·exact zq
 refine Z0l (by kernel_rfl) ?_
 try go_wp2
 replace a1 := zA (Z8 a1.out);replace a2 := zA (Z8 a2.out);replace HB := zA (Zs HB.out);refine Z09 (n := 6) (S := fun w' => z4 w' af (.bool a7) (.slice ab a5.length ac) (.int .i64 a8) (z3 w' ag (.bool a9) (.slice ad a6.length ae) (.int .i64 aa))) (ds := []) #[O, O, O, O, O, O] (by kernel_rfl) rfl rfl (za a1 (zz a2)) (fun hHeld => ?_);generalize w55.drew = w56 at a1 a2 HB hHeld ⊢;refine take_ (i := 0) (N := some 24) (v := ?_) (a' := ?_) #[I, O, O, O, O, O] rfl rfl (by kernel_rfl) (fun _ _ _ h => h) (Or.inl ⟨by rfl, ?_⟩) hHeld ?_ ?_;rotate_left;·rintro w' ⟨s0, s1, s2, s3, s4, s5⟩;go_simp;with_reducible rfl
 rotate_left;·exact zq
 refine take_ (i := 2) (N := some 26) (v := ?_) (a' := ?_) #[I, O, I, O, O, O] rfl rfl (by kernel_rfl) (fun _ _ _ h => h) (Or.inl ⟨by rfl, ?_⟩) hHeld ?_ ?_;rotate_left;·rintro w' ⟨s0, s1, s2, s3, s4, s5⟩;go_simp;with_reducible rfl
 rotate_left;·exact zq
 refine ZL (i := 1) (N := some 25) #[I, I, I, O, O, O] rfl rfl (by kernel_rfl) (by decide) (fun K hK => ?_);refine Zz Tryd.func39 (by kernel_rfl) rfl #[.agg #[.bool a7, .slice ab a5.length ac, .int .i64 a8]] (by rfl) rfl rfl ga ?_
 with_reducible refine (Z07.calls k a7 _ _ a5 a8 au _ ?a3 ?a4 aB.out).mono ?_
 (case a3 => exact zk (Za aj.out HB.out));(case a4 => exact ak.out);rintro e w57 ⟨rfl, hb⟩;refine ⟨_, rfl, ?_⟩;replace a1 := zb a1 hb;replace a2 := zb a2 hb;replace HB := zf hb;refine hK.out _ _ (za a1 (zz a2)) (fun hHeld => ?_);clear hK K;refine Zh (a' := ?_) ?_ ?_;rotate_left;·show Act.put _ (some 25) _ = _;exact zq
 refine ZL (i := 3) (N := some 27) #[I, I, I, I, O, O] rfl rfl (by kernel_rfl) (by decide) (fun K hK => ?_);refine Zz Tryd.func39 (by kernel_rfl) rfl #[.agg #[.bool a9, .slice ad a6.length ae, .int .i64 aa]] (by rfl) rfl rfl ga ?_
 with_reducible refine (Z07.calls k a9 _ _ a6 aa av _ ?a3 ?a4 aC.out).mono ?_
 (case a3 => exact zk (Za al.out HB.out));(case a4 => exact am.out);rintro e w58 ⟨rfl, hb⟩;refine ⟨_, rfl, ?_⟩;replace a1 := zb a1 hb;replace a2 := zb a2 hb;replace HB := zf hb;refine hK.out _ _ (za a1 (zz a2)) (fun hHeld => ?_);clear hK K;refine Zh (a' := ?_) ?_ ?_;rotate_left;·show Act.put _ (some 27) _ = _;exact zq
 refine Z0D (i := 4) (N := some 7) (v := ?_) (a' := ?_) #[I, I, I, I, I, O] rfl rfl (by kernel_rfl) (fun _ _ _ h => h) (Or.inl ⟨by rfl, ?_⟩) ?_ ?_;rotate_left;·intro w';go_simp;with_reducible rfl
 rotate_left;·exact zq
 refine Z0D (i := 5) (N := some 8) (v := ?_) (a' := ?_) #[I, I, I, I, I, I] rfl rfl (by kernel_rfl) (fun _ _ _ h => h) (Or.inl ⟨by rfl, ?_⟩) ?_ ?_;rotate_left;·intro w';go_simp;with_reducible rfl
 rotate_left;·exact zq
 refine Z0l (by kernel_rfl) ?_
 try go_wp2
 go_ret;exact ⟨er, zs⟩
end Go.Proofs.YtnjfckadjklmfaaDoor.PAll
