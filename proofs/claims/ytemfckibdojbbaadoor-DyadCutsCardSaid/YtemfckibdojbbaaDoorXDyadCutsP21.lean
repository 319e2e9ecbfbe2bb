/- Printed functions, merged by a program of this session. -/
import Derived.Test.YtemfckibdojbbaaDoorXDyadCutsP0
import Derived.Test.YtemfckibdojbbaaDoorXDyadCutsP13
import Derived.Test.YtemfckibdojbbaaDoorXDyadCutsP20
import Derived.Test.YtemfckibdojbbaaDoorXDyadCutsP14
import Derived.Laws.StructEq
import Derived.Test.YtemfckibdojbbaaDoorXDyadCutsSh
namespace Go.Proofs.YtemfckibdojbbaaDoor.PAll
open Go.RowKit Go.Proofs.YtemfckibdojbbaaDoorW.PrintWords Go.Proofs.YtemfckibdojbbaaDoorW.PrintLast Go.Proofs.YtemfckibdojbbaaDoorW.PrintMore Go.Proofs.YtemfckibdojbbaaDoorW.PrintWords.Kd
attribute [local go_sem] max2_int min2_int max_two min_two max_three min_three max_four min_four   -- for this text's walks alone
set_option linter.unusedVariables false
set_option linter.unusedSimpArgs false
attribute [local go_sem] ext135 ext136
def ulpref04_Neg.f (k : Nat) (a0_0 : Bool) (l0_1 : List Int) (a0_2 : Int) : Option (Bool × List Int × Int) := (ulpref04_Form.f k (!a0_0) l0_1 a0_2).bind fun bt802 => (some (bt802.1, bt802.2.1, bt802.2.2))
set_option maxHeartbeats 8000000 in
set_option maxRecDepth 100000 in
theorem ulpref04_Neg.calls (k : Nat) (a0_0 : Bool) (A0_1 : Option Addr) (c0_1 : Nat) (l0_1 : List Int) (a0_2 : Int) (r1 : Bool) (r2 : List Int) (r3 : Int) (w : World) (hr0_1 : Kd.C (Kd.int .u64) w A0_1 l0_1.length l0_1) (hc0_1 : l0_1.length ≤ c0_1) (h : ulpref04_Neg.f k a0_0 l0_1 a0_2 = some (r1, r2, r3)) :
  Calls Tryd.prog 29 #[.agg #[.bool a0_0, .slice A0_1 l0_1.length c0_1, .int .i64 a0_2]] w fun e w' => ∃ v1_ : Value, e = .returned (.agg #[.bool r1, v1_, .int .i64 r3]) ∧ Kd.R (Kd.int .u64) 43 w' w.heap.size (fun _ => True) v1_ r2 ∧ Below w.heap.size w w' := by
 have hu25 := Tryd.underlying25
 have HR0_1 := zA hr0_1
 have HC0_1 := zA hc0_1
 clear hr0_1 hc0_1
 have HB := zA (Below.refl w.heap.size w)
 have H : ((ulpref04_Form.f k (!a0_0) l0_1 a0_2).bind fun bt802 => (some (bt802.1, bt802.2.1, bt802.2.2))) = some (r1, r2, r3) := h
 clear h
 obtain ⟨⟨t802, t803, t806⟩, A2, H⟩ := zh H
 (try dsimp only at H)
 simp only [Option.some.injEq, Prod.mk.injEq] at H
 obtain ⟨rfl, rfl, rfl⟩ := H
 go_enter Tryd.func29, Tryd.ntmps29
 go_wp2_with (first | ((with_reducible refine zD 1 rfl ?_); refine zn (N := 1) (cs := #[.bool a0_0, .slice A0_1 l0_1.length c0_1, .int .i64 a0_2]) (t := 25) rfl rfl ?_; intro gb800 hg w3 hbox hb; have BK800 := zA (hbox); have GW800 := zw hg; replace HB := ze hb; clear hb hbox hg) | ((with_reducible refine zD 2 rfl ?_); refine zn (N := 2) (cs := #[.bool false, .slice none 0 0, .int .i64 0]) (t := 25) rfl rfl ?_; intro gb801 hg w4 hbox hb; have BK801 := zA (hbox); have GW801 := zx hg; replace HB := zf hb; have NB800_801 := zl BK800 hg; have NB801_800 := zg BK800 hg; replace BK800 := zb BK800 hb; clear hb hbox hg; have hnb5 := NB800_801.out; have hnc5 := NB801_800.out; obtain ⟨_, _, _, _, _, _⟩ := zc BK800) | ((with_reducible refine zG 76 rfl ?_); refine zL (some 10) rfl rfl Tryd.func76 #[.bool (!a0_0), .slice A0_1 l0_1.length c0_1, .int .i64 a0_2] rfl ?_; (with_reducible refine (ulpref04_Form.calls k (!a0_0) _ _ l0_1 a0_2 t802 t803 t806 _ ?side1 ?side2 A2.out).mono ?_); (case side1 => exact zk (C_below HR0_1.out HB.out)); (case side2 => exact HC0_1.out); rintro e w7 ⟨v804, rfl, ho0, hb⟩; refine ⟨_, rfl, ?_⟩; have HO805 := zA (R_lower ho0 (below_size zs)); replace BK800 := zb BK800 hb; replace BK801 := zb BK801 hb; replace HB := zf hb; (try clear ho0); obtain ⟨hcz8_0, hcz8_1, hcz8_2, hfz8_0, hfz8_1, hfz8_2⟩ := zc BK801; obtain ⟨Ao9, co9, eo9⟩ := R_slice HO805.out; subst eo9))
 refine bodyPost_ret (results_cell_row rfl _ _ gb801 25 #[.bool t802, .slice Ao9 t803.length co9, .int .i64 t806] (0, 0) _ rfl (zy BK801) Tryd.underlying25 rfl (by kernel_rfl)) rfl ?_
 exact ⟨_, er, ru (R_mono (zr gb801 (R_types HO805.out BK801.out (by decide)) (fun _ hk => hk.2) _ _ _) (fun _ hk => trivial)), zs⟩
def ulpref04_Less.f (k : Nat) (a0_0 : Bool) (l0_1 : List Int) (a0_2 : Int) (a1_0 : Bool) (l1_1 : List Int) (a1_2 : Int) : Option (Bool × List Int × Int) := (ulpref04_Neg.f k a1_0 l1_1 a1_2).bind fun bt928 => ((ulpref04_Plus.f k a0_0 l0_1 a0_2 bt928.1 bt928.2.1 bt928.2.2).bind fun bt933 => (some (bt933.1, bt933.2.1, bt933.2.2)))
set_option maxHeartbeats 8000000 in
set_option maxRecDepth 100000 in
theorem ulpref04_Less.calls (k : Nat) (a0_0 : Bool) (A0_1 : Option Addr) (c0_1 : Nat) (l0_1 : List Int) (a0_2 : Int) (a1_0 : Bool) (A1_1 : Option Addr) (c1_1 : Nat) (l1_1 : List Int) (a1_2 : Int) (r1 : Bool) (r2 : List Int) (r3 : Int) (w : World) (hr0_1 : Kd.C (Kd.int .u64) w A0_1 l0_1.length l0_1) (hc0_1 : l0_1.length ≤ c0_1) (hr1_1 : Kd.C (Kd.int .u64) w A1_1 l1_1.length l1_1) (hc1_1 : l1_1.length ≤ c1_1) (h : ulpref04_Less.f k a0_0 l0_1 a0_2 a1_0 l1_1 a1_2 = some (r1, r2, r3)) :
  Calls Tryd.prog 103 #[.agg #[.bool a0_0, .slice A0_1 l0_1.length c0_1, .int .i64 a0_2], .agg #[.bool a1_0, .slice A1_1 l1_1.length c1_1, .int .i64 a1_2]] w fun e w' => ∃ v1_ : Value, e = .returned (.agg #[.bool r1, v1_, .int .i64 r3]) ∧ Kd.R (Kd.int .u64) 43 w' w.heap.size (fun _ => True) v1_ r2 ∧ Below w.heap.size w w' := by
 have hu25 := Tryd.underlying25
 have HR0_1 := zA hr0_1
 have HC0_1 := zA hc0_1
 clear hr0_1 hc0_1
 have HR1_1 := zA hr1_1
 have HC1_1 := zA hc1_1
 clear hr1_1 hc1_1
 have HB := zA (Below.refl w.heap.size w)
 have H : ((ulpref04_Neg.f k a1_0 l1_1 a1_2).bind fun bt928 => ((ulpref04_Plus.f k a0_0 l0_1 a0_2 bt928.1 bt928.2.1 bt928.2.2).bind fun bt933 => (some (bt933.1, bt933.2.1, bt933.2.2)))) = some (r1, r2, r3) := h
 clear h
 obtain ⟨⟨t928, t929, t932⟩, A3, H⟩ := zh H
 (try dsimp only at H)
 obtain ⟨⟨t933, t934, t937⟩, A4, H⟩ := zh H
 (try dsimp only at H)
 simp only [Option.some.injEq, Prod.mk.injEq] at H
 obtain ⟨rfl, rfl, rfl⟩ := H
 go_enter Tryd.func103, Tryd.ntmps103
 try go_wp2_with (first | ((with_reducible refine zD 2 rfl ?_); refine zn (N := 2) (cs := #[.bool a0_0, .slice A0_1 l0_1.length c0_1, .int .i64 a0_2]) (t := 25) rfl rfl ?_; intro gb925 hg w5 hbox hb; have BK925 := zA (hbox); have GW925 := zw hg; replace HB := ze hb; clear hb hbox hg) | ((with_reducible refine zD 3 rfl ?_); refine zn (N := 3) (cs := #[.bool a1_0, .slice A1_1 l1_1.length c1_1, .int .i64 a1_2]) (t := 25) rfl rfl ?_; intro gb926 hg w6 hbox hb; have BK926 := zA (hbox); have GW926 := zx hg; replace HB := zf hb; have NB925_926 := zl BK925 hg; have NB926_925 := zg BK925 hg; replace BK925 := zb BK925 hb; clear hb hbox hg) | ((with_reducible refine zD 4 rfl ?_); refine zn (N := 4) (cs := #[.bool false, .slice none 0 0, .int .i64 0]) (t := 25) rfl rfl ?_; intro gb927 hg w7 hbox hb; have BK927 := zA (hbox); have GW927 := zx hg; replace HB := zf hb; have NB925_927 := zl BK925 hg; have NB927_925 := zg BK925 hg; replace BK925 := zb BK925 hb; have NB926_927 := zl BK926 hg; have NB927_926 := zg BK926 hg; replace BK926 := zb BK926 hb; clear hb hbox hg))
 replace BK925 := zA (blk_drew BK925.out)
 replace BK926 := zA (blk_drew BK926.out)
 replace BK927 := zA (blk_drew BK927.out)
 replace HB := zA (below_drew1 HB.out)
 refine start_ (n := 5) (S := fun w' => z4 w' gb925 (.bool a0_0) (.slice A0_1 l0_1.length c0_1) (.int .i64 a0_2) (z3 w' gb926 (.bool a1_0) (.slice A1_1 l1_1.length c1_1) (.int .i64 a1_2))) (ds := []) #[false, false, false, false, false] (by kernel_rfl) rfl rfl (za BK925 (zz BK926)) (fun hHeld => ?_)
 generalize w7.drew = w8 at BK925 BK926 BK927 HB hHeld ⊢
 refine take_ (i := 0) (N := some 5) (v := ?_) (a' := ?_) #[true, false, false, false, false] rfl rfl (by kernel_rfl) (fun _ _ _ h => h) (Or.inl ⟨by rfl, ?_⟩) hHeld ?_ ?_
 rotate_left
 ·rintro w' ⟨s0, s1, s2, s3, s4, s5⟩
  go_simp
  with_reducible rfl
 rotate_left
 ·exact zq
 refine take_ (i := 1) (N := some 6) (v := ?_) (a' := ?_) #[true, true, false, false, false] rfl rfl (by kernel_rfl) (fun _ _ _ h => h) (Or.inl ⟨by rfl, ?_⟩) hHeld ?_ ?_
 rotate_left
 ·rintro w' ⟨s0, s1, s2, s3, s4, s5⟩
  go_simp
  with_reducible rfl
 rotate_left
 ·exact zq
 refine one_ (i := 2) (N := some 7) #[true, true, true, false, false] rfl rfl (by kernel_rfl) (by decide) (fun K hK => ?_)
 refine goes_ Tryd.func29 (by kernel_rfl) rfl #[.agg #[.bool a1_0, .slice A1_1 l1_1.length c1_1, .int .i64 a1_2]] (by rfl) rfl rfl ga ?_
 with_reducible refine (ulpref04_Neg.calls k a1_0 _ _ l1_1 a1_2 t928 t929 t932 _ ?side1 ?side2 A3.out).mono ?_
 (case side1 => exact zk (C_below HR1_1.out HB.out))
 (case side2 => exact HC1_1.out)
 rintro e w9 ⟨v930, rfl, ho0, hb⟩
 refine ⟨_, rfl, ?_⟩
 have HO931 := zA (R_lower ho0 (below_size zs))
 replace BK925 := zb BK925 hb
 replace BK926 := zb BK926 hb
 replace BK927 := zb BK927 hb
 replace HB := zf hb
 (try clear hb)
 (try clear hb2)
 (try clear hk)
 (try clear hi)
 (try clear ho0)
 obtain ⟨Ao10, co10, eo10⟩ := R_slice HO931.out
 (first | subst eo10 | (injection eo10 with f1_ f2_ f3_; have f4_ := f1_.symm; have f5_ := f3_.symm; clear f1_ f2_ f3_; subst f4_; subst f5_))
 refine hK.out _ _ (za BK925 (zz BK926)) (fun hHeld => ?_)
 clear hK K
 refine norm_ (a' := ?_) ?_ ?_
 rotate_left
 ·show Act.put _ (some 7) _ = _
  simp only [Act.put, List.setIfInBounds_toArray, List.set_cons_zero, List.set_cons_succ, i64_w, i32_w]
  rfl
 refine one_ (i := 3) (N := some 8) #[true, true, true, true, false] rfl rfl (by kernel_rfl) (by decide) (fun K hK => ?_)
 refine goes_ Tryd.func68 (by kernel_rfl) rfl #[.agg #[.bool a0_0, .slice A0_1 l0_1.length c0_1, .int .i64 a0_2], .agg #[.bool t928, .slice Ao10 t929.length co10, .int .i64 t932]] (by rfl) rfl rfl ga ?_
 with_reducible refine (ulpref04_Plus.calls k a0_0 _ _ l0_1 a0_2 t928 _ _ t929 t932 t933 t934 t937 _ ?side1 ?side2 ?side3 ?side4 A4.out).mono ?_
 (case side1 => exact zk (C_below HR0_1.out HB.out))
 (case side2 => exact HC0_1.out)
 (case side3 => exact zk (R_reads' HO931.out).2.2)
 (case side4 => exact (R_reads' HO931.out).2.1)
 rintro e w11 ⟨v935, rfl, ho0, hb⟩
 refine ⟨_, rfl, ?_⟩
 have HO936 := zA (R_lower (R_new' ho0 (R_lt (ru HO931.out))) (below_size zs))
 replace HO931 := zA (R_elder' (ru HO931.out) (R_base ho0) hb)
 replace BK925 := zb BK925 hb
 replace BK926 := zb BK926 hb
 replace BK927 := zb BK927 hb
 replace HB := zf hb
 (try clear hb)
 (try clear hb2)
 (try clear hk)
 (try clear hi)
 (try clear ho0)
 obtain ⟨Ao13, co13, eo13⟩ := R_slice HO936.out
 (first | subst eo13 | (injection eo13 with f1_ f2_ f3_; have f4_ := f1_.symm; have f5_ := f3_.symm; clear f1_ f2_ f3_; subst f4_; subst f5_))
 refine hK.out _ _ (za BK925 (zz BK926)) (fun hHeld => ?_)
 clear hK K
 refine norm_ (a' := ?_) ?_ ?_
 rotate_left
 ·show Act.put _ (some 8) _ = _
  simp only [Act.put, List.setIfInBounds_toArray, List.set_cons_zero, List.set_cons_succ, i64_w, i32_w]
  rfl
 refine one_ (i := 4) (N := none) #[true, true, true, true, true] rfl rfl (by kernel_rfl) (by decide) (fun K hK => ?_)
 have hs12 : w11.cell? ⟨gb927, 0, none⟩ = some (.bool false) := (blk_cell BK927.out 0).trans rfl
 have hfs12 := blk_frozen BK927.out 0
 have hns12_0 := NB925_927.out
 have hns12_1 := NB926_927.out
 have hms12_0 := NB927_925.out
 have hms12_1 := NB927_926.out
 have hs14 : w11.cell? ⟨gb927, 1, none⟩ = some (.slice none 0 0) := (blk_cell BK927.out 1).trans rfl
 have hfs14 := blk_frozen BK927.out 1
 have hns14_0 := NB925_927.out
 have hns14_1 := NB926_927.out
 have hms14_0 := NB927_925.out
 have hms14_1 := NB927_926.out
 have hs15 : w11.cell? ⟨gb927, 2, none⟩ = some (.int .i64 0) := (blk_cell BK927.out 2).trans rfl
 have hfs15 := blk_frozen BK927.out 2
 have hns15_0 := NB925_927.out
 have hns15_1 := NB926_927.out
 have hms15_0 := NB927_925.out
 have hms15_1 := NB927_926.out
 refine skip_ (w1 := ?_) (by rfl) rfl ?_ ?_
 rotate_left
 ·go_simp
  rfl
 refine hK.out _ _ ⟨((cell_far (p := ⟨gb927, _, none⟩) NB925_927.out _).trans (((cell_far (p := ⟨gb927, _, none⟩) NB925_927.out _).trans (((cell_far (p := ⟨gb927, _, none⟩) NB925_927.out _).trans (hHeld.1)))))), ((cell_far (p := ⟨gb927, _, none⟩) NB925_927.out _).trans (((cell_far (p := ⟨gb927, _, none⟩) NB925_927.out _).trans (((cell_far (p := ⟨gb927, _, none⟩) NB925_927.out _).trans (hHeld.2.1)))))), ((cell_far (p := ⟨gb927, _, none⟩) NB925_927.out _).trans (((cell_far (p := ⟨gb927, _, none⟩) NB925_927.out _).trans (((cell_far (p := ⟨gb927, _, none⟩) NB925_927.out _).trans (hHeld.2.2.1)))))), ((cell_far (p := ⟨gb927, _, none⟩) NB926_927.out _).trans (((cell_far (p := ⟨gb927, _, none⟩) NB926_927.out _).trans (((cell_far (p := ⟨gb927, _, none⟩) NB926_927.out _).trans (hHeld.2.2.2.1)))))), ((cell_far (p := ⟨gb927, _, none⟩) NB926_927.out _).trans (((cell_far (p := ⟨gb927, _, none⟩) NB926_927.out _).trans (((cell_far (p := ⟨gb927, _, none⟩) NB926_927.out _).trans (hHeld.2.2.2.2.1)))))), ((cell_far (p := ⟨gb927, _, none⟩) NB926_927.out _).trans (((cell_far (p := ⟨gb927, _, none⟩) NB926_927.out _).trans (((cell_far (p := ⟨gb927, _, none⟩) NB926_927.out _).trans (hHeld.2.2.2.2.2))))))⟩ (fun hHeld => ?_)
 clear hK K
 refine done_ (by kernel_rfl) ?_
 try go_wp2
 refine bodyPost_ret (results_cell_row rfl _ _ gb927 25 #[.bool t933, .slice Ao13 t934.length co13, .int .i64 t937] (0, 0) _ rfl (zy BK927) Tryd.underlying25 rfl (by kernel_rfl)) rfl ?_
 exact ⟨_, er, ru (R_mono (zr gb927 (R_types HO936.out BK927.out (by decide)) (fun _ hk => hk.2) _ _ _) (fun _ hk => trivial)), zs⟩
def ulpref04_Whole.j0 : Nat → List Int → Bool → Bool → List Int → Int → Option (Bool × List Int × Int)
 | 0, _, _, _, _, _ => none
 | k + 1, x4, x25, x1278000, x1278001, x1278002 => if x25 = true then ((ulpref03_Of.f k 1).bind fun t1282 => ((ulpref03_Add.f k x4 t1282).bind fun t1285 => ((ulpref04_Form.f k x1278000 t1285 0).bind fun bt1288 => (some (bt1288.1, bt1288.2.1, bt1288.2.2))))) else ((ulpref04_Form.f k x1278000 x4 0).bind fun bt1293 => (some (bt1293.1, bt1293.2.1, bt1293.2.2)))
def ulpref04_Whole.f (k : Nat) (a0_0 : Bool) (l0_1 : List Int) (a0_2 : Int) : Option (Bool × List Int × Int) := (ulpref04_One.f k a0_0 l0_1 a0_2).bind fun bt1272 => (if bt1272.2.2 ≥ 0 then (some (bt1272.1, bt1272.2.1, bt1272.2.2)) else ((ulpref03_Shr.f k bt1272.2.1 (wrap64 (-bt1272.2.2))).bind fun bt1278 => (if bt1278.2 = true then (ulpref04_Whole.j0 k bt1278.1 bt1272.1 bt1272.1 bt1272.2.1 bt1272.2.2) else (ulpref04_Whole.j0 k bt1278.1 false bt1272.1 bt1272.2.1 bt1272.2.2))))
set_option maxHeartbeats 8000000 in
set_option maxRecDepth 100000 in
theorem ulpref04_Whole.calls (k : Nat) (a0_0 : Bool) (A0_1 : Option Addr) (c0_1 : Nat) (l0_1 : List Int) (a0_2 : Int) (r1 : Bool) (r2 : List Int) (r3 : Int) (w : World) (hr0_1 : Kd.C (Kd.int .u64) w A0_1 l0_1.length l0_1) (hc0_1 : l0_1.length ≤ c0_1) (h : ulpref04_Whole.f k a0_0 l0_1 a0_2 = some (r1, r2, r3)) :
  Calls Tryd.prog 102 #[.agg #[.bool a0_0, .slice A0_1 l0_1.length c0_1, .int .i64 a0_2]] w fun e w' => ∃ v1_ : Value, e = .returned (.agg #[.bool r1, v1_, .int .i64 r3]) ∧ Kd.R (Kd.int .u64) 43 w' w.heap.size (fun _ => True) v1_ r2 ∧ Below w.heap.size w w' := by
 have hu25 := Tryd.underlying25
 have HR0_1 := zA hr0_1
 have HC0_1 := zA hc0_1
 clear hr0_1 hc0_1
 have HB := zA (Below.refl w.heap.size w)
 have H : ((ulpref04_One.f k a0_0 l0_1 a0_2).bind fun bt1272 => (if bt1272.2.2 ≥ 0 then (some (bt1272.1, bt1272.2.1, bt1272.2.2)) else ((ulpref03_Shr.f k bt1272.2.1 (wrap64 (-bt1272.2.2))).bind fun bt1278 => (if bt1278.2 = true then (ulpref04_Whole.j0 k bt1278.1 bt1272.1 bt1272.1 bt1272.2.1 bt1272.2.2) else (ulpref04_Whole.j0 k bt1278.1 false bt1272.1 bt1272.2.1 bt1272.2.2))))) = some (r1, r2, r3) := h
 clear h
 obtain ⟨⟨t1272, t1273, t1276⟩, A2, H⟩ := zh H
 (try dsimp only at H)
 by_cases c3 : t1276 ≥ 0
 ·rw [if_pos c3] at H
  have c3b0 := decide_eq_true c3
  clear c3
  simp only [Option.some.injEq, Prod.mk.injEq] at H
  obtain ⟨rfl, rfl, rfl⟩ := H
  go_enter Tryd.func102, Tryd.ntmps102
  go_wp2_with (first | ((with_reducible refine zD 1 rfl ?_); refine zn (N := 1) (cs := #[.bool a0_0, .slice A0_1 l0_1.length c0_1, .int .i64 a0_2]) (t := 25) rfl rfl ?_; intro gb1270 hg w4 hbox hb; have BK1270 := zA (hbox); have GW1270 := zw hg; replace HB := ze hb; clear hb hbox hg) | ((with_reducible refine zD 2 rfl ?_); refine zn (N := 2) (cs := #[.bool false, .slice none 0 0, .int .i64 0]) (t := 25) rfl rfl ?_; intro gb1271 hg w5 hbox hb; have BK1271 := zA (hbox); have GW1271 := zx hg; replace HB := zf hb; have NB1270_1271 := zl BK1270 hg; have NB1271_1270 := zg BK1270 hg; replace BK1270 := zb BK1270 hb; clear hb hbox hg; have hnb6 := NB1270_1271.out; have hnc6 := NB1271_1270.out; obtain ⟨_, _, _, _, _, _⟩ := zc BK1270) | ((with_reducible refine zG 69 rfl ?_); refine zL (some 7) rfl rfl Tryd.func69 #[.agg #[.bool a0_0, .slice A0_1 l0_1.length c0_1, .int .i64 a0_2]] rfl ?_; (with_reducible refine (ulpref04_One.calls k a0_0 _ _ l0_1 a0_2 t1272 t1273 t1276 _ ?side1 ?side2 A2.out).mono ?_); (case side1 => exact zk (C_below HR0_1.out HB.out)); (case side2 => exact HC0_1.out); rintro e w8 ⟨v1274, rfl, ho0, hb⟩; refine ⟨_, rfl, ?_⟩; have HO1275 := zA (R_lower ho0 (below_size zs)); replace BK1270 := zb BK1270 hb; replace BK1271 := zb BK1271 hb; replace HB := zf hb; (try clear ho0)) | ((with_reducible refine zD 3 rfl ?_); refine zn (N := 3) (cs := #[.bool false, .slice none 0 0, .int .i64 0]) (t := 25) rfl rfl ?_; intro gb1277 hg w9 hbox hb; replace HO1275 := zA (R_below (ru HO1275.out) hb); have BK1277 := zA (hbox); have GW1277 := zx hg; replace HB := zf hb; have NB1270_1277 := zl BK1270 hg; have NB1277_1270 := zg BK1270 hg; replace BK1270 := zb BK1270 hb; have NB1271_1277 := zl BK1271 hg; have NB1277_1271 := zg BK1271 hg; replace BK1271 := zb BK1271 hb; clear hb hbox hg; have hnb10 := NB1277_1270.out; have hnc10 := NB1270_1277.out; have hnb11 := NB1277_1271.out; have hnc11 := NB1271_1277.out; obtain ⟨hcz12_0, hcz12_1, hcz12_2, hfz12_0, hfz12_1, hfz12_2⟩ := zc BK1277; obtain ⟨Ao13, co13, eo13⟩ := R_slice HO1275.out; subst eo13; obtain ⟨hcz14_0, hcz14_1, hcz14_2, hfz14_0, hfz14_1, hfz14_2⟩ := zc BK1271))
  refine bodyPost_ret (results_cell_row rfl _ _ gb1271 25 #[.bool t1272, .slice Ao13 t1273.length co13, .int .i64 t1276] (0, 0) _ rfl (by (with_reducible repeat (first | refine blk_drewN ?_ _ | refine blk_drew ?_ | refine blk_alloc ?_ _)); refine blk_put (cs := #[.bool t1272, .slice Ao13 t1273.length co13, .int .i64 0]) ?_ 2 _ rfl; refine blk_put (cs := #[.bool t1272, .slice none 0 0, .int .i64 0]) ?_ 1 _ rfl; refine blk_put (cs := #[.bool false, .slice none 0 0, .int .i64 0]) ?_ 0 _ rfl; refine blk_far ?_ NB1271_1277.out _; refine blk_far ?_ NB1271_1277.out _; refine blk_far ?_ NB1271_1277.out _; exact BK1271.out) Tryd.underlying25 rfl (by kernel_rfl)) rfl ?_
  exact ⟨_, er, ru (R_mono (zr gb1271 (zr gb1277 (R_types (R_types HO1275.out BK1277.out (by decide)) BK1271.out (by decide)) (fun _ hk => hk.1.2) _ _ _) (fun _ hk => hk.2) _ _ _) (fun _ hk => trivial)), zs⟩
 rw [if_neg c3] at H
 have c3b0 := decide_eq_false c3
 clear c3
 obtain ⟨⟨t1278, t1279⟩, A15, H⟩ := zh H
 (try dsimp only at H)
 have HC16 := zA H
 clear H
 go_enter Tryd.func102, Tryd.ntmps102
 go_upto_region 5 with (first | ((with_reducible refine zD 1 rfl ?_); refine zn (N := 1) (cs := #[.bool a0_0, .slice A0_1 l0_1.length c0_1, .int .i64 a0_2]) (t := 25) rfl rfl ?_; intro gb1270 hg w17 hbox hb; have BK1270 := zA (hbox); have GW1270 := zw hg; replace HB := ze hb; clear hb hbox hg) | ((with_reducible refine zD 2 rfl ?_); refine zn (N := 2) (cs := #[.bool false, .slice none 0 0, .int .i64 0]) (t := 25) rfl rfl ?_; intro gb1271 hg w18 hbox hb; have BK1271 := zA (hbox); have GW1271 := zx hg; replace HB := zf hb; have NB1270_1271 := zl BK1270 hg; have NB1271_1270 := zg BK1270 hg; replace BK1270 := zb BK1270 hb; clear hb hbox hg; have hnb19 := NB1270_1271.out; have hnc19 := NB1271_1270.out; obtain ⟨_, _, _, _, _, _⟩ := zc BK1270) | ((with_reducible refine zG 69 rfl ?_); refine zL (some 7) rfl rfl Tryd.func69 #[.agg #[.bool a0_0, .slice A0_1 l0_1.length c0_1, .int .i64 a0_2]] rfl ?_; (with_reducible refine (ulpref04_One.calls k a0_0 _ _ l0_1 a0_2 t1272 t1273 t1276 _ ?side1 ?side2 A2.out).mono ?_); (case side1 => exact zk (C_below HR0_1.out HB.out)); (case side2 => exact HC0_1.out); rintro e w21 ⟨v1274, rfl, ho0, hb⟩; refine ⟨_, rfl, ?_⟩; have HO1275 := zA (R_lower ho0 (below_size zs)); replace BK1270 := zb BK1270 hb; replace BK1271 := zb BK1271 hb; replace HB := zf hb; (try clear ho0)) | ((with_reducible refine zD 3 rfl ?_); refine zn (N := 3) (cs := #[.bool false, .slice none 0 0, .int .i64 0]) (t := 25) rfl rfl ?_; intro gb1277 hg w22 hbox hb; replace HO1275 := zA (R_below (ru HO1275.out) hb); have BK1277 := zA (hbox); have GW1277 := zx hg; replace HB := zf hb; have NB1270_1277 := zl BK1270 hg; have NB1277_1270 := zg BK1270 hg; replace BK1270 := zb BK1270 hb; have NB1271_1277 := zl BK1271 hg; have NB1277_1271 := zg BK1271 hg; replace BK1271 := zb BK1271 hb; clear hb hbox hg; have hnb23 := NB1277_1270.out; have hnc23 := NB1270_1277.out; have hnb24 := NB1277_1271.out; have hnc24 := NB1271_1277.out; obtain ⟨hcz25_0, hcz25_1, hcz25_2, hfz25_0, hfz25_1, hfz25_2⟩ := zc BK1277; obtain ⟨Ao26, co26, eo26⟩ := R_slice HO1275.out; subst eo26) | ((with_reducible refine zG 125 rfl ?_); refine zL (some 18) rfl rfl Tryd.func125 #[.slice Ao26 t1273.length co26, .int .i64 (wrap64 (-t1276))] rfl ?_; (with_reducible refine (ulpref03_Shr.calls k _ _ t1273 (wrap64 (-t1276)) t1278 t1279 _ ?side1 ?side2 A15.out).mono ?_); (case side1 => refine (R_reads' (e := 43) (base := w.heap.size) (ok := fun k_ => True) (n := t1273.length) (c := co26) ?_).2.2; exact (ru (R_mono (zr gb1277 (R_types HO1275.out BK1277.out (by decide)) (fun _ hk => hk.2) _ _ _) (fun _ h_ => h_.1)))); (case side2 => exact (R_reads' HO1275.out).2.1); rintro e w27 ⟨v1280, rfl, ho0, hb⟩; refine ⟨_, rfl, ?_⟩; have HO1281 := zA (R_lower (R_new' ho0 (R_lt (ru (R_mono (zr gb1277 (R_types HO1275.out BK1277.out (by decide)) (fun _ hk => hk.2) _ _ _) (fun _ h_ => h_.1))))) (below_size zs)); replace HO1275 := zA (R_elder' (ru (R_mono (zr gb1277 (R_types HO1275.out BK1277.out (by decide)) (fun _ hk => hk.2) _ _ _) (fun _ h_ => h_.1))) (R_base ho0) hb); replace BK1270 := zF BK1270 hb; replace BK1271 := zF BK1271 hb; replace BK1277 := zt BK1277 hb; replace HB := zf hb; (try clear hk); (try clear ho0)))
 (try simp only [Act.put, List.setIfInBounds_toArray, List.set_cons_zero, List.set_cons_succ])
 go_cut [25] (fun v25 wc => ∃ (kq : Nat) (x25_15 : Bool), v25 = .bool x25_15 ∧ Aside0 (ulpref04_Whole.j0 kq t1278 x25_15 t1272 t1273 t1276 = some (r1, r2, r3)) ∧ Aside0 (kq ≤ k) ∧ Aside0 (Kd.R (Kd.int .u64) 43 wc w.heap.size (fun k_ => some k_ ≠ ((.slice Ao26 t1273.length co26) : Value).ownBlock) v1280 t1278) ∧ Aside0 (Kd.R (Kd.int .u64) 43 wc w.heap.size (fun k_ => some k_ ≠ (v1280 : Value).ownBlock) (.slice Ao26 t1273.length co26) t1273) ∧ Aside0 (wc.heap[gb1270]? = some (.cells #[.bool a0_0, (.slice A0_1 l0_1.length c0_1), .int .i64 a0_2] 25 (0, 0))) ∧ Aside0 (wc.heap[gb1271]? = some (.cells #[.bool false, (.slice none 0 0), .int .i64 0] 25 (0, 0))) ∧ Aside0 (wc.heap[gb1277]? = some (.cells #[.bool t1272, (.slice Ao26 t1273.length co26), .int .i64 t1276] 25 (0, 0))) ∧ Aside0 (Below w.heap.size w wc))
 case first =>
  have H := HC16.out
  clear HC16
  by_cases c28 : t1279 = true
  ·subst c28
   rw [if_pos rfl] at H
   have H' := zA H
   clear H
   have hnb29 := NB1277_1270.out
   have hnc29 := NB1270_1277.out
   have hnb30 := NB1277_1271.out
   have hnc30 := NB1271_1277.out
   obtain ⟨_, _, _, _, _, _⟩ := zc BK1277
   go_wp2
   go_meet
   case rel => exact ⟨_, (t1272), zi, H', ⟨by first | omega | exact Nat.le_refl _⟩, ⟨ru (R_mono HO1281.out (fun _ hk => hk.2))⟩, ⟨ru (R_mono HO1275.out (fun _ hk => hk.2))⟩, ⟨zu BK1270⟩, ⟨zu BK1271⟩, ⟨zu BK1277⟩, ⟨zs⟩⟩
  replace c28 := Bool.eq_false_iff.mpr c28
  subst c28
  rw [if_neg (show ¬ (false = true) by decide)] at H
  have H' := zA H
  clear H
  go_wp2
  go_meet
  case rel => exact ⟨_, (false), zi, H', ⟨by first | omega | exact Nat.le_refl _⟩, ⟨ru (R_mono HO1281.out (fun _ hk => hk.2))⟩, ⟨ru (R_mono HO1275.out (fun _ hk => hk.2))⟩, ⟨zu BK1270⟩, ⟨zu BK1271⟩, ⟨zu BK1277⟩, ⟨zs⟩⟩
 case rest =>
  clear HC16
  try clear c3
  try clear c3b0
  try clear c28
  try clear hcz12_0 hcz12_1 hcz12_2 hfz12_0 hfz12_1 hfz12_2
  try clear hcz14_0 hcz14_1 hcz14_2 hfz14_0 hfz14_1 hfz14_2
  try clear hcz25_0 hcz25_1 hcz25_2 hfz25_0 hfz25_1 hfz25_2
  obtain ⟨kq, x25_15, rfl, HA, HJ15, HO_4, HO_1278001, BK1270, BK1271, BK1277, HB⟩ := hcut
  cases kq with
  | zero => exact absurd HA.out (by simp [ulpref04_Whole.j0])
  | succ kj15 =>
   have H := HA.out
   clear HA
   simp only [ulpref04_Whole.j0] at H
   by_cases c32 : x25_15 = true
   ·subst c32
    rw [if_pos rfl] at H
    obtain ⟨t1282, A33, H⟩ := zh H
    obtain ⟨t1285, A34, H⟩ := zh H
    obtain ⟨⟨t1288, t1289, t1292⟩, A35, H⟩ := zh H
    (try dsimp only at H)
    simp only [Option.some.injEq, Prod.mk.injEq] at H
    obtain ⟨rfl, rfl, rfl⟩ := H
    go_wp2_with (first | ((with_reducible refine zG 94 rfl ?_); refine zL (some 27) rfl rfl Tryd.func94 #[.int .u64 1] rfl ?_; (with_reducible refine (ulpref03_Of.calls kj15 1 t1282 _ A33.out).mono ?_); rintro e w36 ⟨v1283, rfl, ho0, hb⟩; refine ⟨_, rfl, ?_⟩; have HO1284 := zA (R_lower (R_new' (R_new' ho0 (R_lt (ru HO_4.out))) (R_lt (ru HO_1278001.out))) (below_size zs)); replace HO_4 := zA (R_elder' (ru HO_4.out) (R_base ho0) hb); replace HO_1278001 := zA (R_elder' (ru HO_1278001.out) (R_base ho0) hb); replace BK1270 := zb BK1270 hb; replace BK1271 := zb BK1271 hb; replace BK1277 := zb BK1277 hb; replace HB := zf hb; (try clear ho0); obtain ⟨Ao37, co37, eo37⟩ := R_slice HO_4.out; subst eo37; obtain ⟨Ao38, co38, eo38⟩ := R_slice HO1284.out; subst eo38) | ((with_reducible refine zG 119 rfl ?_); refine zL (some 28) rfl rfl Tryd.func119 #[.slice Ao37 t1278.length co37, .slice Ao38 t1282.length co38] rfl ?_; (with_reducible refine (ulpref03_Add.calls kj15 _ _ t1278 _ _ t1282 t1285 _ ?side1 ?side2 ?side3 ?side4 A34.out).mono ?_); (case side1 => exact zk (R_reads' HO_4.out).2.2); (case side2 => exact (R_reads' HO_4.out).2.1); (case side3 => exact zk (R_reads' HO1284.out).2.2); (case side4 => exact (R_reads' HO1284.out).2.1); rintro e w39 ⟨v1286, rfl, ho0, hb⟩; refine ⟨_, rfl, ?_⟩; have HO1287 := zA (R_lower (R_new' (R_new' (R_new' ho0 (R_lt (ru HO_4.out))) (R_lt (ru HO_1278001.out))) (R_lt (ru HO1284.out))) (below_size zs)); replace HO_4 := zA (R_elder' (ru HO_4.out) (R_base ho0) hb); replace HO_1278001 := zA (R_elder' (ru HO_1278001.out) (R_base ho0) hb); replace HO1284 := zA (R_elder' (ru HO1284.out) (R_base ho0) hb); replace BK1270 := zb BK1270 hb; replace BK1271 := zb BK1271 hb; replace BK1277 := zb BK1277 hb; replace HB := zf hb; (try clear ho0); have hnb40 := NB1277_1270.out; have hnc40 := NB1270_1277.out; have hnb41 := NB1277_1271.out; have hnc41 := NB1271_1277.out; obtain ⟨hcz42_0, hcz42_1, hcz42_2, hfz42_0, hfz42_1, hfz42_2⟩ := zc BK1277; obtain ⟨Ao43, co43, eo43⟩ := R_slice HO1287.out; subst eo43) | ((with_reducible refine zG 76 rfl ?_); refine zL (some 32) rfl rfl Tryd.func76 #[.bool t1272, .slice Ao43 t1285.length co43, .int .i64 0] rfl ?_; (with_reducible refine (ulpref04_Form.calls kj15 t1272 _ _ t1285 0 t1288 t1289 t1292 _ ?side1 ?side2 A35.out).mono ?_); (case side1 => exact zk (R_reads' HO1287.out).2.2); (case side2 => exact (R_reads' HO1287.out).2.1); rintro e w44 ⟨v1290, rfl, ho0, hb⟩; refine ⟨_, rfl, ?_⟩; have HO1291 := zA (R_lower (R_new' (R_new' (R_new' (R_new' ho0 (R_lt (ru HO_4.out))) (R_lt (ru HO_1278001.out))) (R_lt (ru HO1284.out))) (R_lt (ru HO1287.out))) (below_size zs)); replace HO_4 := zA (R_elder' (ru HO_4.out) (R_base ho0) hb); replace HO_1278001 := zA (R_elder' (ru HO_1278001.out) (R_base ho0) hb); replace HO1284 := zA (R_elder' (ru HO1284.out) (R_base ho0) hb); replace HO1287 := zA (R_elder' (ru HO1287.out) (R_base ho0) hb); replace BK1270 := zb BK1270 hb; replace BK1271 := zb BK1271 hb; replace BK1277 := zb BK1277 hb; replace HB := zf hb; (try clear ho0); have hnb45 := NB1271_1270.out; have hnc45 := NB1270_1271.out; obtain ⟨hcz46_0, hcz46_1, hcz46_2, hfz46_0, hfz46_1, hfz46_2⟩ := zc BK1271; obtain ⟨Ao47, co47, eo47⟩ := R_slice HO1291.out; subst eo47))
    refine bodyPost_ret (results_cell_row rfl _ _ gb1271 25 #[.bool t1288, .slice Ao47 t1289.length co47, .int .i64 t1292] (0, 0) _ rfl (zy BK1271) Tryd.underlying25 rfl (by kernel_rfl)) rfl ?_
    exact ⟨_, er, ru (R_mono (zr gb1271 (R_types HO1291.out BK1271.out (by decide)) (fun _ hk => hk.2) _ _ _) (fun _ hk => trivial)), zs⟩
   replace c32 := Bool.eq_false_iff.mpr c32
   subst c32
   rw [if_neg (show ¬ (false = true) by decide)] at H
   obtain ⟨⟨t1293, t1294, t1297⟩, A48, H⟩ := zh H
   (try dsimp only at H)
   simp only [Option.some.injEq, Prod.mk.injEq] at H
   obtain ⟨rfl, rfl, rfl⟩ := H
   have hnb49 := NB1277_1270.out
   have hnc49 := NB1270_1277.out
   have hnb50 := NB1277_1271.out
   have hnc50 := NB1271_1277.out
   obtain ⟨_, _, _, _, _, _⟩ := zc BK1277
   obtain ⟨Ao52, co52, eo52⟩ := R_slice HO_4.out
   subst eo52
   go_wp2_with (first | ((with_reducible refine zG 76 rfl ?_); refine zL (some 32) rfl rfl Tryd.func76 #[.bool t1272, .slice Ao52 t1278.length co52, .int .i64 0] rfl ?_; (with_reducible refine (ulpref04_Form.calls kj15 t1272 _ _ t1278 0 t1293 t1294 t1297 _ ?side1 ?side2 A48.out).mono ?_); (case side1 => exact zk (R_reads' HO_4.out).2.2); (case side2 => exact (R_reads' HO_4.out).2.1); rintro e w53 ⟨v1295, rfl, ho0, hb⟩; refine ⟨_, rfl, ?_⟩; have HO1296 := zA (R_lower (R_new' (R_new' ho0 (R_lt (ru HO_4.out))) (R_lt (ru HO_1278001.out))) (below_size zs)); replace HO_4 := zA (R_elder' (ru HO_4.out) (R_base ho0) hb); replace HO_1278001 := zA (R_elder' (ru HO_1278001.out) (R_base ho0) hb); replace BK1270 := zb BK1270 hb; replace BK1271 := zb BK1271 hb; replace BK1277 := zb BK1277 hb; replace HB := zf hb; (try clear ho0); have hnb54 := NB1271_1270.out; have hnc54 := NB1270_1271.out; obtain ⟨hcz55_0, hcz55_1, hcz55_2, hfz55_0, hfz55_1, hfz55_2⟩ := zc BK1271; obtain ⟨Ao56, co56, eo56⟩ := R_slice HO1296.out; subst eo56))
   refine bodyPost_ret (results_cell_row rfl _ _ gb1271 25 #[.bool t1293, .slice Ao56 t1294.length co56, .int .i64 t1297] (0, 0) _ rfl (zy BK1271) Tryd.underlying25 rfl (by kernel_rfl)) rfl ?_
   exact ⟨_, er, ru (R_mono (zr gb1271 (R_types HO1296.out BK1271.out (by decide)) (fun _ hk => hk.2) _ _ _) (fun _ hk => trivial)), zs⟩
end Go.Proofs.YtemfckibdojbbaaDoor.PAll
