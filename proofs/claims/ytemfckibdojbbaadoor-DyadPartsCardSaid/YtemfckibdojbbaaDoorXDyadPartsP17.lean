/- Printed functions, merged by a program of this session. -/
import Derived.Test.YtemfckibdojbbaaDoorXDyadPartsP0
import Derived.Test.YtemfckibdojbbaaDoorXDyadPartsP14
import Derived.Test.YtemfckibdojbbaaDoorXDyadPartsP16
import Derived.Laws.StructEq
import Derived.Test.YtemfckibdojbbaaDoorXDyadPartsSh
namespace Go.Proofs.YtemfckibdojbbaaDoor.PAll
open Go.RowKit Go.Proofs.YtemfckibdojbbaaDoorW.PrintWords Go.Proofs.YtemfckibdojbbaaDoorW.PrintLast Go.Proofs.YtemfckibdojbbaaDoorW.PrintMore Go.Proofs.YtemfckibdojbbaaDoorW.PrintWords.Kd
attribute [local go_sem] max2_int min2_int max_two min_two max_three min_three max_four min_four   -- for this text's walks alone
set_option linter.unusedVariables false
set_option linter.unusedSimpArgs false
attribute [local go_sem] ext135 ext136
def ulpref04_Neg.f (k : Nat) (a0_0 : Bool) (l0_1 : List Int) (a0_2 : Int) : Option (Bool × List Int × Int) := (ulpref04_Form.f k (!a0_0) l0_1 a0_2).bind fun bt802 => (some (bt802.1, bt802.2.1, bt802.2.2))
set_option maxHeartbeats 8000000 in
set_option maxRecDepth 100000 in
theorem ulpref04_Neg.calls (k : Nat) (a0_0 : Bool) (A0_1 : Option Addr) (c0_1 : Nat) (l0_1 : List Int) (a0_2 : Int) (r1 : Bool) (r2 : List Int) (r3 : Int) (w : World) (hr0_1 : Kd.C (Kd.int .u64) w A0_1 l0_1.length l0_1) (hc0_1 : l0_1.length ≤ c0_1) (h : ulpref04_Neg.f k a0_0 l0_1 a0_2 = some (r1, r2, r3)) :
  Calls Tryd.prog 29 #[.agg #[.bool a0_0, .slice A0_1 l0_1.length c0_1, .int .i64 a0_2]] w fun e w' => ∃ v1_ : Value, e = .returned (.agg #[.bool r1, v1_, .int .i64 r3]) ∧ Kd.R (Kd.int .u64) 43 w' w.heap.size (fun _ => True) v1_ r2 ∧ Below w.heap.size w w' := by
 have hu25 := Tryd.underlying25
 have HR0_1 := zA hr0_1
 have HC0_1 := zA hc0_1
 clear hr0_1 hc0_1
 have HB := zA (Below.refl w.heap.size w)
 have H : ((ulpref04_Form.f k (!a0_0) l0_1 a0_2).bind fun bt802 => (some (bt802.1, bt802.2.1, bt802.2.2))) = some (r1, r2, r3) := h
 clear h
 obtain ⟨⟨t802, t803, t806⟩, A2, H⟩ := zh H
 (try dsimp only at H)
 simp only [Option.some.injEq, Prod.mk.injEq] at H
 obtain ⟨rfl, rfl, rfl⟩ := H
 go_enter Tryd.func29, Tryd.ntmps29
 go_wp2_with (first | ((with_reducible refine zD 1 rfl ?_); refine zn (N := 1) (cs := #[.bool a0_0, .slice A0_1 l0_1.length c0_1, .int .i64 a0_2]) (t := 25) rfl rfl ?_; intro gb800 hg w3 hbox hb; have BK800 := zA (hbox); have GW800 := zw hg; replace HB := ze hb; clear hb hbox hg) | ((with_reducible refine zD 2 rfl ?_); refine zn (N := 2) (cs := #[.bool false, .slice none 0 0, .int .i64 0]) (t := 25) rfl rfl ?_; intro gb801 hg w4 hbox hb; have BK801 := zA (hbox); have GW801 := zx hg; replace HB := zf hb; have NB800_801 := zl BK800 hg; have NB801_800 := zg BK800 hg; replace BK800 := zb BK800 hb; clear hb hbox hg; have hnb5 := NB800_801.out; have hnc5 := NB801_800.out; obtain ⟨_, _, _, _, _, _⟩ := zc BK800) | ((with_reducible refine zG 76 rfl ?_); refine zL (some 10) rfl rfl Tryd.func76 #[.bool (!a0_0), .slice A0_1 l0_1.length c0_1, .int .i64 a0_2] rfl ?_; (with_reducible refine (ulpref04_Form.calls k (!a0_0) _ _ l0_1 a0_2 t802 t803 t806 _ ?side1 ?side2 A2.out).mono ?_); (case side1 => exact zk (C_below HR0_1.out HB.out)); (case side2 => exact HC0_1.out); rintro e w7 ⟨v804, rfl, ho0, hb⟩; refine ⟨_, rfl, ?_⟩; have HO805 := zA (R_lower ho0 (below_size zs)); replace BK800 := zb BK800 hb; replace BK801 := zb BK801 hb; replace HB := zf hb; (try clear ho0); obtain ⟨hcz8_0, hcz8_1, hcz8_2, hfz8_0, hfz8_1, hfz8_2⟩ := zc BK801; obtain ⟨Ao9, co9, eo9⟩ := R_slice HO805.out; subst eo9))
 refine bodyPost_ret (results_cell_row rfl _ _ gb801 25 #[.bool t802, .slice Ao9 t803.length co9, .int .i64 t806] (0, 0) _ rfl (zy BK801) Tryd.underlying25 rfl (by kernel_rfl)) rfl ?_
 exact ⟨_, er, ru (R_mono (zr gb801 (R_types HO805.out BK801.out (by decide)) (fun _ hk => hk.2) _ _ _) (fun _ hk => trivial)), zs⟩
def ulpref04_Less.f (k : Nat) (a0_0 : Bool) (l0_1 : List Int) (a0_2 : Int) (a1_0 : Bool) (l1_1 : List Int) (a1_2 : Int) : Option (Bool × List Int × Int) := (ulpref04_Neg.f k a1_0 l1_1 a1_2).bind fun bt928 => ((ulpref04_Plus.f k a0_0 l0_1 a0_2 bt928.1 bt928.2.1 bt928.2.2).bind fun bt933 => (some (bt933.1, bt933.2.1, bt933.2.2)))
set_option maxHeartbeats 8000000 in
set_option maxRecDepth 100000 in
theorem ulpref04_Less.calls (k : Nat) (a0_0 : Bool) (A0_1 : Option Addr) (c0_1 : Nat) (l0_1 : List Int) (a0_2 : Int) (a1_0 : Bool) (A1_1 : Option Addr) (c1_1 : Nat) (l1_1 : List Int) (a1_2 : Int) (r1 : Bool) (r2 : List Int) (r3 : Int) (w : World) (hr0_1 : Kd.C (Kd.int .u64) w A0_1 l0_1.length l0_1) (hc0_1 : l0_1.length ≤ c0_1) (hr1_1 : Kd.C (Kd.int .u64) w A1_1 l1_1.length l1_1) (hc1_1 : l1_1.length ≤ c1_1) (h : ulpref04_Less.f k a0_0 l0_1 a0_2 a1_0 l1_1 a1_2 = some (r1, r2, r3)) :
  Calls Tryd.prog 103 #[.agg #[.bool a0_0, .slice A0_1 l0_1.length c0_1, .int .i64 a0_2], .agg #[.bool a1_0, .slice A1_1 l1_1.length c1_1, .int .i64 a1_2]] w fun e w' => ∃ v1_ : Value, e = .returned (.agg #[.bool r1, v1_, .int .i64 r3]) ∧ Kd.R (Kd.int .u64) 43 w' w.heap.size (fun _ => True) v1_ r2 ∧ Below w.heap.size w w' := by
 have hu25 := Tryd.underlying25
 have HR0_1 := zA hr0_1
 have HC0_1 := zA hc0_1
 clear hr0_1 hc0_1
 have HR1_1 := zA hr1_1
 have HC1_1 := zA hc1_1
 clear hr1_1 hc1_1
 have HB := zA (Below.refl w.heap.size w)
 have H : ((ulpref04_Neg.f k a1_0 l1_1 a1_2).bind fun bt928 => ((ulpref04_Plus.f k a0_0 l0_1 a0_2 bt928.1 bt928.2.1 bt928.2.2).bind fun bt933 => (some (bt933.1, bt933.2.1, bt933.2.2)))) = some (r1, r2, r3) := h
 clear h
 obtain ⟨⟨t928, t929, t932⟩, A3, H⟩ := zh H
 (try dsimp only at H)
 obtain ⟨⟨t933, t934, t937⟩, A4, H⟩ := zh H
 (try dsimp only at H)
 simp only [Option.some.injEq, Prod.mk.injEq] at H
 obtain ⟨rfl, rfl, rfl⟩ := H
 go_enter Tryd.func103, Tryd.ntmps103
 try go_wp2_with (first | ((with_reducible refine zD 2 rfl ?_); refine zn (N := 2) (cs := #[.bool a0_0, .slice A0_1 l0_1.length c0_1, .int .i64 a0_2]) (t := 25) rfl rfl ?_; intro gb925 hg w5 hbox hb; have BK925 := zA (hbox); have GW925 := zw hg; replace HB := ze hb; clear hb hbox hg) | ((with_reducible refine zD 3 rfl ?_); refine zn (N := 3) (cs := #[.bool a1_0, .slice A1_1 l1_1.length c1_1, .int .i64 a1_2]) (t := 25) rfl rfl ?_; intro gb926 hg w6 hbox hb; have BK926 := zA (hbox); have GW926 := zx hg; replace HB := zf hb; have NB925_926 := zl BK925 hg; have NB926_925 := zg BK925 hg; replace BK925 := zb BK925 hb; clear hb hbox hg) | ((with_reducible refine zD 4 rfl ?_); refine zn (N := 4) (cs := #[.bool false, .slice none 0 0, .int .i64 0]) (t := 25) rfl rfl ?_; intro gb927 hg w7 hbox hb; have BK927 := zA (hbox); have GW927 := zx hg; replace HB := zf hb; have NB925_927 := zl BK925 hg; have NB927_925 := zg BK925 hg; replace BK925 := zb BK925 hb; have NB926_927 := zl BK926 hg; have NB927_926 := zg BK926 hg; replace BK926 := zb BK926 hb; clear hb hbox hg))
 replace BK925 := zA (blk_drew BK925.out)
 replace BK926 := zA (blk_drew BK926.out)
 replace BK927 := zA (blk_drew BK927.out)
 replace HB := zA (below_drew1 HB.out)
 refine start_ (n := 5) (S := fun w' => z4 w' gb925 (.bool a0_0) (.slice A0_1 l0_1.length c0_1) (.int .i64 a0_2) (z3 w' gb926 (.bool a1_0) (.slice A1_1 l1_1.length c1_1) (.int .i64 a1_2))) (ds := []) #[false, false, false, false, false] (by kernel_rfl) rfl rfl (za BK925 (zz BK926)) (fun hHeld => ?_)
 generalize w7.drew = w8 at BK925 BK926 BK927 HB hHeld ⊢
 refine take_ (i := 0) (N := some 5) (v := ?_) (a' := ?_) #[true, false, false, false, false] rfl rfl (by kernel_rfl) (fun _ _ _ h => h) (Or.inl ⟨by rfl, ?_⟩) hHeld ?_ ?_
 rotate_left
 ·rintro w' ⟨s0, s1, s2, s3, s4, s5⟩
  go_simp
  with_reducible rfl
 rotate_left
 ·exact zq
 refine take_ (i := 1) (N := some 6) (v := ?_) (a' := ?_) #[true, true, false, false, false] rfl rfl (by kernel_rfl) (fun _ _ _ h => h) (Or.inl ⟨by rfl, ?_⟩) hHeld ?_ ?_
 rotate_left
 ·rintro w' ⟨s0, s1, s2, s3, s4, s5⟩
  go_simp
  with_reducible rfl
 rotate_left
 ·exact zq
 refine one_ (i := 2) (N := some 7) #[true, true, true, false, false] rfl rfl (by kernel_rfl) (by decide) (fun K hK => ?_)
 refine goes_ Tryd.func29 (by kernel_rfl) rfl #[.agg #[.bool a1_0, .slice A1_1 l1_1.length c1_1, .int .i64 a1_2]] (by rfl) rfl rfl ga ?_
 with_reducible refine (ulpref04_Neg.calls k a1_0 _ _ l1_1 a1_2 t928 t929 t932 _ ?side1 ?side2 A3.out).mono ?_
 (case side1 => exact zk (C_below HR1_1.out HB.out))
 (case side2 => exact HC1_1.out)
 rintro e w9 ⟨v930, rfl, ho0, hb⟩
 refine ⟨_, rfl, ?_⟩
 have HO931 := zA (R_lower ho0 (below_size zs))
 replace BK925 := zb BK925 hb
 replace BK926 := zb BK926 hb
 replace BK927 := zb BK927 hb
 replace HB := zf hb
 (try clear hb)
 (try clear hb2)
 (try clear hk)
 (try clear hi)
 (try clear ho0)
 obtain ⟨Ao10, co10, eo10⟩ := R_slice HO931.out
 (first | subst eo10 | (injection eo10 with f1_ f2_ f3_; have f4_ := f1_.symm; have f5_ := f3_.symm; clear f1_ f2_ f3_; subst f4_; subst f5_))
 refine hK.out _ _ (za BK925 (zz BK926)) (fun hHeld => ?_)
 clear hK K
 refine norm_ (a' := ?_) ?_ ?_
 rotate_left
 ·show Act.put _ (some 7) _ = _
  simp only [Act.put, List.setIfInBounds_toArray, List.set_cons_zero, List.set_cons_succ, i64_w, i32_w]
  rfl
 refine one_ (i := 3) (N := some 8) #[true, true, true, true, false] rfl rfl (by kernel_rfl) (by decide) (fun K hK => ?_)
 refine goes_ Tryd.func68 (by kernel_rfl) rfl #[.agg #[.bool a0_0, .slice A0_1 l0_1.length c0_1, .int .i64 a0_2], .agg #[.bool t928, .slice Ao10 t929.length co10, .int .i64 t932]] (by rfl) rfl rfl ga ?_
 with_reducible refine (ulpref04_Plus.calls k a0_0 _ _ l0_1 a0_2 t928 _ _ t929 t932 t933 t934 t937 _ ?side1 ?side2 ?side3 ?side4 A4.out).mono ?_
 (case side1 => exact zk (C_below HR0_1.out HB.out))
 (case side2 => exact HC0_1.out)
 (case side3 => exact zk (R_reads' HO931.out).2.2)
 (case side4 => exact (R_reads' HO931.out).2.1)
 rintro e w11 ⟨v935, rfl, ho0, hb⟩
 refine ⟨_, rfl, ?_⟩
 have HO936 := zA (R_lower (R_new' ho0 (R_lt (ru HO931.out))) (below_size zs))
 replace HO931 := zA (R_elder' (ru HO931.out) (R_base ho0) hb)
 replace BK925 := zb BK925 hb
 replace BK926 := zb BK926 hb
 replace BK927 := zb BK927 hb
 replace HB := zf hb
 (try clear hb)
 (try clear hb2)
 (try clear hk)
 (try clear hi)
 (try clear ho0)
 obtain ⟨Ao13, co13, eo13⟩ := R_slice HO936.out
 (first | subst eo13 | (injection eo13 with f1_ f2_ f3_; have f4_ := f1_.symm; have f5_ := f3_.symm; clear f1_ f2_ f3_; subst f4_; subst f5_))
 refine hK.out _ _ (za BK925 (zz BK926)) (fun hHeld => ?_)
 clear hK K
 refine norm_ (a' := ?_) ?_ ?_
 rotate_left
 ·show Act.put _ (some 8) _ = _
  simp only [Act.put, List.setIfInBounds_toArray, List.set_cons_zero, List.set_cons_succ, i64_w, i32_w]
  rfl
 refine one_ (i := 4) (N := none) #[true, true, true, true, true] rfl rfl (by kernel_rfl) (by decide) (fun K hK => ?_)
 have hs12 : w11.cell? ⟨gb927, 0, none⟩ = some (.bool false) := (blk_cell BK927.out 0).trans rfl
 have hfs12 := blk_frozen BK927.out 0
 have hns12_0 := NB925_927.out
 have hns12_1 := NB926_927.out
 have hms12_0 := NB927_925.out
 have hms12_1 := NB927_926.out
 have hs14 : w11.cell? ⟨gb927, 1, none⟩ = some (.slice none 0 0) := (blk_cell BK927.out 1).trans rfl
 have hfs14 := blk_frozen BK927.out 1
 have hns14_0 := NB925_927.out
 have hns14_1 := NB926_927.out
 have hms14_0 := NB927_925.out
 have hms14_1 := NB927_926.out
 have hs15 : w11.cell? ⟨gb927, 2, none⟩ = some (.int .i64 0) := (blk_cell BK927.out 2).trans rfl
 have hfs15 := blk_frozen BK927.out 2
 have hns15_0 := NB925_927.out
 have hns15_1 := NB926_927.out
 have hms15_0 := NB927_925.out
 have hms15_1 := NB927_926.out
 refine skip_ (w1 := ?_) (by rfl) rfl ?_ ?_
 rotate_left
 ·go_simp
  rfl
 refine hK.out _ _ ⟨((cell_far (p := ⟨gb927, _, none⟩) NB925_927.out _).trans (((cell_far (p := ⟨gb927, _, none⟩) NB925_927.out _).trans (((cell_far (p := ⟨gb927, _, none⟩) NB925_927.out _).trans (hHeld.1)))))), ((cell_far (p := ⟨gb927, _, none⟩) NB925_927.out _).trans (((cell_far (p := ⟨gb927, _, none⟩) NB925_927.out _).trans (((cell_far (p := ⟨gb927, _, none⟩) NB925_927.out _).trans (hHeld.2.1)))))), ((cell_far (p := ⟨gb927, _, none⟩) NB925_927.out _).trans (((cell_far (p := ⟨gb927, _, none⟩) NB925_927.out _).trans (((cell_far (p := ⟨gb927, _, none⟩) NB925_927.out _).trans (hHeld.2.2.1)))))), ((cell_far (p := ⟨gb927, _, none⟩) NB926_927.out _).trans (((cell_far (p := ⟨gb927, _, none⟩) NB926_927.out _).trans (((cell_far (p := ⟨gb927, _, none⟩) NB926_927.out _).trans (hHeld.2.2.2.1)))))), ((cell_far (p := ⟨gb927, _, none⟩) NB926_927.out _).trans (((cell_far (p := ⟨gb927, _, none⟩) NB926_927.out _).trans (((cell_far (p := ⟨gb927, _, none⟩) NB926_927.out _).trans (hHeld.2.2.2.2.1)))))), ((cell_far (p := ⟨gb927, _, none⟩) NB926_927.out _).trans (((cell_far (p := ⟨gb927, _, none⟩) NB926_927.out _).trans (((cell_far (p := ⟨gb927, _, none⟩) NB926_927.out _).trans (hHeld.2.2.2.2.2))))))⟩ (fun hHeld => ?_)
 clear hK K
 refine done_ (by kernel_rfl) ?_
 try go_wp2
 refine bodyPost_ret (results_cell_row rfl _ _ gb927 25 #[.bool t933, .slice Ao13 t934.length co13, .int .i64 t937] (0, 0) _ rfl (zy BK927) Tryd.underlying25 rfl (by kernel_rfl)) rfl ?_
 exact ⟨_, er, ru (R_mono (zr gb927 (R_types HO936.out BK927.out (by decide)) (fun _ hk => hk.2) _ _ _) (fun _ hk => trivial)), zs⟩
end Go.Proofs.YtemfckibdojbbaaDoor.PAll
