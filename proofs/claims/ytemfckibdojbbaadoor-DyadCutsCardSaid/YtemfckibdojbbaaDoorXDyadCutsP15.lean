/- Printed functions, merged by a program of this session. -/
import Derived.Test.YtemfckibdojbbaaDoorXDyadCutsP0
import Derived.Test.YtemfckibdojbbaaDoorXDyadCutsP12
import Derived.Test.YtemfckibdojbbaaDoorXDyadCutsP13
import Derived.Test.YtemfckibdojbbaaDoorXDyadCutsP14
import Derived.Laws.StructEq
import Derived.Test.YtemfckibdojbbaaDoorXDyadCutsSh
namespace Go.Proofs.YtemfckibdojbbaaDoor.PAll
open Go.RowKit Go.Proofs.YtemfckibdojbbaaDoorW.PrintWords Go.Proofs.YtemfckibdojbbaaDoorW.PrintLast Go.Proofs.YtemfckibdojbbaaDoorW.PrintMore Go.Proofs.YtemfckibdojbbaaDoorW.PrintWords.Kd
attribute [local go_sem] max2_int min2_int max_two min_two max_three min_three max_four min_four   -- for this text's walks alone
set_option linter.unusedVariables false
set_option linter.unusedSimpArgs false
attribute [local go_sem] ext135 ext136
def ulpref04_Trim.j0 : Nat → Int → Int → List Int → Bool → Bool → List Int → Int → Option (Bool × List Int × Int)
 | 0, _, _, _, _, _, _, _ => none
 | k + 1, x1, x8, x9, x35, x1184000, x1184001, x1184002 => if x35 = true then ((ulpref03_Of.f k 1).bind fun t1189 => ((ulpref03_Add.f k x9 t1189).bind fun t1192 => ((ulpref04_Form.f k x1184000 t1192 (wrap64 ((wrap64 (x1184002 + x8)) - x1))).bind fun bt1195 => (some (bt1195.1, bt1195.2.1, bt1195.2.2))))) else ((ulpref04_Form.f k x1184000 x9 (wrap64 ((wrap64 (x1184002 + x8)) - x1))).bind fun bt1200 => (some (bt1200.1, bt1200.2.1, bt1200.2.2)))
def ulpref04_Trim.f (k : Nat) (a0_0 : Bool) (l0_1 : List Int) (a0_2 : Int) (a1 : Int) (a2 : Bool) : Option (Bool × List Int × Int) := (ulpref04_One.f k a0_0 l0_1 a0_2).bind fun bt1178 => ((ulpref03_Len.f k bt1178.2.1).bind fun t1184 => (if t1184 ≤ a1 then (some (bt1178.1, bt1178.2.1, bt1178.2.2)) else ((ulpref03_Shr.f k bt1178.2.1 (wrap64 (t1184 - a1))).bind fun bt1185 => (if bt1185.2 = true then (ulpref04_Trim.j0 k a1 t1184 bt1185.1 (a2 != bt1178.1) bt1178.1 bt1178.2.1 bt1178.2.2) else (ulpref04_Trim.j0 k a1 t1184 bt1185.1 false bt1178.1 bt1178.2.1 bt1178.2.2)))))
set_option maxHeartbeats 8000000 in
set_option maxRecDepth 100000 in
theorem ulpref04_Trim.calls (k : Nat) (a0_0 : Bool) (A0_1 : Option Addr) (c0_1 : Nat) (l0_1 : List Int) (a0_2 : Int) (a1 : Int) (a2 : Bool) (r1 : Bool) (r2 : List Int) (r3 : Int) (w : World) (hr0_1 : Kd.C (Kd.int .u64) w A0_1 l0_1.length l0_1) (hc0_1 : l0_1.length ≤ c0_1) (h : ulpref04_Trim.f k a0_0 l0_1 a0_2 a1 a2 = some (r1, r2, r3)) :
  Calls Tryd.prog 99 #[.agg #[.bool a0_0, .slice A0_1 l0_1.length c0_1, .int .i64 a0_2], .int .i64 a1, .bool a2] w fun e w' => ∃ v1_ : Value, e = .returned (.agg #[.bool r1, v1_, .int .i64 r3]) ∧ Kd.R (Kd.int .u64) 43 w' w.heap.size (fun _ => True) v1_ r2 ∧ Below w.heap.size w w' := by
 have hu25 := Tryd.underlying25
 have HR0_1 := zA hr0_1
 have HC0_1 := zA hc0_1
 clear hr0_1 hc0_1
 have HB := zA (Below.refl w.heap.size w)
 have H : ((ulpref04_One.f k a0_0 l0_1 a0_2).bind fun bt1178 => ((ulpref03_Len.f k bt1178.2.1).bind fun t1184 => (if t1184 ≤ a1 then (some (bt1178.1, bt1178.2.1, bt1178.2.2)) else ((ulpref03_Shr.f k bt1178.2.1 (wrap64 (t1184 - a1))).bind fun bt1185 => (if bt1185.2 = true then (ulpref04_Trim.j0 k a1 t1184 bt1185.1 (a2 != bt1178.1) bt1178.1 bt1178.2.1 bt1178.2.2) else (ulpref04_Trim.j0 k a1 t1184 bt1185.1 false bt1178.1 bt1178.2.1 bt1178.2.2)))))) = some (r1, r2, r3) := h
 clear h
 obtain ⟨⟨t1178, t1179, t1182⟩, A4, H⟩ := zh H
 (try dsimp only at H)
 obtain ⟨t1184, A5, H⟩ := zh H
 by_cases c6 : t1184 ≤ a1
 ·rw [if_pos c6] at H
  have c6b0 := decide_eq_true c6
  clear c6
  simp only [Option.some.injEq, Prod.mk.injEq] at H
  obtain ⟨rfl, rfl, rfl⟩ := H
  go_enter Tryd.func99, Tryd.ntmps99
  go_wp2_with (first | ((with_reducible refine zD 3 rfl ?_); refine zn (N := 3) (cs := #[.bool a0_0, .slice A0_1 l0_1.length c0_1, .int .i64 a0_2]) (t := 25) rfl rfl ?_; intro gb1176 hg w7 hbox hb; have BK1176 := zA (hbox); have GW1176 := zw hg; replace HB := ze hb; clear hb hbox hg) | ((with_reducible refine zD 6 rfl ?_); refine zn (N := 6) (cs := #[.bool false, .slice none 0 0, .int .i64 0]) (t := 25) rfl rfl ?_; intro gb1177 hg w8 hbox hb; have BK1177 := zA (hbox); have GW1177 := zx hg; replace HB := zf hb; have NB1176_1177 := zl BK1176 hg; have NB1177_1176 := zg BK1176 hg; replace BK1176 := zb BK1176 hb; clear hb hbox hg; have hnb9 := NB1176_1177.out; have hnc9 := NB1177_1176.out; obtain ⟨_, _, _, _, _, _⟩ := zc BK1176) | ((with_reducible refine zG 69 rfl ?_); refine zL (some 12) rfl rfl Tryd.func69 #[.agg #[.bool a0_0, .slice A0_1 l0_1.length c0_1, .int .i64 a0_2]] rfl ?_; (with_reducible refine (ulpref04_One.calls k a0_0 _ _ l0_1 a0_2 t1178 t1179 t1182 _ ?side1 ?side2 A4.out).mono ?_); (case side1 => exact zk (C_below HR0_1.out HB.out)); (case side2 => exact HC0_1.out); rintro e w11 ⟨v1180, rfl, ho0, hb⟩; refine ⟨_, rfl, ?_⟩; have HO1181 := zA (R_lower ho0 (below_size zs)); replace BK1176 := zb BK1176 hb; replace BK1177 := zb BK1177 hb; replace HB := zf hb; (try clear ho0)) | ((with_reducible refine zD 7 rfl ?_); refine zn (N := 7) (cs := #[.bool false, .slice none 0 0, .int .i64 0]) (t := 25) rfl rfl ?_; intro gb1183 hg w12 hbox hb; replace HO1181 := zA (R_below (ru HO1181.out) hb); have BK1183 := zA (hbox); have GW1183 := zx hg; replace HB := zf hb; have NB1176_1183 := zl BK1176 hg; have NB1183_1176 := zg BK1176 hg; replace BK1176 := zb BK1176 hb; have NB1177_1183 := zl BK1177 hg; have NB1183_1177 := zg BK1177 hg; replace BK1177 := zb BK1177 hb; clear hb hbox hg; have hnb13 := NB1183_1176.out; have hnc13 := NB1176_1183.out; have hnb14 := NB1183_1177.out; have hnc14 := NB1177_1183.out; obtain ⟨hcz15_0, hcz15_1, hcz15_2, hfz15_0, hfz15_1, hfz15_2⟩ := zc BK1183; obtain ⟨Ao16, co16, eo16⟩ := R_slice HO1181.out; subst eo16) | ((with_reducible refine zG 96 rfl ?_); refine zL (some 15) rfl rfl Tryd.func96 #[.slice Ao16 t1179.length co16] rfl ?_; (with_reducible refine (ulpref03_Len.calls k _ _ t1179 t1184 _ ?side1 ?side2 A5.out).mono ?_); (case side1 => refine (R_reads' (e := 43) (base := w.heap.size) (ok := fun k_ => True) (n := t1179.length) (c := co16) ?_).2.2; exact (ru (R_mono (zr gb1183 (R_types HO1181.out BK1183.out (by decide)) (fun _ hk => hk.2) _ _ _) (fun _ h_ => h_.1)))); (case side2 => exact (R_reads' HO1181.out).2.1); rintro e w17 ⟨rfl, hb⟩; refine ⟨_, rfl, ?_⟩; replace HO1181 := zA (R_below (ru (R_mono (zr gb1183 (R_types HO1181.out BK1183.out (by decide)) (fun _ hk => hk.2) _ _ _) (fun _ h_ => h_.1))) hb); replace BK1176 := zF BK1176 hb; replace BK1177 := zF BK1177 hb; replace BK1183 := zt BK1183 hb; replace HB := zf hb; (try clear hk); obtain ⟨hcz18_0, hcz18_1, hcz18_2, hfz18_0, hfz18_1, hfz18_2⟩ := zc BK1183; obtain ⟨hcz19_0, hcz19_1, hcz19_2, hfz19_0, hfz19_1, hfz19_2⟩ := zc BK1177))
  refine bodyPost_ret (results_cell_row rfl _ _ gb1177 25 #[.bool t1178, .slice Ao16 t1179.length co16, .int .i64 t1182] (0, 0) _ rfl (zy BK1177) Tryd.underlying25 rfl (by kernel_rfl)) rfl ?_
  exact ⟨_, er, ru (R_mono (zr gb1177 (R_types HO1181.out BK1177.out (by decide)) (fun _ hk => hk.2) _ _ _) (fun _ hk => trivial)), zs⟩
 rw [if_neg c6] at H
 have c6b0 := decide_eq_false c6
 clear c6
 obtain ⟨⟨t1185, t1186⟩, A20, H⟩ := zh H
 (try dsimp only at H)
 have HC21 := zA H
 clear H
 go_enter Tryd.func99, Tryd.ntmps99
 go_upto_region 6 with (first | ((with_reducible refine zD 3 rfl ?_); refine zn (N := 3) (cs := #[.bool a0_0, .slice A0_1 l0_1.length c0_1, .int .i64 a0_2]) (t := 25) rfl rfl ?_; intro gb1176 hg w22 hbox hb; have BK1176 := zA (hbox); have GW1176 := zw hg; replace HB := ze hb; clear hb hbox hg) | ((with_reducible refine zD 6 rfl ?_); refine zn (N := 6) (cs := #[.bool false, .slice none 0 0, .int .i64 0]) (t := 25) rfl rfl ?_; intro gb1177 hg w23 hbox hb; have BK1177 := zA (hbox); have GW1177 := zx hg; replace HB := zf hb; have NB1176_1177 := zl BK1176 hg; have NB1177_1176 := zg BK1176 hg; replace BK1176 := zb BK1176 hb; clear hb hbox hg; have hnb24 := NB1176_1177.out; have hnc24 := NB1177_1176.out; obtain ⟨hcz25_0, hcz25_1, hcz25_2, hfz25_0, hfz25_1, hfz25_2⟩ := zc BK1176) | ((with_reducible refine zG 69 rfl ?_); refine zL (some 12) rfl rfl Tryd.func69 #[.agg #[.bool a0_0, .slice A0_1 l0_1.length c0_1, .int .i64 a0_2]] rfl ?_; (with_reducible refine (ulpref04_One.calls k a0_0 _ _ l0_1 a0_2 t1178 t1179 t1182 _ ?side1 ?side2 A4.out).mono ?_); (case side1 => exact zk (C_below HR0_1.out HB.out)); (case side2 => exact HC0_1.out); rintro e w26 ⟨v1180, rfl, ho0, hb⟩; refine ⟨_, rfl, ?_⟩; have HO1181 := zA (R_lower ho0 (below_size zs)); replace BK1176 := zb BK1176 hb; replace BK1177 := zb BK1177 hb; replace HB := zf hb; (try clear ho0)) | ((with_reducible refine zD 7 rfl ?_); refine zn (N := 7) (cs := #[.bool false, .slice none 0 0, .int .i64 0]) (t := 25) rfl rfl ?_; intro gb1183 hg w27 hbox hb; replace HO1181 := zA (R_below (ru HO1181.out) hb); have BK1183 := zA (hbox); have GW1183 := zx hg; replace HB := zf hb; have NB1176_1183 := zl BK1176 hg; have NB1183_1176 := zg BK1176 hg; replace BK1176 := zb BK1176 hb; have NB1177_1183 := zl BK1177 hg; have NB1183_1177 := zg BK1177 hg; replace BK1177 := zb BK1177 hb; clear hb hbox hg; have hnb28 := NB1183_1176.out; have hnc28 := NB1176_1183.out; have hnb29 := NB1183_1177.out; have hnc29 := NB1177_1183.out; obtain ⟨hcz30_0, hcz30_1, hcz30_2, hfz30_0, hfz30_1, hfz30_2⟩ := zc BK1183; obtain ⟨Ao31, co31, eo31⟩ := R_slice HO1181.out; subst eo31) | ((with_reducible refine zG 96 rfl ?_); refine zL (some 15) rfl rfl Tryd.func96 #[.slice Ao31 t1179.length co31] rfl ?_; (with_reducible refine (ulpref03_Len.calls k _ _ t1179 t1184 _ ?side1 ?side2 A5.out).mono ?_); (case side1 => refine (R_reads' (e := 43) (base := w.heap.size) (ok := fun k_ => True) (n := t1179.length) (c := co31) ?_).2.2; exact (ru (R_mono (zr gb1183 (R_types HO1181.out BK1183.out (by decide)) (fun _ hk => hk.2) _ _ _) (fun _ h_ => h_.1)))); (case side2 => exact (R_reads' HO1181.out).2.1); rintro e w32 ⟨rfl, hb⟩; refine ⟨_, rfl, ?_⟩; replace HO1181 := zA (R_below (ru (R_mono (zr gb1183 (R_types HO1181.out BK1183.out (by decide)) (fun _ hk => hk.2) _ _ _) (fun _ h_ => h_.1))) hb); replace BK1176 := zF BK1176 hb; replace BK1177 := zF BK1177 hb; replace BK1183 := zt BK1183 hb; replace HB := zf hb; (try clear hk); obtain ⟨hcz33_0, hcz33_1, hcz33_2, hfz33_0, hfz33_1, hfz33_2⟩ := zc BK1183) | ((with_reducible refine zG 125 rfl ?_); refine zL (some 26) rfl rfl Tryd.func125 #[.slice Ao31 t1179.length co31, .int .i64 (wrap64 (t1184 - a1))] rfl ?_; (with_reducible refine (ulpref03_Shr.calls k _ _ t1179 (wrap64 (t1184 - a1)) t1185 t1186 _ ?side1 ?side2 A20.out).mono ?_); (case side1 => exact zk (R_reads' HO1181.out).2.2); (case side2 => exact (R_reads' HO1181.out).2.1); rintro e w34 ⟨v1187, rfl, ho0, hb⟩; refine ⟨_, rfl, ?_⟩; have HO1188 := zA (R_lower (R_new' ho0 (R_lt (ru HO1181.out))) (below_size zs)); replace HO1181 := zA (R_elder' (ru HO1181.out) (R_base ho0) hb); replace BK1176 := zb BK1176 hb; replace BK1177 := zb BK1177 hb; replace BK1183 := zb BK1183 hb; replace HB := zf hb; (try clear ho0)))
 (try simp only [Act.put, List.setIfInBounds_toArray, List.set_cons_zero, List.set_cons_succ])
 go_cut [35] (fun v35 wc => ∃ (kq : Nat) (x35_20 : Bool), v35 = .bool x35_20 ∧ Aside0 (ulpref04_Trim.j0 kq a1 t1184 t1185 x35_20 t1178 t1179 t1182 = some (r1, r2, r3)) ∧ Aside0 (kq ≤ k) ∧ Aside0 (Kd.R (Kd.int .u64) 43 wc w.heap.size (fun k_ => some k_ ≠ ((.slice Ao31 t1179.length co31) : Value).ownBlock) v1187 t1185) ∧ Aside0 (Kd.R (Kd.int .u64) 43 wc w.heap.size (fun k_ => some k_ ≠ (v1187 : Value).ownBlock) (.slice Ao31 t1179.length co31) t1179) ∧ Aside0 (wc.heap[gb1176]? = some (.cells #[.bool a0_0, (.slice A0_1 l0_1.length c0_1), .int .i64 a0_2] 25 (0, 0))) ∧ Aside0 (wc.heap[gb1177]? = some (.cells #[.bool false, (.slice none 0 0), .int .i64 0] 25 (0, 0))) ∧ Aside0 (wc.heap[gb1183]? = some (.cells #[.bool t1178, (.slice Ao31 t1179.length co31), .int .i64 t1182] 25 (0, 0))) ∧ Aside0 (Below w.heap.size w wc))
 case first =>
  have H := HC21.out
  clear HC21
  by_cases c35 : t1186 = true
  ·subst c35
   rw [if_pos rfl] at H
   have H' := zA H
   clear H
   have hnb36 := NB1183_1176.out
   have hnc36 := NB1176_1183.out
   have hnb37 := NB1183_1177.out
   have hnc37 := NB1177_1183.out
   obtain ⟨_, _, _, _, _, _⟩ := zc BK1183
   go_wp2
   go_meet
   case rel => exact ⟨_, ((a2 != t1178)), zi, H', ⟨by first | omega | exact Nat.le_refl _⟩, ⟨ru (R_mono HO1188.out (fun _ hk => hk.2))⟩, ⟨ru (R_mono HO1181.out (fun _ hk => hk.2))⟩, ⟨zu BK1176⟩, ⟨zu BK1177⟩, ⟨zu BK1183⟩, ⟨zs⟩⟩
  replace c35 := Bool.eq_false_iff.mpr c35
  subst c35
  rw [if_neg (show ¬ (false = true) by decide)] at H
  have H' := zA H
  clear H
  go_wp2
  go_meet
  case rel => exact ⟨_, (false), zi, H', ⟨by first | omega | exact Nat.le_refl _⟩, ⟨ru (R_mono HO1188.out (fun _ hk => hk.2))⟩, ⟨ru (R_mono HO1181.out (fun _ hk => hk.2))⟩, ⟨zu BK1176⟩, ⟨zu BK1177⟩, ⟨zu BK1183⟩, ⟨zs⟩⟩
 case rest =>
  clear HC21
  try clear c6
  try clear c6b0
  try clear c35
  try clear hcz15_0 hcz15_1 hcz15_2 hfz15_0 hfz15_1 hfz15_2
  try clear hcz18_0 hcz18_1 hcz18_2 hfz18_0 hfz18_1 hfz18_2
  try clear hcz19_0 hcz19_1 hcz19_2 hfz19_0 hfz19_1 hfz19_2
  try clear hcz25_0 hcz25_1 hcz25_2 hfz25_0 hfz25_1 hfz25_2
  try clear hcz30_0 hcz30_1 hcz30_2 hfz30_0 hfz30_1 hfz30_2
  try clear hcz33_0 hcz33_1 hcz33_2 hfz33_0 hfz33_1 hfz33_2
  obtain ⟨kq, x35_20, rfl, HA, HJ20, HO_9, HO_1184001, BK1176, BK1177, BK1183, HB⟩ := hcut
  cases kq with
  | zero => exact absurd HA.out (by simp [ulpref04_Trim.j0])
  | succ kj20 =>
   have H := HA.out
   clear HA
   simp only [ulpref04_Trim.j0] at H
   by_cases c39 : x35_20 = true
   ·subst c39
    rw [if_pos rfl] at H
    obtain ⟨t1189, A40, H⟩ := zh H
    obtain ⟨t1192, A41, H⟩ := zh H
    obtain ⟨⟨t1195, t1196, t1199⟩, A42, H⟩ := zh H
    (try dsimp only at H)
    simp only [Option.some.injEq, Prod.mk.injEq] at H
    obtain ⟨rfl, rfl, rfl⟩ := H
    go_wp2_with (first | ((with_reducible refine zG 94 rfl ?_); refine zL (some 37) rfl rfl Tryd.func94 #[.int .u64 1] rfl ?_; (with_reducible refine (ulpref03_Of.calls kj20 1 t1189 _ A40.out).mono ?_); rintro e w43 ⟨v1190, rfl, ho0, hb⟩; refine ⟨_, rfl, ?_⟩; have HO1191 := zA (R_lower (R_new' (R_new' ho0 (R_lt (ru HO_9.out))) (R_lt (ru HO_1184001.out))) (below_size zs)); replace HO_9 := zA (R_elder' (ru HO_9.out) (R_base ho0) hb); replace HO_1184001 := zA (R_elder' (ru HO_1184001.out) (R_base ho0) hb); replace BK1176 := zb BK1176 hb; replace BK1177 := zb BK1177 hb; replace BK1183 := zb BK1183 hb; replace HB := zf hb; (try clear ho0); obtain ⟨Ao44, co44, eo44⟩ := R_slice HO_9.out; subst eo44; obtain ⟨Ao45, co45, eo45⟩ := R_slice HO1191.out; subst eo45) | ((with_reducible refine zG 119 rfl ?_); refine zL (some 38) rfl rfl Tryd.func119 #[.slice Ao44 t1185.length co44, .slice Ao45 t1189.length co45] rfl ?_; (with_reducible refine (ulpref03_Add.calls kj20 _ _ t1185 _ _ t1189 t1192 _ ?side1 ?side2 ?side3 ?side4 A41.out).mono ?_); (case side1 => exact zk (R_reads' HO_9.out).2.2); (case side2 => exact (R_reads' HO_9.out).2.1); (case side3 => exact zk (R_reads' HO1191.out).2.2); (case side4 => exact (R_reads' HO1191.out).2.1); rintro e w46 ⟨v1193, rfl, ho0, hb⟩; refine ⟨_, rfl, ?_⟩; have HO1194 := zA (R_lower (R_new' (R_new' (R_new' ho0 (R_lt (ru HO_9.out))) (R_lt (ru HO_1184001.out))) (R_lt (ru HO1191.out))) (below_size zs)); replace HO_9 := zA (R_elder' (ru HO_9.out) (R_base ho0) hb); replace HO_1184001 := zA (R_elder' (ru HO_1184001.out) (R_base ho0) hb); replace HO1191 := zA (R_elder' (ru HO1191.out) (R_base ho0) hb); replace BK1176 := zb BK1176 hb; replace BK1177 := zb BK1177 hb; replace BK1183 := zb BK1183 hb; replace HB := zf hb; (try clear ho0); have hnb47 := NB1183_1176.out; have hnc47 := NB1176_1183.out; have hnb48 := NB1183_1177.out; have hnc48 := NB1177_1183.out; obtain ⟨hcz49_0, hcz49_1, hcz49_2, hfz49_0, hfz49_1, hfz49_2⟩ := zc BK1183; obtain ⟨Ao50, co50, eo50⟩ := R_slice HO1194.out; subst eo50) | ((with_reducible refine zG 76 rfl ?_); refine zL (some 48) rfl rfl Tryd.func76 #[.bool t1178, .slice Ao50 t1192.length co50, .int .i64 (wrap64 ((wrap64 (t1182 + t1184)) - a1))] rfl ?_; (with_reducible refine (ulpref04_Form.calls kj20 t1178 _ _ t1192 (wrap64 ((wrap64 (t1182 + t1184)) - a1)) t1195 t1196 t1199 _ ?side1 ?side2 A42.out).mono ?_); (case side1 => exact zk (R_reads' HO1194.out).2.2); (case side2 => exact (R_reads' HO1194.out).2.1); rintro e w51 ⟨v1197, rfl, ho0, hb⟩; refine ⟨_, rfl, ?_⟩; have HO1198 := zA (R_lower (R_new' (R_new' (R_new' (R_new' ho0 (R_lt (ru HO_9.out))) (R_lt (ru HO_1184001.out))) (R_lt (ru HO1191.out))) (R_lt (ru HO1194.out))) (below_size zs)); replace HO_9 := zA (R_elder' (ru HO_9.out) (R_base ho0) hb); replace HO_1184001 := zA (R_elder' (ru HO_1184001.out) (R_base ho0) hb); replace HO1191 := zA (R_elder' (ru HO1191.out) (R_base ho0) hb); replace HO1194 := zA (R_elder' (ru HO1194.out) (R_base ho0) hb); replace BK1176 := zb BK1176 hb; replace BK1177 := zb BK1177 hb; replace BK1183 := zb BK1183 hb; replace HB := zf hb; (try clear ho0); have hnb52 := NB1177_1176.out; have hnc52 := NB1176_1177.out; obtain ⟨hcz53_0, hcz53_1, hcz53_2, hfz53_0, hfz53_1, hfz53_2⟩ := zc BK1177; obtain ⟨Ao54, co54, eo54⟩ := R_slice HO1198.out; subst eo54))
    refine bodyPost_ret (results_cell_row rfl _ _ gb1177 25 #[.bool t1195, .slice Ao54 t1196.length co54, .int .i64 t1199] (0, 0) _ rfl (zy BK1177) Tryd.underlying25 rfl (by kernel_rfl)) rfl ?_
    exact ⟨_, er, ru (R_mono (zr gb1177 (R_types HO1198.out BK1177.out (by decide)) (fun _ hk => hk.2) _ _ _) (fun _ hk => trivial)), zs⟩
   replace c39 := Bool.eq_false_iff.mpr c39
   subst c39
   rw [if_neg (show ¬ (false = true) by decide)] at H
   obtain ⟨⟨t1200, t1201, t1204⟩, A55, H⟩ := zh H
   (try dsimp only at H)
   simp only [Option.some.injEq, Prod.mk.injEq] at H
   obtain ⟨rfl, rfl, rfl⟩ := H
   have hnb56 := NB1183_1176.out
   have hnc56 := NB1176_1183.out
   have hnb57 := NB1183_1177.out
   have hnc57 := NB1177_1183.out
   obtain ⟨_, _, _, _, _, _⟩ := zc BK1183
   obtain ⟨Ao59, co59, eo59⟩ := R_slice HO_9.out
   subst eo59
   go_wp2_with (first | ((with_reducible refine zG 76 rfl ?_); refine zL (some 48) rfl rfl Tryd.func76 #[.bool t1178, .slice Ao59 t1185.length co59, .int .i64 (wrap64 ((wrap64 (t1182 + t1184)) - a1))] rfl ?_; (with_reducible refine (ulpref04_Form.calls kj20 t1178 _ _ t1185 (wrap64 ((wrap64 (t1182 + t1184)) - a1)) t1200 t1201 t1204 _ ?side1 ?side2 A55.out).mono ?_); (case side1 => exact zk (R_reads' HO_9.out).2.2); (case side2 => exact (R_reads' HO_9.out).2.1); rintro e w60 ⟨v1202, rfl, ho0, hb⟩; refine ⟨_, rfl, ?_⟩; have HO1203 := zA (R_lower (R_new' (R_new' ho0 (R_lt (ru HO_9.out))) (R_lt (ru HO_1184001.out))) (below_size zs)); replace HO_9 := zA (R_elder' (ru HO_9.out) (R_base ho0) hb); replace HO_1184001 := zA (R_elder' (ru HO_1184001.out) (R_base ho0) hb); replace BK1176 := zb BK1176 hb; replace BK1177 := zb BK1177 hb; replace BK1183 := zb BK1183 hb; replace HB := zf hb; (try clear ho0); have hnb61 := NB1177_1176.out; have hnc61 := NB1176_1177.out; obtain ⟨hcz62_0, hcz62_1, hcz62_2, hfz62_0, hfz62_1, hfz62_2⟩ := zc BK1177; obtain ⟨Ao63, co63, eo63⟩ := R_slice HO1203.out; subst eo63))
   refine bodyPost_ret (results_cell_row rfl _ _ gb1177 25 #[.bool t1200, .slice Ao63 t1201.length co63, .int .i64 t1204] (0, 0) _ rfl (zy BK1177) Tryd.underlying25 rfl (by kernel_rfl)) rfl ?_
   exact ⟨_, er, ru (R_mono (zr gb1177 (R_types HO1203.out BK1177.out (by decide)) (fun _ hk => hk.2) _ _ _) (fun _ hk => trivial)), zs⟩
def ulpref04_Cut.j0 : Nat → Int → Bool → Bool → Bool → List Int → Int → Option (Bool × List Int × Int × Int)
 | 0, _, _, _, _, _, _ => none
 | k + 1, x1, x2, x14, x1206000, x1206001, x1206002 => if x14 = true then (some (false, ([] : List Int), 0, 2)) else ((ulpref04_Trim.f k x1206000 x1206001 x1206002 x1 x2).bind fun bt1208 => ((ulpref04_room.f k bt1208.1 bt1208.2.1 bt1208.2.2).bind fun bt1213 => (some (bt1213.1, bt1213.2.1, bt1213.2.2.1, bt1213.2.2.2))))
def ulpref04_Cut.f (k : Nat) (a0_0 : Bool) (l0_1 : List Int) (a0_2 : Int) (a1 : Int) (a2 : Bool) : Option (Bool × List Int × Int × Int) := (ulpref04_Right.f k a0_0 l0_1 a0_2).bind fun t1207 => (if t1207 = true then (ulpref04_Cut.j0 k a1 a2 (decide (a1 < 1)) a0_0 l0_1 a0_2) else (ulpref04_Cut.j0 k a1 a2 true a0_0 l0_1 a0_2))
set_option maxHeartbeats 8000000 in
set_option maxRecDepth 100000 in
theorem ulpref04_Cut.calls (k : Nat) (a0_0 : Bool) (A0_1 : Option Addr) (c0_1 : Nat) (l0_1 : List Int) (a0_2 : Int) (a1 : Int) (a2 : Bool) (r1 : Bool) (r2 : List Int) (r3 : Int) (r4 : Int) (w : World) (hr0_1 : Kd.C (Kd.int .u64) w A0_1 l0_1.length l0_1) (hc0_1 : l0_1.length ≤ c0_1) (h : ulpref04_Cut.f k a0_0 l0_1 a0_2 a1 a2 = some (r1, r2, r3, r4)) :
  Calls Tryd.prog 47 #[.agg #[.bool a0_0, .slice A0_1 l0_1.length c0_1, .int .i64 a0_2], .int .i64 a1, .bool a2] w fun e w' => ∃ v1_ : Value, e = .returned (.tuple #[.agg #[.bool r1, v1_, .int .i64 r3], .int .i64 r4]) ∧ Kd.V (Kd.int .u64) 43 w' w.heap.size (fun k_ => (w.heap.size ≤ k_)) v1_ r2 ∧ Below w.heap.size w w' := by
 have hu25 := Tryd.underlying25
 have HR0_1 := zA hr0_1
 have HC0_1 := zA hc0_1
 clear hr0_1 hc0_1
 have HB := zA (Below.refl w.heap.size w)
 have H : ((ulpref04_Right.f k a0_0 l0_1 a0_2).bind fun t1207 => (if t1207 = true then (ulpref04_Cut.j0 k a1 a2 (decide (a1 < 1)) a0_0 l0_1 a0_2) else (ulpref04_Cut.j0 k a1 a2 true a0_0 l0_1 a0_2))) = some (r1, r2, r3, r4) := h
 clear h
 have HC4 := zA H
 clear H
 go_enter Tryd.func47, Tryd.ntmps47
 go_upto_region 1 with (first | ((with_reducible refine zD 3 rfl ?_); refine zn (N := 3) (cs := #[.bool a0_0, .slice A0_1 l0_1.length c0_1, .int .i64 a0_2]) (t := 25) rfl rfl ?_; intro gb1205 hg w5 hbox hb; have BK1205 := zA (hbox); have GW1205 := zw hg; replace HB := ze hb; clear hb hbox hg) | ((with_reducible refine zD 6 rfl ?_); refine zn (N := 6) (cs := #[.bool false, .slice none 0 0, .int .i64 0]) (t := 25) rfl rfl ?_; intro gb1206 hg w6 hbox hb; have BK1206 := zA (hbox); have GW1206 := zx hg; replace HB := zf hb; have NB1205_1206 := zl BK1205 hg; have NB1206_1205 := zg BK1205 hg; replace BK1205 := zb BK1205 hb; clear hb hbox hg))
 (try simp only [Act.put, List.setIfInBounds_toArray, List.set_cons_zero, List.set_cons_succ])
 go_cut [14] (fun v14 wc => ∃ (kq : Nat) (x14_3 : Bool), v14 = .bool x14_3 ∧ Aside0 (ulpref04_Cut.j0 kq a1 a2 x14_3 a0_0 l0_1 a0_2 = some (r1, r2, r3, r4)) ∧ Aside0 (kq ≤ k) ∧ Aside0 (wc.heap[gb1205]? = some (.cells #[.bool a0_0, (.slice A0_1 l0_1.length c0_1), .int .i64 a0_2] 25 (0, 0))) ∧ Aside0 (wc.heap[gb1206]? = some (.cells #[.bool false, (.slice none 0 0), .int .i64 0] 25 (0, 0))) ∧ Aside0 (Below w.heap.size w wc))
 case first =>
  have H := HC4.out
  clear HC4
  obtain ⟨t1207, A7, H⟩ := zh H
  by_cases c8 : t1207 = true
  ·subst c8
   rw [if_pos rfl] at H
   have H' := zA H
   clear H
   have hnb9 := NB1205_1206.out
   have hnc9 := NB1206_1205.out
   obtain ⟨_, _, _, _, _, _⟩ := zc BK1205
   go_wp2_with (first | ((with_reducible refine zG 24 rfl ?_); refine zL (some 9) rfl rfl Tryd.func24 #[.agg #[.bool a0_0, .slice A0_1 l0_1.length c0_1, .int .i64 a0_2]] rfl ?_; (with_reducible refine (ulpref04_Right.calls k a0_0 _ _ l0_1 a0_2 true _ ?side1 ?side2 A7.out).mono ?_); (case side1 => exact zk (C_below HR0_1.out HB.out)); (case side2 => exact HC0_1.out); rintro e w11 ⟨rfl, hb⟩; refine ⟨_, rfl, ?_⟩; replace BK1205 := zb BK1205 hb; replace BK1206 := zb BK1206 hb; replace HB := zf hb))
   go_meet
   case rel => exact ⟨_, (decide (a1 < 1)), zi, H', ⟨by first | omega | exact Nat.le_refl _⟩, ⟨zu BK1205⟩, ⟨zu BK1206⟩, ⟨zs⟩⟩
  replace c8 := Bool.eq_false_iff.mpr c8
  subst c8
  rw [if_neg (show ¬ (false = true) by decide)] at H
  have H' := zA H
  clear H
  have hnb12 := NB1205_1206.out
  have hnc12 := NB1206_1205.out
  obtain ⟨_, _, _, _, _, _⟩ := zc BK1205
  go_wp2_with (first | ((with_reducible refine zG 24 rfl ?_); refine zL (some 9) rfl rfl Tryd.func24 #[.agg #[.bool a0_0, .slice A0_1 l0_1.length c0_1, .int .i64 a0_2]] rfl ?_; (with_reducible refine (ulpref04_Right.calls k a0_0 _ _ l0_1 a0_2 false _ ?side1 ?side2 A7.out).mono ?_); (case side1 => exact zk (C_below HR0_1.out HB.out)); (case side2 => exact HC0_1.out); rintro e w14 ⟨rfl, hb⟩; refine ⟨_, rfl, ?_⟩; replace BK1205 := zb BK1205 hb; replace BK1206 := zb BK1206 hb; replace HB := zf hb))
  go_meet
  case rel => exact ⟨_, (true), zi, H', ⟨by first | omega | exact Nat.le_refl _⟩, ⟨zu BK1205⟩, ⟨zu BK1206⟩, ⟨zs⟩⟩
 case rest =>
  clear HC4
  try clear c8
  obtain ⟨kq, x14_3, rfl, HA, HJ3, BK1205, BK1206, HB⟩ := hcut
  cases kq with
  | zero => exact absurd HA.out (by simp [ulpref04_Cut.j0])
  | succ kj3 =>
   have H := HA.out
   clear HA
   simp only [ulpref04_Cut.j0] at H
   by_cases c15 : x14_3 = true
   ·subst c15
    rw [if_pos rfl] at H
    simp only [Option.some.injEq, Prod.mk.injEq] at H
    obtain ⟨rfl, rfl, rfl, rfl⟩ := H
    have hnb16 := NB1206_1205.out
    have hnc16 := NB1205_1206.out
    obtain ⟨_, _, _, _, _, _⟩ := zc BK1206
    go_wp2
    refine bodyPost_ret (results_ct rfl _ _ gb1206 25 #[.bool false, .slice none 0 0, .int .i64 0] (0, 0) _ rfl (zy BK1206) Tryd.underlying25 rfl (by kernel_rfl)) rfl ?_
    exact ⟨_, er, V_nil _ _ _ _ _, zs⟩
   replace c15 := Bool.eq_false_iff.mpr c15
   subst c15
   rw [if_neg (show ¬ (false = true) by decide)] at H
   obtain ⟨⟨t1208, t1209, t1212⟩, A18, H⟩ := zh H
   (try dsimp only at H)
   obtain ⟨⟨t1213, t1214, t1217, t1218⟩, A19, H⟩ := zh H
   (try dsimp only at H)
   simp only [Option.some.injEq, Prod.mk.injEq] at H
   obtain ⟨rfl, rfl, rfl, rfl⟩ := H
   have hnb20 := NB1205_1206.out
   have hnc20 := NB1206_1205.out
   obtain ⟨_, _, _, _, _, _⟩ := zc BK1205
   go_wp2_with (first | ((with_reducible refine zG 99 rfl ?_); refine zL (some 19) rfl rfl Tryd.func99 #[.agg #[.bool a0_0, .slice A0_1 l0_1.length c0_1, .int .i64 a0_2], .int .i64 a1, .bool a2] rfl ?_; (with_reducible refine (ulpref04_Trim.calls kj3 a0_0 _ _ l0_1 a0_2 a1 a2 t1208 t1209 t1212 _ ?side1 ?side2 A18.out).mono ?_); (case side1 => exact zk (C_below HR0_1.out HB.out)); (case side2 => exact HC0_1.out); rintro e w22 ⟨v1210, rfl, ho0, hb⟩; refine ⟨_, rfl, ?_⟩; have HO1211 := zA (R_lower (R_newM (M := fun k_ => (w.heap.size ≤ k_)) ho0 (below_size zs) (fun k_ h_ => h_)) (below_size zs)); replace BK1205 := zb BK1205 hb; replace BK1206 := zb BK1206 hb; replace HB := zf hb; (try clear ho0); obtain ⟨Ao23, co23, eo23⟩ := R_slice HO1211.out; subst eo23) | ((with_reducible refine zG 67 rfl ?_); refine zL (some 20) rfl rfl Tryd.func67 #[.agg #[.bool t1208, .slice Ao23 t1209.length co23, .int .i64 t1212]] rfl ?_; (with_reducible refine (ulpref04_room.calls kj3 t1208 (fun k_ => some k_ = (.slice Ao23 t1209.length co23 : Value).ownBlock) _ _ t1209 t1212 t1213 t1214 t1217 t1218 _ ?side1 A19.out).mono ?_); (case side1 => exact R_V (R_tight rfl (R_types (R_types (HO1211.out) BK1205.out (by decide)) BK1206.out (by decide)))); rintro e w24 ⟨v1215, rfl, ho0, hb⟩; refine ⟨_, rfl, ?_⟩; have HO1216 := zA (V_lower (V_mono (ok' := fun k_ => (w.heap.size ≤ k_) ∧ k_ ≠ gb1205 ∧ k_ ≠ gb1206) ho0 (fun k_ hk_ => ⟨Or.elim hk_ (fun hs_ => ((R_types (R_types (HO1211.out) BK1205.out (by decide)) BK1206.out (by decide)).1 k_ hs_.symm).1.1.1) (fun hn_ => (Nat.le_trans (below_size zs) hn_)), Or.elim hk_ (fun hs_ => ((R_types (R_types (HO1211.out) BK1205.out (by decide)) BK1206.out (by decide)).1 k_ hs_.symm).1.2) (fun hn_ => (zj BK1205 k_ hn_)), Or.elim hk_ (fun hs_ => ((R_types (R_types (HO1211.out) BK1205.out (by decide)) BK1206.out (by decide)).1 k_ hs_.symm).2) (fun hn_ => (zj BK1206 k_ hn_))⟩)) (below_size zs)); replace HO1211 := zA (R_below (ru HO1211.out) hb); replace BK1205 := zb BK1205 hb; replace BK1206 := zb BK1206 hb; replace HB := zf hb; (try clear ho0); obtain ⟨hcz25_0, hcz25_1, hcz25_2, hfz25_0, hfz25_1, hfz25_2⟩ := zc BK1206; obtain ⟨Ao26, co26, eo26⟩ := V_slice HO1216.out; subst eo26))
   refine bodyPost_ret (results_ct rfl _ _ gb1206 25 #[.bool t1213, .slice Ao26 t1214.length co26, .int .i64 t1217] (0, 0) _ rfl (zy BK1206) Tryd.underlying25 rfl (by kernel_rfl)) rfl ?_
   exact ⟨_, er, vu (V_mono (zv gb1206 (V_mono HO1216.out (fun k_ hk => (⟨hk, hk.2.2⟩ : _ ∧ k_ ≠ gb1206))) (fun _ hk => hk.2) _ _ _) (fun _ hk => hk.1.1)), zs⟩
end Go.Proofs.YtemfckibdojbbaaDoor.PAll
