/- Printed functions, merged by a program of this session. -/
import Derived.Test.YtemfckibdojbbaaDoorXDyadFloatsP0
import Derived.Test.YtemfckibdojbbaaDoorXDyadFloatsP15
import Derived.Test.YtemfckibdojbbaaDoorXDyadFloatsP2
import Derived.Test.YtemfckibdojbbaaDoorXDyadFloatsP13
import Derived.Test.YtemfckibdojbbaaDoorXDyadFloatsP16
import Derived.Test.YtemfckibdojbbaaDoorXDyadFloatsP18
import Derived.Laws.StructEq
import Derived.Test.YtemfckibdojbbaaDoorXDyadFloatsSh
namespace Go.Proofs.YtemfckibdojbbaaDoor.PAll
open Go.RowKit Go.Proofs.YtemfckibdojbbaaDoorW.PrintWords Go.Proofs.YtemfckibdojbbaaDoorW.PrintLast Go.Proofs.YtemfckibdojbbaaDoorW.PrintMore Go.Proofs.YtemfckibdojbbaaDoorW.PrintWords.Kd
attribute [local go_sem] max2_int min2_int max_two min_two max_three min_three max_four min_four   -- for this text's walks alone
set_option linter.unusedVariables false
set_option linter.unusedSimpArgs false
attribute [local go_sem] ext135 ext136
def ulpref04_Int.f (k : Nat) (a0 : Int) : Option (Bool × List Int × Int) := if a0 < 0 then ((ulpref03_Of.f k (IntKind.u64.wrap (-(IntKind.u64.wrap (a0))))).bind fun t1128 => ((ulpref04_Form.f k true t1128 0).bind fun bt1131 => (some (bt1131.1, bt1131.2.1, bt1131.2.2)))) else ((ulpref03_Of.f k (IntKind.u64.wrap (a0))).bind fun t1136 => ((ulpref04_Form.f k false t1136 0).bind fun bt1139 => (some (bt1139.1, bt1139.2.1, bt1139.2.2))))
set_option maxHeartbeats 8000000 in
set_option maxRecDepth 100000 in
theorem ulpref04_Int.calls (k : Nat) (a0 : Int) (r1 : Bool) (r2 : List Int) (r3 : Int) (w : World) (h : ulpref04_Int.f k a0 = some (r1, r2, r3)) :
  Calls Tryd.prog 46 #[.int .i64 a0] w fun e w' => ∃ v1_ : Value, e = .returned (.agg #[.bool r1, v1_, .int .i64 r3]) ∧ Kd.R (Kd.int .u64) 43 w' w.heap.size (fun _ => True) v1_ r2 ∧ Below w.heap.size w w' := by
 have hu25 := Tryd.underlying25
 have HB := zA (Below.refl w.heap.size w)
 have H : (if a0 < 0 then ((ulpref03_Of.f k (IntKind.u64.wrap (-(IntKind.u64.wrap (a0))))).bind fun t1128 => ((ulpref04_Form.f k true t1128 0).bind fun bt1131 => (some (bt1131.1, bt1131.2.1, bt1131.2.2)))) else ((ulpref03_Of.f k (IntKind.u64.wrap (a0))).bind fun t1136 => ((ulpref04_Form.f k false t1136 0).bind fun bt1139 => (some (bt1139.1, bt1139.2.1, bt1139.2.2))))) = some (r1, r2, r3) := h
 clear h
 by_cases c2 : a0 < 0
 ·rw [if_pos c2] at H
  have c2b0 := decide_eq_true c2
  clear c2
  obtain ⟨t1128, A3, H⟩ := zh H
  obtain ⟨⟨t1131, t1132, t1135⟩, A4, H⟩ := zh H
  (try dsimp only at H)
  simp only [Option.some.injEq, Prod.mk.injEq] at H
  obtain ⟨rfl, rfl, rfl⟩ := H
  go_enter Tryd.func46, Tryd.ntmps46
  go_wp2_with (first | ((with_reducible refine zD 2 rfl ?_); refine zn (N := 2) (cs := #[.bool false, .slice none 0 0, .int .i64 0]) (t := 25) rfl rfl ?_; intro gb1127 hg w5 hbox hb; have BK1127 := zA (hbox); have GW1127 := zw hg; replace HB := ze hb; clear hb hbox hg) | ((with_reducible refine zG 94 rfl ?_); refine zL (some 8) rfl rfl Tryd.func94 #[.int .u64 (IntKind.u64.wrap (-(IntKind.u64.wrap (a0))))] rfl ?_; (with_reducible refine (ulpref03_Of.calls k (IntKind.u64.wrap (-(IntKind.u64.wrap (a0)))) t1128 _ A3.out).mono ?_); rintro e w6 ⟨v1129, rfl, ho0, hb⟩; refine ⟨_, rfl, ?_⟩; have HO1130 := zA (R_lower ho0 (below_size zs)); replace BK1127 := zb BK1127 hb; replace HB := zf hb; (try clear ho0); obtain ⟨Ao7, co7, eo7⟩ := R_slice HO1130.out; subst eo7) | ((with_reducible refine zG 76 rfl ?_); refine zL (some 9) rfl rfl Tryd.func76 #[.bool true, .slice Ao7 t1128.length co7, .int .i64 0] rfl ?_; (with_reducible refine (ulpref04_Form.calls k true _ _ t1128 0 t1131 t1132 t1135 _ ?side1 ?side2 A4.out).mono ?_); (case side1 => exact zk (R_reads' HO1130.out).2.2); (case side2 => exact (R_reads' HO1130.out).2.1); rintro e w8 ⟨v1133, rfl, ho0, hb⟩; refine ⟨_, rfl, ?_⟩; have HO1134 := zA (R_lower (R_new' ho0 (R_lt (ru HO1130.out))) (below_size zs)); replace HO1130 := zA (R_elder' (ru HO1130.out) (R_base ho0) hb); replace BK1127 := zb BK1127 hb; replace HB := zf hb; (try clear ho0); obtain ⟨hcz9_0, hcz9_1, hcz9_2, hfz9_0, hfz9_1, hfz9_2⟩ := zc BK1127; obtain ⟨Ao10, co10, eo10⟩ := R_slice HO1134.out; subst eo10))
  refine bodyPost_ret (results_cell_row rfl _ _ gb1127 25 #[.bool t1131, .slice Ao10 t1132.length co10, .int .i64 t1135] (0, 0) _ rfl (zy BK1127) Tryd.underlying25 rfl (by kernel_rfl)) rfl ?_
  exact ⟨_, er, ru (R_mono (zr gb1127 (R_types HO1134.out BK1127.out (by decide)) (fun _ hk => hk.2) _ _ _) (fun _ hk => trivial)), zs⟩
 rw [if_neg c2] at H
 have c2b0 := decide_eq_false c2
 clear c2
 obtain ⟨t1136, A11, H⟩ := zh H
 obtain ⟨⟨t1139, t1140, t1143⟩, A12, H⟩ := zh H
 (try dsimp only at H)
 simp only [Option.some.injEq, Prod.mk.injEq] at H
 obtain ⟨rfl, rfl, rfl⟩ := H
 go_enter Tryd.func46, Tryd.ntmps46
 go_wp2_with (first | ((with_reducible refine zD 2 rfl ?_); refine zn (N := 2) (cs := #[.bool false, .slice none 0 0, .int .i64 0]) (t := 25) rfl rfl ?_; intro gb1127 hg w13 hbox hb; have BK1127 := zA (hbox); have GW1127 := zw hg; replace HB := ze hb; clear hb hbox hg) | ((with_reducible refine zG 94 rfl ?_); refine zL (some 12) rfl rfl Tryd.func94 #[.int .u64 (IntKind.u64.wrap (a0))] rfl ?_; (with_reducible refine (ulpref03_Of.calls k (IntKind.u64.wrap (a0)) t1136 _ A11.out).mono ?_); rintro e w14 ⟨v1137, rfl, ho0, hb⟩; refine ⟨_, rfl, ?_⟩; have HO1138 := zA (R_lower ho0 (below_size zs)); replace BK1127 := zb BK1127 hb; replace HB := zf hb; (try clear ho0); obtain ⟨Ao15, co15, eo15⟩ := R_slice HO1138.out; subst eo15) | ((with_reducible refine zG 76 rfl ?_); refine zL (some 13) rfl rfl Tryd.func76 #[.bool false, .slice Ao15 t1136.length co15, .int .i64 0] rfl ?_; (with_reducible refine (ulpref04_Form.calls k false _ _ t1136 0 t1139 t1140 t1143 _ ?side1 ?side2 A12.out).mono ?_); (case side1 => exact zk (R_reads' HO1138.out).2.2); (case side2 => exact (R_reads' HO1138.out).2.1); rintro e w16 ⟨v1141, rfl, ho0, hb⟩; refine ⟨_, rfl, ?_⟩; have HO1142 := zA (R_lower (R_new' ho0 (R_lt (ru HO1138.out))) (below_size zs)); replace HO1138 := zA (R_elder' (ru HO1138.out) (R_base ho0) hb); replace BK1127 := zb BK1127 hb; replace HB := zf hb; (try clear ho0); obtain ⟨hcz17_0, hcz17_1, hcz17_2, hfz17_0, hfz17_1, hfz17_2⟩ := zc BK1127; obtain ⟨Ao18, co18, eo18⟩ := R_slice HO1142.out; subst eo18))
 refine bodyPost_ret (results_cell_row rfl _ _ gb1127 25 #[.bool t1139, .slice Ao18 t1140.length co18, .int .i64 t1143] (0, 0) _ rfl (zy BK1127) Tryd.underlying25 rfl (by kernel_rfl)) rfl ?_
 exact ⟨_, er, ru (R_mono (zr gb1127 (R_types HO1142.out BK1127.out (by decide)) (fun _ hk => hk.2) _ _ _) (fun _ hk => trivial)), zs⟩
def ulplaw04_DyadFloats.f (k : Nat) (a0 : Int) (a1_0 : Bool) (l1_1 : List Int) (a1_2 : Int) (a2 : Int) : Option (Bool) := (dyad_From.f k a0).bind fun bt1145 => ((ulpref04_From.f k a0).bind fun bt1152 => ((dyad_To.f k a1_0 l1_1 a1_2).bind fun bt1159 => ((ulpref04_To.f k a1_0 l1_1 a1_2).bind fun bt1161 => ((ulpref04_Same.f k bt1145.1 bt1145.2.1 bt1145.2.2.1 bt1152.1 bt1152.2.1 bt1152.2.2.1).bind fun t1163 => (if t1163 = true then (if bt1145.2.2.2 = bt1152.2.2.2 then (if bt1159.1 = bt1161.1 then (if (bt1159.2 == bt1161.2) = true then ((dyad_Int.f k a2).bind fun bt1164 => ((ulpref04_Int.f k a2).bind fun bt1169 => ((ulpref04_Same.f k bt1164.1 bt1164.2.1 bt1164.2.2 bt1169.1 bt1169.2.1 bt1169.2.2).bind fun t1174 => (if t1174 = true then ((ulplaw04_begins.f k).bind fun t1175 => (some t1175)) else (some false))))) else (some false)) else (some false)) else (some false)) else (some false))))))
set_option maxHeartbeats 8000000 in
set_option maxRecDepth 100000 in
theorem ulplaw04_DyadFloats.calls (k : Nat) (a0 : Int) (a1_0 : Bool) (A1_1 : Option Addr) (c1_1 : Nat) (l1_1 : List Int) (a1_2 : Int) (a2 : Int) (r : Bool) (w : World) (hr1_1 : Kd.C (Kd.int .u64) w A1_1 l1_1.length l1_1) (hc1_1 : l1_1.length ≤ c1_1) (hT : Laid w) (hr_ : Aside0 (r = true)) (h : ulplaw04_DyadFloats.f k a0 a1_0 l1_1 a1_2 a2 = some r) :
  Calls Tryd.prog 8 #[.int .u64 a0, .agg #[.bool a1_0, .slice A1_1 l1_1.length c1_1, .int .i64 a1_2], .int .i64 a2] w fun e w' => e = .returned (.bool r) ∧ Below w.heap.size w w' := by
 have hu25 := Tryd.underlying25
 have HR1_1 := zA hr1_1
 have HC1_1 := zA hc1_1
 clear hr1_1 hc1_1
 have HB := zA (Below.refl w.heap.size w)
 have H : ((dyad_From.f k a0).bind fun bt1145 => ((ulpref04_From.f k a0).bind fun bt1152 => ((dyad_To.f k a1_0 l1_1 a1_2).bind fun bt1159 => ((ulpref04_To.f k a1_0 l1_1 a1_2).bind fun bt1161 => ((ulpref04_Same.f k bt1145.1 bt1145.2.1 bt1145.2.2.1 bt1152.1 bt1152.2.1 bt1152.2.2.1).bind fun t1163 => (if t1163 = true then (if bt1145.2.2.2 = bt1152.2.2.2 then (if bt1159.1 = bt1161.1 then (if (bt1159.2 == bt1161.2) = true then ((dyad_Int.f k a2).bind fun bt1164 => ((ulpref04_Int.f k a2).bind fun bt1169 => ((ulpref04_Same.f k bt1164.1 bt1164.2.1 bt1164.2.2 bt1169.1 bt1169.2.1 bt1169.2.2).bind fun t1174 => (if t1174 = true then ((ulplaw04_begins.f k).bind fun t1175 => (some t1175)) else (some false))))) else (some false)) else (some false)) else (some false)) else (some false))))))) = some r := h
 clear h
 obtain ⟨⟨t1145, t1146, t1149, t1150⟩, A4, H⟩ := zh H
 (try dsimp only at H)
 obtain ⟨⟨t1152, t1153, t1156, t1157⟩, A5, H⟩ := zh H
 (try dsimp only at H)
 obtain ⟨⟨t1159, t1160⟩, A6, H⟩ := zh H
 (try dsimp only at H)
 obtain ⟨⟨t1161, t1162⟩, A7, H⟩ := zh H
 (try dsimp only at H)
 obtain ⟨t1163, A8, H⟩ := zh H
 by_cases c9 : t1163 = true
 ·subst c9
  rw [if_pos rfl] at H
  by_cases c10 : t1150 = t1157
  ·rw [if_pos c10] at H
   have c10b0 := beq_iff_eq.mpr c10
   have c10b1 := bne_eq_false_iff_eq.mpr c10
   clear c10
   by_cases c11 : t1159 = t1161
   ·rw [if_pos c11] at H
    have c11b0 := beq_iff_eq.mpr c11
    have c11b1 := bne_eq_false_iff_eq.mpr c11
    clear c11
    by_cases c12 : (t1160 == t1162) = true
    ·rw [if_pos c12] at H
     have c12b0 : (t1160 == t1162) = true := c12
     (try (have c12b1 : decide (t1160 = t1162) = true := by simpa using c12))
     (try (have c12b2 : (t1160 == t1162) = true := by simpa using c12))
     clear c12
     obtain ⟨⟨t1164, t1165, t1168⟩, A13, H⟩ := zh H
     (try dsimp only at H)
     obtain ⟨⟨t1169, t1170, t1173⟩, A14, H⟩ := zh H
     (try dsimp only at H)
     obtain ⟨t1174, A15, H⟩ := zh H
     by_cases c16 : t1174 = true
     ·subst c16
      rw [if_pos rfl] at H
      obtain ⟨t1175, A17, H⟩ := zh H
      clear hr_
      obtain rfl := Option.some.inj H
      go_enter Tryd.func8, Tryd.ntmps8
      go_wp2_with (first | ((with_reducible refine zD 4 rfl ?_); refine zn (N := 4) (cs := #[.bool a1_0, .slice A1_1 l1_1.length c1_1, .int .i64 a1_2]) (t := 25) rfl rfl ?_; intro gb1144 hg w18 hbox hb; have BK1144 := zA (hbox); have GW1144 := zw hg; replace HB := ze hb; clear hb hbox hg) | ((with_reducible refine zG 41 rfl ?_); refine zL (some 17) rfl rfl Tryd.func41 #[.int .u64 a0] rfl ?_; (with_reducible refine (dyad_From.calls k a0 t1145 t1146 t1149 t1150 _ (laid_below hT zs) A4.out).mono ?_); rintro e w19 ⟨v1147, rfl, ho0, hb⟩; refine ⟨_, rfl, ?_⟩; have HO1148 := zA (V_lower (V_mono (ok' := fun k_ => k_ ≠ gb1144) ho0 (fun k_ hk_ => (zj BK1144 k_ hk_))) (below_size zs)); replace BK1144 := zb BK1144 hb; replace HB := zf hb; (try clear ho0)) | ((with_reducible refine zD 7 rfl ?_); refine zn (N := 7) (cs := #[.bool false, .slice none 0 0, .int .i64 0]) (t := 25) rfl rfl ?_; intro gb1151 hg w20 hbox hb; replace HO1148 := zA (V_below (V_elderB (vu HO1148.out) gb1151 (Nat.le_of_eq hg.symm)) hb); have BK1151 := zA (hbox); have GW1151 := zx hg; replace HB := zf hb; have NB1144_1151 := zl BK1144 hg; have NB1151_1144 := zg BK1144 hg; replace BK1144 := zb BK1144 hb; clear hb hbox hg; have hnb21 := NB1151_1144.out; have hnc21 := NB1144_1151.out; obtain ⟨hcz22_0, hcz22_1, hcz22_2, hfz22_0, hfz22_1, hfz22_2⟩ := zc BK1151; obtain ⟨Ao23, co23, eo23⟩ := V_slice HO1148.out; subst eo23) | ((with_reducible refine zG 42 rfl ?_); refine zL (some 22) rfl rfl Tryd.func42 #[.int .u64 a0] rfl ?_; (with_reducible refine (ulpref04_From.calls k a0 t1152 t1153 t1156 t1157 _ A5.out).mono ?_); rintro e w24 ⟨v1154, rfl, ho0, hb⟩; refine ⟨_, rfl, ?_⟩; replace HO1148 := zA (V_elder' (vu (V_mono (zv gb1151 (V_mono HO1148.out (fun k_ hk => (⟨hk, hk.2⟩ : _ ∧ k_ ≠ gb1151))) (fun _ hk => hk.2) _ _ _) (fun _ h_ => h_.1))) (R_base ho0) hb); have HO1155 := zA (R_lower ho0 (below_size zs)); replace BK1144 := zF BK1144 hb; replace BK1151 := zt BK1151 hb; replace HB := zf hb; (try clear hk); (try clear ho0)) | ((with_reducible refine zD 9 rfl ?_); refine zn (N := 9) (cs := #[.bool false, .slice none 0 0, .int .i64 0]) (t := 25) rfl rfl ?_; intro gb1158 hg w25 hbox hb; replace HO1148 := zA (V_below (V_elderB (vu HO1148.out) gb1158 (Nat.le_of_eq hg.symm)) hb); replace HO1155 := zA (R_below (ru HO1155.out) hb); have BK1158 := zA (hbox); have GW1158 := zx hg; replace HB := zf hb; have NB1144_1158 := zl BK1144 hg; have NB1158_1144 := zg BK1144 hg; replace BK1144 := zb BK1144 hb; have NB1151_1158 := zl BK1151 hg; have NB1158_1151 := zg BK1151 hg; replace BK1151 := zb BK1151 hb; clear hb hbox hg; have hnb26 := NB1158_1144.out; have hnc26 := NB1144_1158.out; have hnb27 := NB1158_1151.out; have hnc27 := NB1151_1158.out; obtain ⟨hcz28_0, hcz28_1, hcz28_2, hfz28_0, hfz28_1, hfz28_2⟩ := zc BK1158; obtain ⟨Ao29, co29, eo29⟩ := R_slice HO1155.out; subst eo29; obtain ⟨hcz30_0, hcz30_1, hcz30_2, hfz30_0, hfz30_1, hfz30_2⟩ := zc BK1144) | ((with_reducible refine zG 43 rfl ?_); refine zL (some 27) rfl rfl Tryd.func43 #[.agg #[.bool a1_0, .slice A1_1 l1_1.length c1_1, .int .i64 a1_2]] rfl ?_; (with_reducible refine (dyad_To.calls k a1_0 _ _ l1_1 a1_2 t1159 t1160 _ ?side1 ?side2 (laid_below hT zs) A6.out).mono ?_); (case side1 => exact C_below HR1_1.out zs); (case side2 => exact HC1_1.out); rintro e w31 ⟨rfl, hb⟩; refine ⟨_, rfl, ?_⟩; replace HO1148 := zA (V_below (vu (V_mono (zv gb1158 (V_mono HO1148.out (fun k_ hk => (⟨hk, hk.2⟩ : _ ∧ k_ ≠ gb1158))) (fun _ hk => hk.2) _ _ _) (fun _ h_ => h_.1))) hb); replace HO1155 := zA (R_below (ru (R_mono (zr gb1158 (R_types HO1155.out BK1158.out (by decide)) (fun _ hk => hk.2) _ _ _) (fun _ h_ => h_.1))) hb); replace BK1144 := zF BK1144 hb; replace BK1151 := zF BK1151 hb; replace BK1158 := zt BK1158 hb; replace HB := zf hb; (try clear hk); obtain ⟨hcz32_0, hcz32_1, hcz32_2, hfz32_0, hfz32_1, hfz32_2⟩ := zc BK1144) | ((with_reducible refine zG 44 rfl ?_); refine zL (some 32) rfl rfl Tryd.func44 #[.agg #[.bool a1_0, .slice A1_1 l1_1.length c1_1, .int .i64 a1_2]] rfl ?_; (with_reducible refine (ulpref04_To.calls k a1_0 _ _ l1_1 a1_2 t1161 t1162 _ ?side1 ?side2 A7.out).mono ?_); (case side1 => exact zk (C_below HR1_1.out HB.out)); (case side2 => exact HC1_1.out); rintro e w33 ⟨rfl, hb⟩; refine ⟨_, rfl, ?_⟩; replace HO1148 := zA (V_below (vu HO1148.out) hb); replace HO1155 := zA (R_below (ru HO1155.out) hb); replace BK1144 := zb BK1144 hb; replace BK1151 := zb BK1151 hb; replace BK1158 := zb BK1158 hb; replace HB := zf hb; obtain ⟨hcz34_0, hcz34_1, hcz34_2, hfz34_0, hfz34_1, hfz34_2⟩ := zc BK1151; obtain ⟨hcz35_0, hcz35_1, hcz35_2, hfz35_0, hfz35_1, hfz35_2⟩ := zc BK1158) | ((with_reducible refine zG 23 rfl ?_); refine zL (some 37) rfl rfl Tryd.func23 #[.agg #[.bool t1145, .slice Ao23 t1146.length co23, .int .i64 t1149], .agg #[.bool t1152, .slice Ao29 t1153.length co29, .int .i64 t1156]] rfl ?_; (with_reducible refine (ulpref04_Same.calls k t1145 _ _ t1146 t1149 t1152 _ _ t1153 t1156 true _ ?side1 ?side2 ?side3 ?side4 A8.out).mono ?_); (case side1 => exact zk (V_reads' HO1148.out).2.2); (case side2 => exact (V_reads' HO1148.out).2.1); (case side3 => exact zk (R_reads' HO1155.out).2.2); (case side4 => exact (R_reads' HO1155.out).2.1); rintro e w36 ⟨rfl, hb⟩; refine ⟨_, rfl, ?_⟩; replace HO1148 := zA (V_below (vu HO1148.out) hb); replace HO1155 := zA (R_below (ru HO1155.out) hb); replace BK1144 := zb BK1144 hb; replace BK1151 := zb BK1151 hb; replace BK1158 := zb BK1158 hb; replace HB := zf hb) | (go_at_call 45; (with_reducible refine (dyad_Int.calls k a2 t1164 t1165 t1168 _ (laid_below hT zs) A13.out).mono ?_); rintro e w37 ⟨v1166, rfl, ho0, hb⟩; replace HO1148 := zA (V_below (vu HO1148.out) hb); have HO1167 := zA (V_lower (V_mono (ok' := fun k_ => some k_ ≠ (.slice Ao29 t1153.length co29 : Value).ownBlock ∧ k_ ≠ gb1144 ∧ k_ ≠ gb1151 ∧ k_ ≠ gb1158) ho0 (fun k_ hk_ => ⟨(Kd.fresh' (R_lt (ru HO1155.out)) k_ hk_), (zj BK1144 k_ hk_), (zj BK1151 k_ hk_), (zj BK1158 k_ hk_)⟩)) (below_size zs)); replace HO1155 := zA (R_below (ru HO1155.out) hb); replace BK1144 := zb BK1144 hb; replace BK1151 := zb BK1151 hb; replace BK1158 := zb BK1158 hb; replace HB := zf hb; (try clear ho0)) | (go_at_call 46; (with_reducible refine (ulpref04_Int.calls k a2 t1169 t1170 t1173 _ A14.out).mono ?_); rintro e w38 ⟨v1171, rfl, ho0, hb⟩; replace HO1148 := zA (V_elder' (vu HO1148.out) (R_base ho0) hb); replace HO1167 := zA (V_elder' (vu HO1167.out) (R_base ho0) hb); have HO1172 := zA (R_lower (R_new' ho0 (R_lt (ru HO1155.out))) (below_size zs)); replace HO1155 := zA (R_elder' (ru HO1155.out) (R_base ho0) hb); replace BK1144 := zb BK1144 hb; replace BK1151 := zb BK1151 hb; replace BK1158 := zb BK1158 hb; replace HB := zf hb; (try clear ho0); obtain ⟨Ao39, co39, eo39⟩ := V_slice HO1167.out; subst eo39; obtain ⟨Ao40, co40, eo40⟩ := R_slice HO1172.out; subst eo40) | (go_at_call 23; (with_reducible refine (ulpref04_Same.calls k t1164 _ _ t1165 t1168 t1169 _ _ t1170 t1173 true _ ?side1 ?side2 ?side3 ?side4 A15.out).mono ?_); (case side1 => exact zk (V_reads' HO1167.out).2.2); (case side2 => exact (V_reads' HO1167.out).2.1); (case side3 => exact zk (R_reads' HO1172.out).2.2); (case side4 => exact (R_reads' HO1172.out).2.1); rintro e w41 ⟨rfl, hb⟩; replace HO1148 := zA (V_below (vu HO1148.out) hb); replace HO1155 := zA (R_below (ru HO1155.out) hb); replace HO1167 := zA (V_below (vu HO1167.out) hb); replace HO1172 := zA (R_below (ru HO1172.out) hb); replace BK1144 := zb BK1144 hb; replace BK1151 := zb BK1151 hb; replace BK1158 := zb BK1158 hb; replace HB := zf hb) | (go_at_call 15; (with_reducible refine (ulplaw04_begins.calls k  t1175 _ (laid_below hT zs) (zA (ulplaw04_begins.true_ k t1175 A17.out)) A17.out).mono ?_); rintro e w42 ⟨rfl, hb⟩; replace HO1148 := zA (V_below (vu HO1148.out) hb); replace HO1155 := zA (R_below (ru HO1155.out) hb); replace HO1167 := zA (V_below (vu HO1167.out) hb); replace HO1172 := zA (R_below (ru HO1172.out) hb); replace BK1144 := zb BK1144 hb; replace BK1151 := zb BK1151 hb; replace BK1158 := zb BK1158 hb; replace HB := zf hb))
      go_ret
      exact ⟨er, zs⟩
     replace c16 := Bool.eq_false_iff.mpr c16
     subst c16
     rw [if_neg (show ¬ (false = true) by decide)] at H
     obtain rfl := Option.some.inj H
     exact absurd hr_.out (by decide)
    rw [if_neg c12] at H
    have c12b0 : (t1160 == t1162) = false := by simpa using c12
    (try (have c12b1 : decide (t1160 = t1162) = false := by simpa using c12))
    (try (have c12b2 : (t1160 == t1162) = false := by simpa using c12))
    (try (have c12b3 : ¬ (t1160 = t1162) := by simpa using c12))
    clear c12
    obtain rfl := Option.some.inj H
    exact absurd hr_.out (by decide)
   rw [if_neg c11] at H
   have c11b0 := beq_eq_false_iff_ne.mpr c11
   have c11b1 := bne_iff_ne.mpr c11
   obtain rfl := Option.some.inj H
   exact absurd hr_.out (by decide)
  rw [if_neg c10] at H
  have c10b0 := beq_eq_false_iff_ne.mpr c10
  have c10b1 := bne_iff_ne.mpr c10
  obtain rfl := Option.some.inj H
  exact absurd hr_.out (by decide)
 replace c9 := Bool.eq_false_iff.mpr c9
 subst c9
 rw [if_neg (show ¬ (false = true) by decide)] at H
 obtain rfl := Option.some.inj H
 exact absurd hr_.out (by decide)
end Go.Proofs.YtemfckibdojbbaaDoor.PAll
