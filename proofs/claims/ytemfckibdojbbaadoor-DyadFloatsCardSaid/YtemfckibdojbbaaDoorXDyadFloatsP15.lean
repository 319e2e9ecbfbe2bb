/- Printed functions, merged by a program of this session. -/
import Derived.Test.YtemfckibdojbbaaDoorXDyadFloatsP0
import Derived.Test.YtemfckibdojbbaaDoorXDyadFloatsP14
import Derived.Laws.StructEq
import Derived.Test.YtemfckibdojbbaaDoorXDyadFloatsSh
namespace Go.Proofs.YtemfckibdojbbaaDoor.PAll
open Go.RowKit Go.Proofs.YtemfckibdojbbaaDoorW.PrintWords Go.Proofs.YtemfckibdojbbaaDoorW.PrintLast Go.Proofs.YtemfckibdojbbaaDoorW.PrintMore Go.Proofs.YtemfckibdojbbaaDoorW.PrintWords.Kd
attribute [local go_sem] max2_int min2_int max_two min_two max_three min_three max_four min_four   -- for this text's walks alone
set_option linter.unusedVariables false
set_option linter.unusedSimpArgs false
attribute [local go_sem] ext135 ext136
def ulpref04_Form.f (k : Nat) (a0 : Bool) (l1 : List Int) (a2 : Int) : Option (Bool × List Int × Int) := (ulpref03_Norm.f k l1).bind fun t556 => (if (t556.length : Int) = 0 then (some (false, ([] : List Int), 0)) else ((ulpref03_Low.f k t556).bind fun t559 => ((ulpref03_Shr.f k t556 t559).bind fun bt560 => (some (a0, bt560.1, wrap64 (a2 + t559))))))
set_option maxHeartbeats 8000000 in
set_option maxRecDepth 100000 in
theorem ulpref04_Form.calls (k : Nat) (a0 : Bool) (A1 : Option Addr) (c1 : Nat) (l1 : List Int) (a2 : Int) (r1 : Bool) (r2 : List Int) (r3 : Int) (w : World) (hr1 : Kd.C (Kd.int .u64) w A1 l1.length l1) (hc1 : l1.length ≤ c1) (h : ulpref04_Form.f k a0 l1 a2 = some (r1, r2, r3)) :
  Calls Tryd.prog 76 #[.bool a0, .slice A1 l1.length c1, .int .i64 a2] w fun e w' => ∃ v1_ : Value, e = .returned (.agg #[.bool r1, v1_, .int .i64 r3]) ∧ Kd.R (Kd.int .u64) 43 w' w.heap.size (fun _ => True) v1_ r2 ∧ Below w.heap.size w w' := by
 have hu25 := Tryd.underlying25
 have HR1 := zA hr1
 have HC1 := zA hc1
 clear hr1 hc1
 have HB := zA (Below.refl w.heap.size w)
 have H : ((ulpref03_Norm.f k l1).bind fun t556 => (if (t556.length : Int) = 0 then (some (false, ([] : List Int), 0)) else ((ulpref03_Low.f k t556).bind fun t559 => ((ulpref03_Shr.f k t556 t559).bind fun bt560 => (some (a0, bt560.1, wrap64 (a2 + t559))))))) = some (r1, r2, r3) := h
 clear h
 obtain ⟨t556, A4, H⟩ := zh H
 by_cases c5 : (t556.length : Int) = 0
 ·rw [if_pos c5] at H
  have c5b0 := beq_iff_eq.mpr c5
  have c5b1 := bne_eq_false_iff_eq.mpr c5
  clear c5
  simp only [Option.some.injEq, Prod.mk.injEq] at H
  obtain ⟨rfl, rfl, rfl⟩ := H
  go_enter Tryd.func76, Tryd.ntmps76
  go_wp2_with (first | ((with_reducible refine zD 6 rfl ?_); refine zn (N := 6) (cs := #[.bool false, .slice none 0 0, .int .i64 0]) (t := 25) rfl rfl ?_; intro gb555 hg w6 hbox hb; have BK555 := zA (hbox); have GW555 := zw hg; replace HB := ze hb; clear hb hbox hg) | ((with_reducible refine zG 74 rfl ?_); refine zL (some 12) rfl rfl Tryd.func74 #[.slice A1 l1.length c1] rfl ?_; (with_reducible refine (ulpref03_Norm.calls k _ _ l1 t556 _ ?side1 ?side2 A4.out).mono ?_); (case side1 => exact zk (C_below HR1.out HB.out)); (case side2 => exact HC1.out); rintro e w7 ⟨v557, rfl, ho0, hb⟩; refine ⟨_, rfl, ?_⟩; have HO558 := zA (R_lower ho0 (below_size zs)); replace BK555 := zb BK555 hb; replace HB := zf hb; (try clear ho0); obtain ⟨Ao8, co8, eo8⟩ := R_slice HO558.out; subst eo8; obtain ⟨hcz9_0, hcz9_1, hcz9_2, hfz9_0, hfz9_1, hfz9_2⟩ := zc BK555))
  refine bodyPost_ret (results_cell_row rfl _ _ gb555 25 #[.bool false, .slice none 0 0, .int .i64 0] (0, 0) _ rfl (zy BK555) Tryd.underlying25 rfl (by kernel_rfl)) rfl ?_
  exact ⟨_, er, by first | exact R_nil _ _ _ _ _ | exact Kd.N_nil _ _ _ _ _ | exact V_nil _ _ _ _ _ | exact Kd.Q_nil _ _ _ _ _ | exact Kd.S_nil _ _ _ _ _, zs⟩
 rw [if_neg c5] at H
 have c5b0 := beq_eq_false_iff_ne.mpr c5
 have c5b1 := bne_iff_ne.mpr c5
 have c5b2 : ¬ (t556 = []) := fun h_ => c5 (by rw [h_]; rfl)
 obtain ⟨t559, A10, H⟩ := zh H
 obtain ⟨⟨t560, t561⟩, A11, H⟩ := zh H
 (try dsimp only at H)
 simp only [Option.some.injEq, Prod.mk.injEq] at H
 obtain ⟨rfl, rfl, rfl⟩ := H
 go_enter Tryd.func76, Tryd.ntmps76
 go_wp2_with (first | ((with_reducible refine zD 6 rfl ?_); refine zn (N := 6) (cs := #[.bool false, .slice none 0 0, .int .i64 0]) (t := 25) rfl rfl ?_; intro gb555 hg w12 hbox hb; have BK555 := zA (hbox); have GW555 := zw hg; replace HB := ze hb; clear hb hbox hg) | ((with_reducible refine zG 74 rfl ?_); refine zL (some 12) rfl rfl Tryd.func74 #[.slice A1 l1.length c1] rfl ?_; (with_reducible refine (ulpref03_Norm.calls k _ _ l1 t556 _ ?side1 ?side2 A4.out).mono ?_); (case side1 => exact zk (C_below HR1.out HB.out)); (case side2 => exact HC1.out); rintro e w13 ⟨v557, rfl, ho0, hb⟩; refine ⟨_, rfl, ?_⟩; have HO558 := zA (R_lower ho0 (below_size zs)); replace BK555 := zb BK555 hb; replace HB := zf hb; (try clear ho0); obtain ⟨Ao14, co14, eo14⟩ := R_slice HO558.out; subst eo14) | ((with_reducible refine zG 124 rfl ?_); refine zL (some 18) rfl rfl Tryd.func124 #[.slice Ao14 t556.length co14] rfl ?_; (with_reducible refine (ulpref03_Low.calls k _ _ t556 t559 _ ?side1 ?side2 A10.out).mono ?_); (case side1 => exact zk (R_reads' HO558.out).2.2); (case side2 => exact (R_reads' HO558.out).2.1); rintro e w15 ⟨rfl, hb⟩; refine ⟨_, rfl, ?_⟩; replace HO558 := zA (R_below (ru HO558.out) hb); replace BK555 := zb BK555 hb; replace HB := zf hb) | ((with_reducible refine zG 125 rfl ?_); refine zL (some 22) rfl rfl Tryd.func125 #[.slice Ao14 t556.length co14, .int .i64 t559] rfl ?_; (with_reducible refine (ulpref03_Shr.calls k _ _ t556 t559 t560 t561 _ ?side1 ?side2 A11.out).mono ?_); (case side1 => exact zk (R_reads' HO558.out).2.2); (case side2 => exact (R_reads' HO558.out).2.1); rintro e w16 ⟨v562, rfl, ho0, hb⟩; refine ⟨_, rfl, ?_⟩; have HO563 := zA (R_lower (R_new' ho0 (R_lt (ru HO558.out))) (below_size zs)); replace HO558 := zA (R_elder' (ru HO558.out) (R_base ho0) hb); replace BK555 := zb BK555 hb; replace HB := zf hb; (try clear ho0); obtain ⟨Ao17, co17, eo17⟩ := R_slice HO563.out; subst eo17; obtain ⟨hcz18_0, hcz18_1, hcz18_2, hfz18_0, hfz18_1, hfz18_2⟩ := zc BK555))
 refine bodyPost_ret (results_cell_row rfl _ _ gb555 25 #[.bool a0, .slice Ao17 t560.length co17, .int .i64 (wrap64 (a2 + t559))] (0, 0) _ rfl (zy BK555) Tryd.underlying25 rfl (by kernel_rfl)) rfl ?_
 exact ⟨_, er, ru (R_mono (R_far (p := ⟨gb555, 2, none⟩) (R_far (p := ⟨gb555, 1, none⟩) (R_far (p := ⟨gb555, 0, none⟩) (R_types HO563.out BK555.out (by decide)) (fun _ hk => hk.2) (.bool a0)) (fun _ hk => hk.2) (.slice Ao17 t560.length co17)) (fun _ hk => hk.2) (.int .i64 (wrap64 (a2 + t559)))) (fun _ hk => trivial)), zs⟩
def ulpref01_Finite.f (a0 : Int) : Option (Bool) := some (decide ((Int.tmod a0 9223372036854775808) < 9218868437227405312))
set_option maxHeartbeats 8000000 in
set_option maxRecDepth 100000 in
theorem ulpref01_Finite.calls (a0 : Int) (r : Bool) (w : World) (h : ulpref01_Finite.f a0 = some r) :
  Calls Tryd.prog 92 #[.int .u64 a0] w fun e w' => e = .returned (.bool r) ∧ Drawn0 w w' := by
 have H : (some (decide ((Int.tmod a0 9223372036854775808) < 9218868437227405312))) = some r := h
 clear h
 obtain rfl := Option.some.inj H
 go_enter Tryd.func92, Tryd.ntmps92
 go_wp2
 go_ret
 exact ⟨by first | rfl | (simp; done) | (simp [*]; done), by repeat (first | exact Drawn0.refl _ | apply Drawn0.step)⟩
def ulpref01_Split.f (a0 : Int) : Option (Bool × Int × Int) := some (decide (a0 ≥ 9223372036854775808), wrap64 (Int.tmod (IntKind.u64.wrap (Int.tdiv a0 4503599627370496)) 2048), Int.tmod a0 4503599627370496)
set_option maxHeartbeats 8000000 in
set_option maxRecDepth 100000 in
theorem ulpref01_Split.calls (a0 : Int) (r1 : Bool) (r2 : Int) (r3 : Int) (w : World) (h : ulpref01_Split.f a0 = some (r1, r2, r3)) :
  Calls Tryd.prog 93 #[.int .u64 a0] w fun e w' => e = .returned (.agg #[.bool r1, .int .i64 r2, .int .u64 r3]) ∧ Below w.heap.size w w' := by
 have hu76 := Tryd.underlying76
 have HB := zA (Below.refl w.heap.size w)
 have H : (some (decide (a0 ≥ 9223372036854775808), wrap64 (Int.tmod (IntKind.u64.wrap (Int.tdiv a0 4503599627370496)) 2048), Int.tmod a0 4503599627370496)) = some (r1, r2, r3) := h
 clear h
 simp only [Option.some.injEq, Prod.mk.injEq] at H
 obtain ⟨rfl, rfl, rfl⟩ := H
 go_enter Tryd.func93, Tryd.ntmps93
 go_wp2_with (first | ((with_reducible refine zD 2 rfl ?_); refine zn (N := 2) (cs := #[.bool false, .int .i64 0, .int .u64 0]) (t := 76) rfl rfl ?_; intro gb1070 hg w2 hbox hb; have BK1070 := zA (hbox); have GW1070 := zw hg; replace HB := ze hb; clear hb hbox hg; obtain ⟨_, _, _, _, _, _⟩ := zc BK1070))
 refine bodyPost_ret (results_cell_row rfl _ _ gb1070 76 #[.bool (decide (a0 ≥ 9223372036854775808)), .int .i64 (wrap64 (Int.tmod (IntKind.u64.wrap (Int.tdiv a0 4503599627370496)) 2048)), .int .u64 (Int.tmod a0 4503599627370496)] (0, 0) _ rfl (zy BK1070) Tryd.underlying76 rfl (by kernel_rfl)) rfl ?_
 exact ⟨er, zs⟩
def ulpref03_Of.f (k : Nat) (a0 : Int) : Option (List Int) := (ulpref03_Norm.f k (([a0] : List Int))).bind fun t1074 => (some t1074)
set_option maxHeartbeats 8000000 in
set_option maxRecDepth 100000 in
theorem ulpref03_Of.calls (k : Nat) (a0 : Int) (r : List Int) (w : World) (h : ulpref03_Of.f k a0 = some r) :
  Calls Tryd.prog 94 #[.int .u64 a0] w fun e w' => ∃ v0_ : Value, e = .returned (v0_) ∧ Kd.R (Kd.int .u64) 43 w' w.heap.size (fun _ => True) v0_ r ∧ Below w.heap.size w w' := by
 have HB := zA (Below.refl w.heap.size w)
 have H : ((ulpref03_Norm.f k (([a0] : List Int))).bind fun t1074 => (some t1074)) = some r := h
 clear h
 obtain ⟨y1071, hy1071⟩ : ∃ y_ : List Int, y_ = (([a0] : List Int)) := ⟨_, rfl⟩
 replace H : ((ulpref03_Norm.f k y1071).bind fun t1074 => (some t1074)) = some r := zR hy1071 H
 have Ny1071 := zA hy1071
 clear hy1071
 obtain ⟨t1074, A2, H⟩ := zh H
 obtain rfl := Option.some.inj H
 go_enter Tryd.func94, Tryd.ntmps94
 go_wp2_with (first | ((with_reducible refine zD 4 rfl ?_); refine R_lit (Kd.int .u64) _ 43 ?hg (N := 4) ?hd (xs := ([a0] : List Int)) (inner := [.int .u64 a0]) (ok := fun _ => True) (okp := fun _ => True) ?hr ?hp (fun _ hk => hk) trivial (Below.refl _ _) (Nat.le_refl _) (by simp) ?_; (case hd => rfl); (case hg => rfl); (case hr => first | (go_simp; done) | (go_simp; rfl)); (case hp => exact (Reps.one (show Kd.M (Kd.int .u64) _ _ _ a0 [.int .u64 a0] from rfl) (Reps.none _ _))); intro v1072 w3 ho4 hb hg_ hnew_; clear hg_ hnew_; (first | rw [← Ny1071.out] at ho4 | (simp only [Int.reduceToNat] at ho4; rw [← Ny1071.out] at ho4)); have HO1073 := zA (R_lower ho4 (below_size bq)); replace HB := ze hb; clear hb ho4; obtain ⟨Ao5, co5, eo5⟩ := R_slice HO1073.out; subst eo5) | ((with_reducible refine zG 74 rfl ?_); refine zL (some 5) rfl rfl Tryd.func74 #[.slice Ao5 y1071.length co5] rfl ?_; (with_reducible refine (ulpref03_Norm.calls k _ _ y1071 t1074 _ ?side1 ?side2 A2.out).mono ?_); (case side1 => exact zk (R_reads' HO1073.out).2.2); (case side2 => exact (R_reads' HO1073.out).2.1); rintro e w6 ⟨v1075, rfl, ho0, hb⟩; refine ⟨_, rfl, ?_⟩; have HO1076 := zA (R_lower (R_new' ho0 (R_lt (ru HO1073.out))) (below_size bq)); replace HO1073 := zA (R_elder' (ru HO1073.out) (R_base ho0) hb); replace HB := ze hb; (try clear ho0)))
 go_ret
 exact ⟨_, er, ru (R_mono HO1076.out (fun _ hk => trivial)), bq⟩
def ulpref04_From.f (k : Nat) (a0 : Int) : Option (Bool × List Int × Int × Int) := (ulpref01_Finite.f a0).bind fun t1078 => (if t1078 = true then ((ulpref01_Split.f a0).bind fun bt1079 => (if bt1079.2.1 > 0 then ((ulpref03_Of.f k (IntKind.u64.wrap (bt1079.2.2 + 4503599627370496))).bind fun t1083 => ((ulpref04_Form.f k bt1079.1 t1083 (wrap64 (bt1079.2.1 - 1075))).bind fun bt1086 => (some (bt1086.1, bt1086.2.1, bt1086.2.2, 0)))) else ((ulpref03_Of.f k bt1079.2.2).bind fun t1091 => ((ulpref04_Form.f k bt1079.1 t1091 (-1074)).bind fun bt1094 => (some (bt1094.1, bt1094.2.1, bt1094.2.2, 0)))))) else (some (false, ([] : List Int), 0, 5)))
def ulpref04_From.T9 : Bool × List (List Nat × List Nat) := (true, [([], []), ([0], [0]), ([], []), ([2], [2]), ([], []), ([1, 3, 4, 3], [1, 3, 4]), ([5, 5, 0, 1, 2, 3, 4, 5], [5]), ([6, 0, 1, 2, 3, 4, 5, 6], [])])
def ulpref04_From.B9 : List Nat := [0, 1, 0, 4, 0, 31, 63, 127]
theorem ulpref04_From.tab9 : rtab .any (opsOf Tryd.f42 9) = ulpref04_From.T9 := by kernel_rfl
theorem ulpref04_From.bits9 : waitsOk ulpref04_From.T9.2 ulpref04_From.B9 = true := by kernel_rfl
set_option maxHeartbeats 8000000 in
set_option maxRecDepth 100000 in
theorem ulpref04_From.calls (k : Nat) (a0 : Int) (r1 : Bool) (r2 : List Int) (r3 : Int) (r4 : Int) (w : World) (h : ulpref04_From.f k a0 = some (r1, r2, r3, r4)) :
  Calls Tryd.prog 42 #[.int .u64 a0] w fun e w' => ∃ v1_ : Value, e = .returned (.tuple #[.agg #[.bool r1, v1_, .int .i64 r3], .int .i64 r4]) ∧ Kd.R (Kd.int .u64) 43 w' w.heap.size (fun _ => True) v1_ r2 ∧ Below w.heap.size w w' := by
 have hu25 := Tryd.underlying25
 have hu76 := Tryd.underlying76
 have HB := zA (Below.refl w.heap.size w)
 have H : ((ulpref01_Finite.f a0).bind fun t1078 => (if t1078 = true then ((ulpref01_Split.f a0).bind fun bt1079 => (if bt1079.2.1 > 0 then ((ulpref03_Of.f k (IntKind.u64.wrap (bt1079.2.2 + 4503599627370496))).bind fun t1083 => ((ulpref04_Form.f k bt1079.1 t1083 (wrap64 (bt1079.2.1 - 1075))).bind fun bt1086 => (some (bt1086.1, bt1086.2.1, bt1086.2.2, 0)))) else ((ulpref03_Of.f k bt1079.2.2).bind fun t1091 => ((ulpref04_Form.f k bt1079.1 t1091 (-1074)).bind fun bt1094 => (some (bt1094.1, bt1094.2.1, bt1094.2.2, 0)))))) else (some (false, ([] : List Int), 0, 5)))) = some (r1, r2, r3, r4) := h
 clear h
 obtain ⟨t1078, A2, H⟩ := zh H
 by_cases c3 : t1078 = true
 ·subst c3
  rw [if_pos rfl] at H
  obtain ⟨⟨t1079, t1080, t1081⟩, A4, H⟩ := zh H
  (try dsimp only at H)
  by_cases c5 : t1080 > 0
  ·rw [if_pos c5] at H
   have c5b0 := decide_eq_true c5
   clear c5
   obtain ⟨t1083, A6, H⟩ := zh H
   obtain ⟨⟨t1086, t1087, t1090⟩, A7, H⟩ := zh H
   (try dsimp only at H)
   simp only [Option.some.injEq, Prod.mk.injEq] at H
   obtain ⟨rfl, rfl, rfl, rfl⟩ := H
   go_enter Tryd.func42, Tryd.ntmps42
   try go_wp2_with (first | ((with_reducible refine zD 2 rfl ?_); refine zn (N := 2) (cs := #[.bool false, .slice none 0 0, .int .i64 0]) (t := 25) rfl rfl ?_; intro gb1077 hg w8 hbox hb; have BK1077 := zA (hbox); have GW1077 := zw hg; replace HB := ze hb; clear hb hbox hg) | ((with_reducible refine zG 92 rfl ?_); refine zL (some 8) rfl rfl Tryd.func92 #[.int .u64 a0] rfl ?_; (with_reducible refine (ulpref01_Finite.calls a0 true _ A2.out).mono ?_); rintro e w' ⟨rfl, ⟨nd, rfl⟩⟩; refine ⟨_, rfl, ?_⟩; (try (rw [drewN_self w8]; generalize hq_ : World.drewN w8 _ = w8; have n0_ : Aside0 (w8.heap[gb1077]? = some (.cells #[.bool false, .slice none 0 0, .int .i64 0] 25 (0, 0))) := ⟨by rw [← hq_]; exact (zu BK1077)⟩; have n1_ : Aside0 (Below w.heap.size w w8) := ⟨by rw [← hq_]; exact zs⟩; clear BK1077 HB hq_; have BK1077 := n0_; have HB := n1_; clear n0_ n1_))) | ((with_reducible refine zG 93 rfl ?_); refine zL (some 12) rfl rfl Tryd.func93 #[.int .u64 a0] rfl ?_; (with_reducible refine (ulpref01_Split.calls a0 t1079 t1080 t1081 _ A4.out).mono ?_); rintro e w9 ⟨rfl, hb⟩; refine ⟨_, rfl, ?_⟩; replace BK1077 := zb BK1077 hb; replace HB := zf hb) | ((with_reducible refine zD 4 rfl ?_); refine zn (N := 4) (cs := #[.bool false, .int .i64 0, .int .u64 0]) (t := 76) rfl rfl ?_; intro gb1082 hg w10 hbox hb; have BK1082 := zA (hbox); have GW1082 := zx hg; replace HB := zf hb; have NB1077_1082 := zl BK1077 hg; have NB1082_1077 := zg BK1077 hg; replace BK1077 := zb BK1077 hb; clear hb hbox hg; have hnb11 := NB1082_1077.out; have hnc11 := NB1077_1082.out; obtain ⟨hcz12_0, hcz12_1, hcz12_2, hfz12_0, hfz12_1, hfz12_2⟩ := zc BK1082))
   have n0_ : Aside0 ((((w10.setCell ⟨gb1082, 0, none⟩ (.bool t1079)).setCell ⟨gb1082, 1, none⟩ (.int .i64 t1080)).setCell ⟨gb1082, 2, none⟩ (.int .u64 t1081)).heap[gb1077]? = some (.cells #[.bool false, .slice none 0 0, .int .i64 0] 25 (0, 0))) := ⟨by (with_reducible repeat (first | refine blk_drewN ?_ _ | refine blk_drew ?_ | refine blk_alloc ?_ _)); refine blk_far ?_ NB1077_1082.out _; refine blk_far ?_ NB1077_1082.out _; refine blk_far ?_ NB1077_1082.out _; exact BK1077.out⟩
   have n1_ : Aside0 ((((w10.setCell ⟨gb1082, 0, none⟩ (.bool t1079)).setCell ⟨gb1082, 1, none⟩ (.int .i64 t1080)).setCell ⟨gb1082, 2, none⟩ (.int .u64 t1081)).heap[gb1082]? = some (.cells #[.bool t1079, .int .i64 t1080, .int .u64 t1081] 76 (0, 0))) := ⟨by (with_reducible repeat (first | refine blk_drewN ?_ _ | refine blk_drew ?_ | refine blk_alloc ?_ _)); exact zp (zu BK1082)⟩
   have n2_ : Aside0 (Below w.heap.size w (((w10.setCell ⟨gb1082, 0, none⟩ (.bool t1079)).setCell ⟨gb1082, 1, none⟩ (.int .i64 t1080)).setCell ⟨gb1082, 2, none⟩ (.int .u64 t1081))) := ⟨zs⟩
   (try clear BK1077)
   (try clear BK1082)
   (try clear HB)
   generalize (((w10.setCell ⟨gb1082, 0, none⟩ (.bool t1079)).setCell ⟨gb1082, 1, none⟩ (.int .i64 t1080)).setCell ⟨gb1082, 2, none⟩ (.int .u64 t1081)) = w13 at n0_ n1_ n2_ ⊢
   have BK1077 := n0_
   have BK1082 := n1_
   have HB := n2_
   clear n0_ n1_ n2_
   replace BK1077 := zA (blk_drew BK1077.out)
   replace BK1082 := zA (blk_drew BK1082.out)
   replace HB := zA (below_drew1 HB.out)
   refine start_ (n := 8) (S := fun w' => z3 w' gb1082 (.bool t1079) (.int .i64 t1080) (.int .u64 t1081)) (ds := []) #[false, false, false, false, false, false, false, false] (by kernel_rfl) rfl rfl (zz BK1082) (fun hHeld => ?_); refine with_tabW ulpref04_From.tab9 ulpref04_From.bits9 (fun HT_ HW_ => ?_)
   generalize w13.drew = w14 at BK1077 BK1082 HB hHeld ⊢
   refine pure_ (i := 0) (N := some 23) (v := ?_) (a' := ?_) #[true, false, false, false, false, false, false, false] rfl rfl (any_of HT_.out (by kernel_rfl)) (fun _ _ _ h => h) (Or.inl ⟨by rfl, ?_⟩) ?_ ?_
   rotate_left
   ·intro w'
    go_simp
    with_reducible rfl
   rotate_left
   ·exact zq
   refine pure_ (i := 2) (N := some 25) (v := ?_) (a' := ?_) #[true, false, true, false, false, false, false, false] rfl rfl (any_of HT_.out (by kernel_rfl)) (fun _ _ _ h => h) (Or.inl ⟨by rfl, ?_⟩) ?_ ?_
   rotate_left
   ·intro w'
    go_simp
    with_reducible rfl
   rotate_left
   ·exact zq
   refine pure_ (i := 4) (N := some 27) (v := ?_) (a' := ?_) #[true, false, true, false, true, false, false, false] rfl rfl (any_of HT_.out (by kernel_rfl)) (fun _ _ _ h => h) (Or.inl ⟨by rfl, ?_⟩) ?_ ?_
   rotate_left
   ·intro w'
    go_simp
    with_reducible rfl
   rotate_left
   ·exact zq
   refine take_ (i := 1) (N := some 24) (v := ?_) (a' := ?_) #[true, true, true, false, true, false, false, false] rfl rfl (take_ofW HT_.out HW_.out (by kernel_rfl)) (fun _ _ _ h => h) (Or.inl ⟨by rfl, ?_⟩) hHeld ?_ ?_
   rotate_left
   ·rintro w' ⟨s0, s1, s2⟩
    go_simp
    with_reducible rfl
   rotate_left
   ·exact zq
   refine one_ (i := 3) (N := some 26) #[true, true, true, true, true, false, false, false] rfl rfl (one_of HT_.out (by kernel_rfl)) (by decide) (fun K hK => ?_)
   refine goes_ Tryd.func94 (by kernel_rfl) rfl #[.int .u64 (IntKind.u64.wrap (t1081 + 4503599627370496))] (by rfl) rfl rfl ga ?_
   with_reducible refine (ulpref03_Of.calls k (IntKind.u64.wrap (t1081 + 4503599627370496)) t1083 _ A6.out).mono ?_
   rintro e w15 ⟨v1084, rfl, ho0, hb⟩
   refine ⟨_, rfl, ?_⟩
   have HO1085 := zA (R_lower ho0 (below_size zs))
   replace BK1077 := zb BK1077 hb
   replace BK1082 := zb BK1082 hb
   replace HB := zf hb
   (try clear hb)
   (try clear hb2)
   (try clear hk)
   (try clear hi)
   (try clear ho0)
   obtain ⟨Ao16, co16, eo16⟩ := R_slice HO1085.out
   (first | subst eo16 | (injection eo16 with f1_ f2_ f3_; have f4_ := f1_.symm; have f5_ := f3_.symm; clear f1_ f2_ f3_; subst f4_; subst f5_))
   refine hK.out _ _ (zz BK1082) (fun hHeld => ?_)
   clear hK K
   refine norm_ (a' := ?_) ?_ ?_
   rotate_left
   ·show Act.put _ (some 26) _ = _
    simp only [Act.put, List.setIfInBounds_toArray, List.set_cons_zero, List.set_cons_succ, i64_w, i32_w]
    rfl
   refine one_ (i := 5) (N := some 28) #[true, true, true, true, true, true, false, false] rfl rfl (one_of HT_.out (by kernel_rfl)) (by decide) (fun K hK => ?_)
   refine goes_ Tryd.func76 (by kernel_rfl) rfl #[.bool t1079, .slice Ao16 t1083.length co16, .int .i64 (wrap64 (t1080 - 1075))] (by rfl) rfl rfl ga ?_
   with_reducible refine (ulpref04_Form.calls k t1079 _ _ t1083 (wrap64 (t1080 - 1075)) t1086 t1087 t1090 _ ?side1 ?side2 A7.out).mono ?_
   (case side1 => exact zk (R_reads' HO1085.out).2.2)
   (case side2 => exact (R_reads' HO1085.out).2.1)
   rintro e w17 ⟨v1088, rfl, ho0, hb⟩
   refine ⟨_, rfl, ?_⟩
   have HO1089 := zA (R_lower (R_new' ho0 (R_lt (ru HO1085.out))) (below_size zs))
   replace HO1085 := zA (R_elder' (ru HO1085.out) (R_base ho0) hb)
   replace BK1077 := zb BK1077 hb
   replace BK1082 := zb BK1082 hb
   replace HB := zf hb
   (try clear hb)
   (try clear hb2)
   (try clear hk)
   (try clear hi)
   (try clear ho0)
   obtain ⟨Ao19, co19, eo19⟩ := R_slice HO1089.out
   (first | subst eo19 | (injection eo19 with f1_ f2_ f3_; have f4_ := f1_.symm; have f5_ := f3_.symm; clear f1_ f2_ f3_; subst f4_; subst f5_))
   refine hK.out _ _ (zz BK1082) (fun hHeld => ?_)
   clear hK K
   refine norm_ (a' := ?_) ?_ ?_
   rotate_left
   ·show Act.put _ (some 28) _ = _
    simp only [Act.put, List.setIfInBounds_toArray, List.set_cons_zero, List.set_cons_succ, i64_w, i32_w]
    rfl
   refine one_ (i := 6) (N := none) #[true, true, true, true, true, true, true, false] rfl rfl (one_of HT_.out (by kernel_rfl)) (by decide) (fun K hK => ?_)
   have hs18 : w17.cell? ⟨gb1077, 0, none⟩ = some (.bool false) := (blk_cell BK1077.out 0).trans rfl
   have hfs18 := blk_frozen BK1077.out 0
   have hns18_1 := NB1082_1077.out
   have hms18_1 := NB1077_1082.out
   have hs20 : w17.cell? ⟨gb1077, 1, none⟩ = some (.slice none 0 0) := (blk_cell BK1077.out 1).trans rfl
   have hfs20 := blk_frozen BK1077.out 1
   have hns20_1 := NB1082_1077.out
   have hms20_1 := NB1077_1082.out
   have hs21 : w17.cell? ⟨gb1077, 2, none⟩ = some (.int .i64 0) := (blk_cell BK1077.out 2).trans rfl
   have hfs21 := blk_frozen BK1077.out 2
   have hns21_1 := NB1082_1077.out
   have hms21_1 := NB1077_1082.out
   refine skip_ (w1 := ?_) (by rfl) rfl ?_ ?_
   rotate_left
   ·go_simp
    rfl
   refine hK.out _ _ ⟨((cell_far (p := ⟨gb1077, _, none⟩) NB1082_1077.out _).trans (((cell_far (p := ⟨gb1077, _, none⟩) NB1082_1077.out _).trans (((cell_far (p := ⟨gb1077, _, none⟩) NB1082_1077.out _).trans (hHeld.1)))))), ((cell_far (p := ⟨gb1077, _, none⟩) NB1082_1077.out _).trans (((cell_far (p := ⟨gb1077, _, none⟩) NB1082_1077.out _).trans (((cell_far (p := ⟨gb1077, _, none⟩) NB1082_1077.out _).trans (hHeld.2.1)))))), ((cell_far (p := ⟨gb1077, _, none⟩) NB1082_1077.out _).trans (((cell_far (p := ⟨gb1077, _, none⟩) NB1082_1077.out _).trans (((cell_far (p := ⟨gb1077, _, none⟩) NB1082_1077.out _).trans (hHeld.2.2))))))⟩ (fun hHeld => ?_)
   clear hK K
   refine pure_ (i := 7) (N := some 3) (v := ?_) (a' := ?_) #[true, true, true, true, true, true, true, true] rfl rfl (any_of HT_.out (by kernel_rfl)) (fun _ _ _ h => h) (Or.inl ⟨by rfl, ?_⟩) ?_ ?_
   rotate_left
   ·intro w'
    go_simp
    with_reducible rfl
   rotate_left
   ·exact zq
   refine done_ (done_of HT_.out (by kernel_rfl)) ?_
   try go_wp2
   refine bodyPost_ret (results_ct rfl _ _ gb1077 25 #[.bool t1086, .slice Ao19 t1087.length co19, .int .i64 t1090] (0, 0) _ rfl (zy BK1077) Tryd.underlying25 rfl (by kernel_rfl)) rfl ?_
   exact ⟨_, er, ru (R_mono (zr gb1077 (R_types HO1089.out BK1077.out (by decide)) (fun _ hk => hk.2) _ _ _) (fun _ hk => trivial)), zs⟩
  rw [if_neg c5] at H
  have c5b0 := decide_eq_false c5
  clear c5
  obtain ⟨t1091, A22, H⟩ := zh H
  obtain ⟨⟨t1094, t1095, t1098⟩, A23, H⟩ := zh H
  (try dsimp only at H)
  simp only [Option.some.injEq, Prod.mk.injEq] at H
  obtain ⟨rfl, rfl, rfl, rfl⟩ := H
  go_enter Tryd.func42, Tryd.ntmps42
  try go_wp2_with (first | ((with_reducible refine zD 2 rfl ?_); refine zn (N := 2) (cs := #[.bool false, .slice none 0 0, .int .i64 0]) (t := 25) rfl rfl ?_; intro gb1077 hg w24 hbox hb; have BK1077 := zA (hbox); have GW1077 := zw hg; replace HB := ze hb; clear hb hbox hg) | ((with_reducible refine zG 92 rfl ?_); refine zL (some 8) rfl rfl Tryd.func92 #[.int .u64 a0] rfl ?_; (with_reducible refine (ulpref01_Finite.calls a0 true _ A2.out).mono ?_); rintro e w' ⟨rfl, ⟨nd, rfl⟩⟩; refine ⟨_, rfl, ?_⟩; (try (rw [drewN_self w24]; generalize hq_ : World.drewN w24 _ = w24; have n0_ : Aside0 (w24.heap[gb1077]? = some (.cells #[.bool false, .slice none 0 0, .int .i64 0] 25 (0, 0))) := ⟨by rw [← hq_]; exact (zu BK1077)⟩; have n1_ : Aside0 (Below w.heap.size w w24) := ⟨by rw [← hq_]; exact zs⟩; clear BK1077 HB hq_; have BK1077 := n0_; have HB := n1_; clear n0_ n1_))) | ((with_reducible refine zG 93 rfl ?_); refine zL (some 12) rfl rfl Tryd.func93 #[.int .u64 a0] rfl ?_; (with_reducible refine (ulpref01_Split.calls a0 t1079 t1080 t1081 _ A4.out).mono ?_); rintro e w25 ⟨rfl, hb⟩; refine ⟨_, rfl, ?_⟩; replace BK1077 := zb BK1077 hb; replace HB := zf hb) | ((with_reducible refine zD 4 rfl ?_); refine zn (N := 4) (cs := #[.bool false, .int .i64 0, .int .u64 0]) (t := 76) rfl rfl ?_; intro gb1082 hg w26 hbox hb; have BK1082 := zA (hbox); have GW1082 := zx hg; replace HB := zf hb; have NB1077_1082 := zl BK1077 hg; have NB1082_1077 := zg BK1077 hg; replace BK1077 := zb BK1077 hb; clear hb hbox hg; have hnb27 := NB1082_1077.out; have hnc27 := NB1077_1082.out; obtain ⟨hcz28_0, hcz28_1, hcz28_2, hfz28_0, hfz28_1, hfz28_2⟩ := zc BK1082))
  have n0_ : Aside0 ((((w26.setCell ⟨gb1082, 0, none⟩ (.bool t1079)).setCell ⟨gb1082, 1, none⟩ (.int .i64 t1080)).setCell ⟨gb1082, 2, none⟩ (.int .u64 t1081)).heap[gb1077]? = some (.cells #[.bool false, .slice none 0 0, .int .i64 0] 25 (0, 0))) := ⟨by (with_reducible repeat (first | refine blk_drewN ?_ _ | refine blk_drew ?_ | refine blk_alloc ?_ _)); refine blk_far ?_ NB1077_1082.out _; refine blk_far ?_ NB1077_1082.out _; refine blk_far ?_ NB1077_1082.out _; exact BK1077.out⟩
  have n1_ : Aside0 ((((w26.setCell ⟨gb1082, 0, none⟩ (.bool t1079)).setCell ⟨gb1082, 1, none⟩ (.int .i64 t1080)).setCell ⟨gb1082, 2, none⟩ (.int .u64 t1081)).heap[gb1082]? = some (.cells #[.bool t1079, .int .i64 t1080, .int .u64 t1081] 76 (0, 0))) := ⟨by (with_reducible repeat (first | refine blk_drewN ?_ _ | refine blk_drew ?_ | refine blk_alloc ?_ _)); exact zp (zu BK1082)⟩
  have n2_ : Aside0 (Below w.heap.size w (((w26.setCell ⟨gb1082, 0, none⟩ (.bool t1079)).setCell ⟨gb1082, 1, none⟩ (.int .i64 t1080)).setCell ⟨gb1082, 2, none⟩ (.int .u64 t1081))) := ⟨zs⟩
  (try clear BK1077)
  (try clear BK1082)
  (try clear HB)
  generalize (((w26.setCell ⟨gb1082, 0, none⟩ (.bool t1079)).setCell ⟨gb1082, 1, none⟩ (.int .i64 t1080)).setCell ⟨gb1082, 2, none⟩ (.int .u64 t1081)) = w29 at n0_ n1_ n2_ ⊢
  have BK1077 := n0_
  have BK1082 := n1_
  have HB := n2_
  clear n0_ n1_ n2_
  replace BK1077 := zA (blk_drew BK1077.out)
  replace BK1082 := zA (blk_drew BK1082.out)
  replace HB := zA (below_drew1 HB.out)
  refine start_ (n := 8) (S := fun w' => z3 w' gb1082 (.bool t1079) (.int .i64 t1080) (.int .u64 t1081)) (ds := []) #[false, false, false, false, false, false, false, false] (by kernel_rfl) rfl rfl (zz BK1082) (fun hHeld => ?_); refine with_tabW ulpref04_From.tab9 ulpref04_From.bits9 (fun HT_ HW_ => ?_)
  generalize w29.drew = w30 at BK1077 BK1082 HB hHeld ⊢
  refine pure_ (i := 0) (N := some 23) (v := ?_) (a' := ?_) #[true, false, false, false, false, false, false, false] rfl rfl (any_of HT_.out (by kernel_rfl)) (fun _ _ _ h => h) (Or.inl ⟨by rfl, ?_⟩) ?_ ?_
  rotate_left
  ·intro w'
   go_simp
   with_reducible rfl
  rotate_left
  ·exact zq
  refine pure_ (i := 2) (N := some 25) (v := ?_) (a' := ?_) #[true, false, true, false, false, false, false, false] rfl rfl (any_of HT_.out (by kernel_rfl)) (fun _ _ _ h => h) (Or.inl ⟨by rfl, ?_⟩) ?_ ?_
  rotate_left
  ·intro w'
   go_simp
   with_reducible rfl
  rotate_left
  ·exact zq
  refine pure_ (i := 4) (N := some 27) (v := ?_) (a' := ?_) #[true, false, true, false, true, false, false, false] rfl rfl (any_of HT_.out (by kernel_rfl)) (fun _ _ _ h => h) (Or.inl ⟨by rfl, ?_⟩) ?_ ?_
  rotate_left
  ·intro w'
   go_simp
   with_reducible rfl
  rotate_left
  ·exact zq
  refine take_ (i := 1) (N := some 24) (v := ?_) (a' := ?_) #[true, true, true, false, true, false, false, false] rfl rfl (take_ofW HT_.out HW_.out (by kernel_rfl)) (fun _ _ _ h => h) (Or.inl ⟨by rfl, ?_⟩) hHeld ?_ ?_
  rotate_left
  ·rintro w' ⟨s0, s1, s2⟩
   go_simp
   with_reducible rfl
  rotate_left
  ·exact zq
  refine one_ (i := 3) (N := some 26) #[true, true, true, true, true, false, false, false] rfl rfl (one_of HT_.out (by kernel_rfl)) (by decide) (fun K hK => ?_)
  refine goes_ Tryd.func94 (by kernel_rfl) rfl #[.int .u64 t1081] (by rfl) rfl rfl ga ?_
  with_reducible refine (ulpref03_Of.calls k t1081 t1091 _ A22.out).mono ?_
  rintro e w31 ⟨v1092, rfl, ho0, hb⟩
  refine ⟨_, rfl, ?_⟩
  have HO1093 := zA (R_lower ho0 (below_size zs))
  replace BK1077 := zb BK1077 hb
  replace BK1082 := zb BK1082 hb
  replace HB := zf hb
  (try clear hb)
  (try clear hb2)
  (try clear hk)
  (try clear hi)
  (try clear ho0)
  obtain ⟨Ao32, co32, eo32⟩ := R_slice HO1093.out
  (first | subst eo32 | (injection eo32 with f1_ f2_ f3_; have f4_ := f1_.symm; have f5_ := f3_.symm; clear f1_ f2_ f3_; subst f4_; subst f5_))
  refine hK.out _ _ (zz BK1082) (fun hHeld => ?_)
  clear hK K
  refine norm_ (a' := ?_) ?_ ?_
  rotate_left
  ·show Act.put _ (some 26) _ = _
   simp only [Act.put, List.setIfInBounds_toArray, List.set_cons_zero, List.set_cons_succ, i64_w, i32_w]
   rfl
  refine one_ (i := 5) (N := some 28) #[true, true, true, true, true, true, false, false] rfl rfl (one_of HT_.out (by kernel_rfl)) (by decide) (fun K hK => ?_)
  refine goes_ Tryd.func76 (by kernel_rfl) rfl #[.bool t1079, .slice Ao32 t1091.length co32, .int .i64 (-1074)] (by rfl) rfl rfl ga ?_
  with_reducible refine (ulpref04_Form.calls k t1079 _ _ t1091 (-1074) t1094 t1095 t1098 _ ?side1 ?side2 A23.out).mono ?_
  (case side1 => exact zk (R_reads' HO1093.out).2.2)
  (case side2 => exact (R_reads' HO1093.out).2.1)
  rintro e w33 ⟨v1096, rfl, ho0, hb⟩
  refine ⟨_, rfl, ?_⟩
  have HO1097 := zA (R_lower (R_new' ho0 (R_lt (ru HO1093.out))) (below_size zs))
  replace HO1093 := zA (R_elder' (ru HO1093.out) (R_base ho0) hb)
  replace BK1077 := zb BK1077 hb
  replace BK1082 := zb BK1082 hb
  replace HB := zf hb
  (try clear hb)
  (try clear hb2)
  (try clear hk)
  (try clear hi)
  (try clear ho0)
  obtain ⟨Ao35, co35, eo35⟩ := R_slice HO1097.out
  (first | subst eo35 | (injection eo35 with f1_ f2_ f3_; have f4_ := f1_.symm; have f5_ := f3_.symm; clear f1_ f2_ f3_; subst f4_; subst f5_))
  refine hK.out _ _ (zz BK1082) (fun hHeld => ?_)
  clear hK K
  refine norm_ (a' := ?_) ?_ ?_
  rotate_left
  ·show Act.put _ (some 28) _ = _
   simp only [Act.put, List.setIfInBounds_toArray, List.set_cons_zero, List.set_cons_succ, i64_w, i32_w]
   rfl
  refine one_ (i := 6) (N := none) #[true, true, true, true, true, true, true, false] rfl rfl (one_of HT_.out (by kernel_rfl)) (by decide) (fun K hK => ?_)
  have hs34 : w33.cell? ⟨gb1077, 0, none⟩ = some (.bool false) := (blk_cell BK1077.out 0).trans rfl
  have hfs34 := blk_frozen BK1077.out 0
  have hns34_1 := NB1082_1077.out
  have hms34_1 := NB1077_1082.out
  have hs36 : w33.cell? ⟨gb1077, 1, none⟩ = some (.slice none 0 0) := (blk_cell BK1077.out 1).trans rfl
  have hfs36 := blk_frozen BK1077.out 1
  have hns36_1 := NB1082_1077.out
  have hms36_1 := NB1077_1082.out
  have hs37 : w33.cell? ⟨gb1077, 2, none⟩ = some (.int .i64 0) := (blk_cell BK1077.out 2).trans rfl
  have hfs37 := blk_frozen BK1077.out 2
  have hns37_1 := NB1082_1077.out
  have hms37_1 := NB1077_1082.out
  refine skip_ (w1 := ?_) (by rfl) rfl ?_ ?_
  rotate_left
  ·go_simp
   rfl
  refine hK.out _ _ ⟨((cell_far (p := ⟨gb1077, _, none⟩) NB1082_1077.out _).trans (((cell_far (p := ⟨gb1077, _, none⟩) NB1082_1077.out _).trans (((cell_far (p := ⟨gb1077, _, none⟩) NB1082_1077.out _).trans (hHeld.1)))))), ((cell_far (p := ⟨gb1077, _, none⟩) NB1082_1077.out _).trans (((cell_far (p := ⟨gb1077, _, none⟩) NB1082_1077.out _).trans (((cell_far (p := ⟨gb1077, _, none⟩) NB1082_1077.out _).trans (hHeld.2.1)))))), ((cell_far (p := ⟨gb1077, _, none⟩) NB1082_1077.out _).trans (((cell_far (p := ⟨gb1077, _, none⟩) NB1082_1077.out _).trans (((cell_far (p := ⟨gb1077, _, none⟩) NB1082_1077.out _).trans (hHeld.2.2))))))⟩ (fun hHeld => ?_)
  clear hK K
  refine pure_ (i := 7) (N := some 3) (v := ?_) (a' := ?_) #[true, true, true, true, true, true, true, true] rfl rfl (any_of HT_.out (by kernel_rfl)) (fun _ _ _ h => h) (Or.inl ⟨by rfl, ?_⟩) ?_ ?_
  rotate_left
  ·intro w'
   go_simp
   with_reducible rfl
  rotate_left
  ·exact zq
  refine done_ (done_of HT_.out (by kernel_rfl)) ?_
  try go_wp2
  refine bodyPost_ret (results_ct rfl _ _ gb1077 25 #[.bool t1094, .slice Ao35 t1095.length co35, .int .i64 t1098] (0, 0) _ rfl (zy BK1077) Tryd.underlying25 rfl (by kernel_rfl)) rfl ?_
  exact ⟨_, er, ru (R_mono (zr gb1077 (R_types HO1097.out BK1077.out (by decide)) (fun _ hk => hk.2) _ _ _) (fun _ hk => trivial)), zs⟩
 replace c3 := Bool.eq_false_iff.mpr c3
 subst c3
 rw [if_neg (show ¬ (false = true) by decide)] at H
 simp only [Option.some.injEq, Prod.mk.injEq] at H
 obtain ⟨rfl, rfl, rfl, rfl⟩ := H
 go_enter Tryd.func42, Tryd.ntmps42
 go_wp2_with (first | ((with_reducible refine zD 2 rfl ?_); refine zn (N := 2) (cs := #[.bool false, .slice none 0 0, .int .i64 0]) (t := 25) rfl rfl ?_; intro gb1077 hg w38 hbox hb; have BK1077 := zA (hbox); have GW1077 := zw hg; replace HB := ze hb; clear hb hbox hg) | ((with_reducible refine zG 92 rfl ?_); refine zL (some 8) rfl rfl Tryd.func92 #[.int .u64 a0] rfl ?_; (with_reducible refine (ulpref01_Finite.calls a0 false _ A2.out).mono ?_); rintro e w' ⟨rfl, ⟨nd, rfl⟩⟩; refine ⟨_, rfl, ?_⟩; (try (rw [drewN_self w38]; generalize hq_ : World.drewN w38 _ = w38; have n0_ : Aside0 (w38.heap[gb1077]? = some (.cells #[.bool false, .slice none 0 0, .int .i64 0] 25 (0, 0))) := ⟨by rw [← hq_]; exact (zu BK1077)⟩; have n1_ : Aside0 (Below w.heap.size w w38) := ⟨by rw [← hq_]; exact zs⟩; clear BK1077 HB hq_; have BK1077 := n0_; have HB := n1_; clear n0_ n1_)); obtain ⟨_, _, _, _, _, _⟩ := zc BK1077))
 refine bodyPost_ret (results_ct rfl _ _ gb1077 25 #[.bool false, .slice none 0 0, .int .i64 0] (0, 0) _ rfl (zy BK1077) Tryd.underlying25 rfl (by kernel_rfl)) rfl ?_
 exact ⟨_, er, by first | exact R_nil _ _ _ _ _ | exact Kd.N_nil _ _ _ _ _ | exact V_nil _ _ _ _ _ | exact Kd.Q_nil _ _ _ _ _ | exact Kd.S_nil _ _ _ _ _, zs⟩
end Go.Proofs.YtemfckibdojbbaaDoor.PAll
