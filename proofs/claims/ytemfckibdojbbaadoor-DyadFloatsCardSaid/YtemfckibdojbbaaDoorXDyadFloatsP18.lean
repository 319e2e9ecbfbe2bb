/- Printed functions, merged by a program of this session. -/
import Derived.Test.YtemfckibdojbbaaDoorXDyadFloatsP0
import Derived.Test.YtemfckibdojbbaaDoorXDyadFloatsP17
import Derived.Test.YtemfckibdojbbaaDoorXDyadFloatsP14
import Derived.Laws.StructEq
import Derived.Test.YtemfckibdojbbaaDoorXDyadFloatsSh
namespace Go.Proofs.YtemfckibdojbbaaDoor.PAll
open Go.RowKit Go.Proofs.YtemfckibdojbbaaDoorW.PrintWords Go.Proofs.YtemfckibdojbbaaDoorW.PrintLast Go.Proofs.YtemfckibdojbbaaDoorW.PrintMore Go.Proofs.YtemfckibdojbbaaDoorW.PrintWords.Kd
attribute [local go_sem] max2_int min2_int max_two min_two max_three min_three max_four min_four   -- for this text's walks alone
set_option linter.unusedVariables false
set_option linter.unusedSimpArgs false
attribute [local go_sem] ext135 ext136
def ulpref04_To.j0 : Nat → Int → Int → Bool → Bool → List Int → Int → Option (Int × Bool)
 | 0, _, _, _, _, _, _ => none
 | k + 1, x5, x6, x37, x1119000, x1119001, x1119002 => if x37 = true then (some (0, false)) else (if x6 < (-1022) then (if 0 < (x1119001.length : Int) then (if 0 ≤ (IntKind.u64.wrap (wrap64 (x1119002 + 1074))) then ((ulpref01_Join.f k x1119000 0 (shl .u64 (rd x1119001 0) (IntKind.u64.wrap (wrap64 (x1119002 + 1074))))).bind fun bt1122 => (some (bt1122.1, true))) else (none)) else (none)) else (if 0 < (x1119001.length : Int) then (if 0 ≤ (IntKind.u64.wrap (wrap64 (53 - x5))) then ((ulpref01_Join.f k x1119000 (wrap64 (x6 + 1023)) (IntKind.u64.wrap ((shl .u64 (rd x1119001 0) (IntKind.u64.wrap (wrap64 (53 - x5)))) - 4503599627370496))).bind fun bt1125 => (some (bt1125.1, true))) else (none)) else (none)))
def ulpref04_To.f (k : Nat) (a0_0 : Bool) (l0_1 : List Int) (a0_2 : Int) : Option (Int × Bool) := (ulpref04_Right.f k a0_0 l0_1 a0_2).bind fun t1112 => (if t1112 = true then ((ulpref04_One.f k a0_0 l0_1 a0_2).bind fun bt1113 => (if (bt1113.2.1.length : Int) = 0 then (some (0, true)) else ((ulpref03_Len.f k bt1113.2.1).bind fun t1119 => (if t1119 > 53 then (ulpref04_To.j0 k t1119 (wrap64 ((wrap64 (bt1113.2.2 + t1119)) - 1)) true bt1113.1 bt1113.2.1 bt1113.2.2) else (if bt1113.2.2 < (-1074) then (ulpref04_To.j0 k t1119 (wrap64 ((wrap64 (bt1113.2.2 + t1119)) - 1)) true bt1113.1 bt1113.2.1 bt1113.2.2) else (ulpref04_To.j0 k t1119 (wrap64 ((wrap64 (bt1113.2.2 + t1119)) - 1)) (decide ((wrap64 ((wrap64 (bt1113.2.2 + t1119)) - 1)) > 1023)) bt1113.1 bt1113.2.1 bt1113.2.2)))))) else (some (0, false)))
def ulpref04_To.T12 : Bool × List (List Nat × List Nat) := (true, [([], []), ([0], [0]), ([1], [1]), ([2], [2]), ([], []), ([4], [4]), ([5], [5]), ([6], [6]), ([3, 7], [3, 7]), ([0, 1, 2, 3, 4, 5, 6, 7, 8], []), ([9, 8, 0, 1, 2, 3, 4, 5, 6, 7, 8], [8, 9])])
def ulpref04_To.B12 : List Nat := [0, 1, 3, 7, 0, 16, 48, 112, 255, 511, 1023]
theorem ulpref04_To.tab12 : rtab .any (opsOf Tryd.f44 12) = ulpref04_To.T12 := by kernel_rfl
theorem ulpref04_To.bits12 : waitsOk ulpref04_To.T12.2 ulpref04_To.B12 = true := by kernel_rfl
theorem cells3_ {P : Program} {ops : Array Oper} {Q : Exit → Act → World → Prop} {W : World} {o : Oper} {rest : List Oper} {a : Act} {g : Nat} {t : TypeId} {cs : Array Value} (hb : W.heap[g]? = some (.cells cs t (0, 0)))
  (h : W.cell? ⟨g, 0, none⟩ = cs[0]? → W.cell? ⟨g, 1, none⟩ = cs[1]? → W.cell? ⟨g, 2, none⟩ = cs[2]? → wpList P ops Q (o :: rest) a W) : wpList P ops Q (o :: rest) a W := h (blk_cell hb 0) (blk_cell hb 1) (blk_cell hb 2)
set_option maxHeartbeats 8000000 in
set_option maxRecDepth 100000 in
theorem ulpref04_To.calls (k : Nat) (a0_0 : Bool) (A0_1 : Option Addr) (c0_1 : Nat) (l0_1 : List Int) (a0_2 : Int) (r1 : Int) (r2 : Bool) (w : World) (hr0_1 : Kd.C (Kd.int .u64) w A0_1 l0_1.length l0_1) (hc0_1 : l0_1.length ≤ c0_1) (h : ulpref04_To.f k a0_0 l0_1 a0_2 = some (r1, r2)) :
  Calls Tryd.prog 44 #[.agg #[.bool a0_0, .slice A0_1 l0_1.length c0_1, .int .i64 a0_2]] w fun e w' => e = .returned (.tuple #[.int .u64 r1, .bool r2]) ∧ Below w.heap.size w w' := by
 have hu25 := Tryd.underlying25
 have hu76 := Tryd.underlying76
 have HR0_1 := zA hr0_1
 have HC0_1 := zA hc0_1
 clear hr0_1 hc0_1
 have HB := zA (Below.refl w.heap.size w)
 have H : ((ulpref04_Right.f k a0_0 l0_1 a0_2).bind fun t1112 => (if t1112 = true then ((ulpref04_One.f k a0_0 l0_1 a0_2).bind fun bt1113 => (if (bt1113.2.1.length : Int) = 0 then (some (0, true)) else ((ulpref03_Len.f k bt1113.2.1).bind fun t1119 => (if t1119 > 53 then (ulpref04_To.j0 k t1119 (wrap64 ((wrap64 (bt1113.2.2 + t1119)) - 1)) true bt1113.1 bt1113.2.1 bt1113.2.2) else (if bt1113.2.2 < (-1074) then (ulpref04_To.j0 k t1119 (wrap64 ((wrap64 (bt1113.2.2 + t1119)) - 1)) true bt1113.1 bt1113.2.1 bt1113.2.2) else (ulpref04_To.j0 k t1119 (wrap64 ((wrap64 (bt1113.2.2 + t1119)) - 1)) (decide ((wrap64 ((wrap64 (bt1113.2.2 + t1119)) - 1)) > 1023)) bt1113.1 bt1113.2.1 bt1113.2.2)))))) else (some (0, false)))) = some (r1, r2) := h
 clear h
 obtain ⟨t1112, A2, H⟩ := zh H
 by_cases c3 : t1112 = true
 ·subst c3
  rw [if_pos rfl] at H
  obtain ⟨⟨t1113, t1114, t1117⟩, A4, H⟩ := zh H
  (try dsimp only at H)
  by_cases c5 : (t1114.length : Int) = 0
  ·rw [if_pos c5] at H
   have c5b0 := beq_iff_eq.mpr c5
   have c5b1 := bne_eq_false_iff_eq.mpr c5
   clear c5
   simp only [Option.some.injEq, Prod.mk.injEq] at H
   obtain ⟨rfl, rfl⟩ := H
   go_enter Tryd.func44, Tryd.ntmps44
   go_wp2_with (first | ((with_reducible refine zD 1 rfl ?_); refine zn (N := 1) (cs := #[.bool a0_0, .slice A0_1 l0_1.length c0_1, .int .i64 a0_2]) (t := 25) rfl rfl ?_; intro gb1111 hg w6 hbox hb; have BK1111 := zA (hbox); have GW1111 := zw hg; replace HB := ze hb; clear hb hbox hg; obtain ⟨_, _, _, _, _, _⟩ := zc BK1111) | ((with_reducible refine zG 24 rfl ?_); refine zL (some 11) rfl rfl Tryd.func24 #[.agg #[.bool a0_0, .slice A0_1 l0_1.length c0_1, .int .i64 a0_2]] rfl ?_; (with_reducible refine (ulpref04_Right.calls k a0_0 _ _ l0_1 a0_2 true _ ?side1 ?side2 A2.out).mono ?_); (case side1 => exact zk (C_below HR0_1.out HB.out)); (case side2 => exact HC0_1.out); rintro e w8 ⟨rfl, hb⟩; refine ⟨_, rfl, ?_⟩; replace BK1111 := zb BK1111 hb; replace HB := zf hb; obtain ⟨hcz9_0, hcz9_1, hcz9_2, hfz9_0, hfz9_1, hfz9_2⟩ := zc BK1111) | ((with_reducible refine zG 69 rfl ?_); refine zL (some 14) rfl rfl Tryd.func69 #[.agg #[.bool a0_0, .slice A0_1 l0_1.length c0_1, .int .i64 a0_2]] rfl ?_; (with_reducible refine (ulpref04_One.calls k a0_0 _ _ l0_1 a0_2 t1113 t1114 t1117 _ ?side1 ?side2 A4.out).mono ?_); (case side1 => exact zk (C_below HR0_1.out HB.out)); (case side2 => exact HC0_1.out); rintro e w10 ⟨v1115, rfl, ho0, hb⟩; refine ⟨_, rfl, ?_⟩; have HO1116 := zA (R_lower ho0 (below_size zs)); replace BK1111 := zb BK1111 hb; replace HB := zf hb; (try clear ho0)) | ((with_reducible refine zD 4 rfl ?_); refine zn (N := 4) (cs := #[.bool false, .slice none 0 0, .int .i64 0]) (t := 25) rfl rfl ?_; intro gb1118 hg w11 hbox hb; replace HO1116 := zA (R_below (ru HO1116.out) hb); have BK1118 := zA (hbox); have GW1118 := zx hg; replace HB := zf hb; have NB1111_1118 := zl BK1111 hg; have NB1118_1111 := zg BK1111 hg; replace BK1111 := zb BK1111 hb; clear hb hbox hg; have hnb12 := NB1118_1111.out; have hnc12 := NB1111_1118.out; obtain ⟨hcz13_0, hcz13_1, hcz13_2, hfz13_0, hfz13_1, hfz13_2⟩ := zc BK1118; obtain ⟨Ao14, co14, eo14⟩ := R_slice HO1116.out; subst eo14))
   go_ret2
   exact ⟨er, zs⟩
  rw [if_neg c5] at H
  have c5b0 := beq_eq_false_iff_ne.mpr c5
  have c5b1 := bne_iff_ne.mpr c5
  have c5b2 : ¬ (t1114 = []) := fun h_ => c5 (by rw [h_]; rfl)
  obtain ⟨t1119, A15, H⟩ := zh H
  have HC16 := zA H
  clear H
  go_enter Tryd.func44, Tryd.ntmps44
  go_upto_region 8 with (first | ((with_reducible refine zD 1 rfl ?_); refine zn (N := 1) (cs := #[.bool a0_0, .slice A0_1 l0_1.length c0_1, .int .i64 a0_2]) (t := 25) rfl rfl ?_; intro gb1111 hg w17 hbox hb; have BK1111 := zA (hbox); have GW1111 := zw hg; replace HB := ze hb; clear hb hbox hg; obtain ⟨_, _, _, _, _, _⟩ := zc BK1111) | ((with_reducible refine zG 24 rfl ?_); refine zL (some 11) rfl rfl Tryd.func24 #[.agg #[.bool a0_0, .slice A0_1 l0_1.length c0_1, .int .i64 a0_2]] rfl ?_; (with_reducible refine (ulpref04_Right.calls k a0_0 _ _ l0_1 a0_2 true _ ?side1 ?side2 A2.out).mono ?_); (case side1 => exact zk (C_below HR0_1.out HB.out)); (case side2 => exact HC0_1.out); rintro e w19 ⟨rfl, hb⟩; refine ⟨_, rfl, ?_⟩; replace BK1111 := zb BK1111 hb; replace HB := zf hb; obtain ⟨hcz20_0, hcz20_1, hcz20_2, hfz20_0, hfz20_1, hfz20_2⟩ := zc BK1111) | ((with_reducible refine zG 69 rfl ?_); refine zL (some 14) rfl rfl Tryd.func69 #[.agg #[.bool a0_0, .slice A0_1 l0_1.length c0_1, .int .i64 a0_2]] rfl ?_; (with_reducible refine (ulpref04_One.calls k a0_0 _ _ l0_1 a0_2 t1113 t1114 t1117 _ ?side1 ?side2 A4.out).mono ?_); (case side1 => exact zk (C_below HR0_1.out HB.out)); (case side2 => exact HC0_1.out); rintro e w21 ⟨v1115, rfl, ho0, hb⟩; refine ⟨_, rfl, ?_⟩; have HO1116 := zA (R_lower ho0 (below_size zs)); replace BK1111 := zb BK1111 hb; replace HB := zf hb; (try clear ho0)) | ((with_reducible refine zD 4 rfl ?_); refine zn (N := 4) (cs := #[.bool false, .slice none 0 0, .int .i64 0]) (t := 25) rfl rfl ?_; intro gb1118 hg w22 hbox hb; replace HO1116 := zA (R_below (ru HO1116.out) hb); have BK1118 := zA (hbox); have GW1118 := zx hg; replace HB := zf hb; have NB1111_1118 := zl BK1111 hg; have NB1118_1111 := zg BK1111 hg; replace BK1111 := zb BK1111 hb; clear hb hbox hg; have hnb23 := NB1118_1111.out; have hnc23 := NB1111_1118.out; obtain ⟨hcz24_0, hcz24_1, hcz24_2, hfz24_0, hfz24_1, hfz24_2⟩ := zc BK1118; obtain ⟨Ao25, co25, eo25⟩ := R_slice HO1116.out; subst eo25) | ((with_reducible refine zG 96 rfl ?_); refine zL (some 21) rfl rfl Tryd.func96 #[.slice Ao25 t1114.length co25] rfl ?_; (with_reducible refine (ulpref03_Len.calls k _ _ t1114 t1119 _ ?side1 ?side2 A15.out).mono ?_); (case side1 => refine (R_reads' (e := 43) (base := w.heap.size) (ok := fun k_ => True) (n := t1114.length) (c := co25) ?_).2.2; exact (ru (R_mono (zr gb1118 (R_types HO1116.out BK1118.out (by decide)) (fun _ hk => hk.2) _ _ _) (fun _ h_ => h_.1)))); (case side2 => exact (R_reads' HO1116.out).2.1); rintro e w26 ⟨rfl, hb⟩; refine ⟨_, rfl, ?_⟩; replace HO1116 := zA (R_below (ru (R_mono (zr gb1118 (R_types HO1116.out BK1118.out (by decide)) (fun _ hk => hk.2) _ _ _) (fun _ h_ => h_.1))) hb); replace BK1111 := zF BK1111 hb; replace BK1118 := zt BK1118 hb; replace HB := zf hb; (try clear hk); obtain ⟨hcz27_0, hcz27_1, hcz27_2, hfz27_0, hfz27_1, hfz27_2⟩ := zc BK1118))
  (try simp only [Act.put, List.setIfInBounds_toArray, List.set_cons_zero, List.set_cons_succ])
  go_cut [37] (fun v37 wc => ∃ (kq : Nat) (x37_15 : Bool), v37 = .bool x37_15 ∧ Aside0 (ulpref04_To.j0 kq t1119 (wrap64 ((wrap64 (t1117 + t1119)) - 1)) x37_15 t1113 t1114 t1117 = some (r1, r2)) ∧ Aside0 (kq ≤ k) ∧ Aside0 (Kd.R (Kd.int .u64) 43 wc w.heap.size (fun _ => True) (.slice Ao25 t1114.length co25) t1114) ∧ Aside0 (wc.heap[gb1111]? = some (.cells #[.bool a0_0, (.slice A0_1 l0_1.length c0_1), .int .i64 a0_2] 25 (0, 0))) ∧ Aside0 (wc.heap[gb1118]? = some (.cells #[.bool t1113, (.slice Ao25 t1114.length co25), .int .i64 t1117] 25 (0, 0))) ∧ Aside0 (Below w.heap.size w wc))
  case first =>
   have H := HC16.out
   clear HC16
   by_cases c28 : t1119 > 53
   ·rw [if_pos c28] at H
    have c28b0 := decide_eq_true c28
    clear c28
    (first | rw [c28b0] | (simp only [i64_w, i32_w]; rw [c28b0]) | skip)
    have H' := zA H
    clear H
    go_wp2
    go_meet
    case rel => exact ⟨_, (true), zi, H', ⟨by first | omega | exact Nat.le_refl _⟩, ⟨ru HO1116.out⟩, ⟨zu BK1111⟩, ⟨zu BK1118⟩, ⟨zs⟩⟩
   rw [if_neg c28] at H
   have c28b0 := decide_eq_false c28
   clear c28
   (first | rw [c28b0] | (simp only [i64_w, i32_w]; rw [c28b0]) | skip)
   by_cases c29 : t1117 < (-1074)
   ·rw [if_pos c29] at H
    have c29b0 := decide_eq_true c29
    clear c29
    have H' := zA H
    clear H
    have hnb30 := NB1118_1111.out
    have hnc30 := NB1111_1118.out
    obtain ⟨_, _, _, _, _, _⟩ := zc BK1118
    go_wp2
    go_meet
    case rel => exact ⟨_, (true), zi, H', ⟨by first | omega | exact Nat.le_refl _⟩, ⟨ru HO1116.out⟩, ⟨zu BK1111⟩, ⟨zu BK1118⟩, ⟨zs⟩⟩
   rw [if_neg c29] at H
   have c29b0 := decide_eq_false c29
   clear c29
   have H' := zA H
   clear H
   have hnb32 := NB1118_1111.out
   have hnc32 := NB1111_1118.out
   obtain ⟨_, _, _, _, _, _⟩ := zc BK1118
   go_wp2
   go_meet
   case rel => exact ⟨_, (decide ((wrap64 ((wrap64 (t1117 + t1119)) - 1)) > 1023)), zi, H', ⟨by first | omega | exact Nat.le_refl _⟩, ⟨ru HO1116.out⟩, ⟨zu BK1111⟩, ⟨zu BK1118⟩, ⟨zs⟩⟩
  case rest =>
   clear HC16
   try clear c3
   try clear c5
   try clear c5b0
   try clear c5b1
   try clear c5b2
   try clear c28
   try clear c28b0
   try clear c29
   try clear c29b0
   try clear hcz13_0 hcz13_1 hcz13_2 hfz13_0 hfz13_1 hfz13_2
   try clear hcz20_0 hcz20_1 hcz20_2 hfz20_0 hfz20_1 hfz20_2
   try clear hcz24_0 hcz24_1 hcz24_2 hfz24_0 hfz24_1 hfz24_2
   try clear hcz27_0 hcz27_1 hcz27_2 hfz27_0 hfz27_1 hfz27_2
   try clear hcz9_0 hcz9_1 hcz9_2 hfz9_0 hfz9_1 hfz9_2
   obtain ⟨kq, x37_15, rfl, HA, HJ15, HO_1119001, BK1111, BK1118, HB⟩ := hcut
   cases kq with
   | zero => exact absurd HA.out (by simp [ulpref04_To.j0])
   | succ kj15 =>
    have H := HA.out
    clear HA
    simp only [ulpref04_To.j0] at H
    by_cases c34 : x37_15 = true
    ·subst c34
     rw [if_pos rfl] at H
     simp only [Option.some.injEq, Prod.mk.injEq] at H
     obtain ⟨rfl, rfl⟩ := H
     go_wp2
     go_ret2
     exact ⟨er, zs⟩
    replace c34 := Bool.eq_false_iff.mpr c34
    subst c34
    rw [if_neg (show ¬ (false = true) by decide)] at H
    by_cases c35 : (wrap64 ((wrap64 (t1117 + t1119)) - 1)) < (-1022)
    ·rw [if_pos c35] at H
     have c35b0 : decide ((wrap64 ((wrap64 (t1117 + t1119)) - 1)) < (-1022)) = true := decide_eq_true c35
     clear c35
     replace H := dn H
     obtain ⟨c36, H⟩ := H
     have c36b0 := decide_eq_true c36
     have c36b1 : decide (0 < t1114.length) = true := decide_eq_true (by omega)
     clear c36
     obtain ⟨ji37, hji37⟩ : ∃ j_ : Int, (IntKind.u64.wrap (wrap64 (t1117 + 1074))) = j_ := ⟨_, rfl⟩
     replace H : (if 0 ≤ (ji37) then ((ulpref01_Join.f kj15 t1113 0 (shl .u64 (rd t1114 0) (ji37))).bind fun bt1122 => (some (bt1122.1, true))) else (none)) = some (r1, r2) := zQ hji37 H
     replace H := dn H
     obtain ⟨c38, H⟩ := H
     have c38b0 := eq_true c38
     have c38b1 := decide_eq_true c38
     clear c38
     obtain ⟨ji39, hji39⟩ : ∃ j_ : Int, (shl .u64 (rd t1114 0) (ji37)) = j_ := ⟨_, rfl⟩
     replace H : ((ulpref01_Join.f kj15 t1113 0 (ji39)).bind fun bt1122 => (some (bt1122.1, true))) = some (r1, r2) := zQ hji39 H
     have hji39_ : (IntKind.u64.wrap ((rd t1114 0) * 2 ^ min (ji37).toNat 64)) = ji39 := hji39
     have hji39z : (ji37) ≤ 64 → (IntKind.u64.wrap ((rd t1114 0) * 2 ^ (ji37).toNat)) = ji39 := shl_small hji39
     obtain ⟨⟨t1122, t1123⟩, A40, H⟩ := zh H
     (try dsimp only at H)
     simp only [Option.some.injEq, Prod.mk.injEq] at H
     obtain ⟨rfl, rfl⟩ := H
     have hnb41 := NB1118_1111.out
     have hnc41 := NB1111_1118.out
     obtain ⟨_, _, _, _, _, _⟩ := zc BK1118
     try go_wp2_with (first | ((with_reducible refine zD 7 rfl ?_); refine zn (N := 7) (cs := #[.bool false, .int .i64 0, .int .u64 0]) (t := 76) rfl rfl ?_; intro gb1120 hg w43 hbox hb; replace HO_1119001 := zA (R_below (ru HO_1119001.out) hb); have BK1120 := zA (hbox); have GW1120 := zx hg; replace HB := zf hb; have NB1111_1120 := zl BK1111 hg; have NB1120_1111 := zg BK1111 hg; replace BK1111 := zb BK1111 hb; have NB1118_1120 := zl BK1118 hg; have NB1120_1118 := zg BK1118 hg; replace BK1118 := zb BK1118 hb; clear hb hbox hg; have hnb44 := NB1120_1111.out; have hnc44 := NB1111_1120.out; have hnb45 := NB1120_1118.out; have hnc45 := NB1118_1120.out; obtain ⟨_, _, _, _, _, _⟩ := zc BK1120))
     have n0_ : Aside0 (Kd.R (Kd.int .u64) 43 (((w43.setCell ⟨gb1120, 0, none⟩ (.bool t1113)).setCell ⟨gb1120, 1, none⟩ (.int .i64 0)).setCell ⟨gb1120, 2, none⟩ (.int .u64 0)) w.heap.size (fun _ => True) (.slice Ao25 t1114.length co25) t1114) := ⟨ru (R_mono (zr gb1120 (R_types HO_1119001.out BK1120.out (by decide)) (fun _ hk => hk.2) _ _ _) (fun _ hk => trivial))⟩
     have n1_ : Aside0 ((((w43.setCell ⟨gb1120, 0, none⟩ (.bool t1113)).setCell ⟨gb1120, 1, none⟩ (.int .i64 0)).setCell ⟨gb1120, 2, none⟩ (.int .u64 0)).heap[gb1111]? = some (.cells #[.bool a0_0, .slice A0_1 l0_1.length c0_1, .int .i64 a0_2] 25 (0, 0))) := ⟨by (with_reducible repeat (first | refine blk_drewN ?_ _ | refine blk_drew ?_ | refine blk_alloc ?_ _)); refine blk_far ?_ NB1111_1120.out _; refine blk_far ?_ NB1111_1120.out _; refine blk_far ?_ NB1111_1120.out _; exact BK1111.out⟩
     have n2_ : Aside0 ((((w43.setCell ⟨gb1120, 0, none⟩ (.bool t1113)).setCell ⟨gb1120, 1, none⟩ (.int .i64 0)).setCell ⟨gb1120, 2, none⟩ (.int .u64 0)).heap[gb1118]? = some (.cells #[.bool t1113, .slice Ao25 t1114.length co25, .int .i64 t1117] 25 (0, 0))) := ⟨by (with_reducible repeat (first | refine blk_drewN ?_ _ | refine blk_drew ?_ | refine blk_alloc ?_ _)); refine blk_far ?_ NB1118_1120.out _; refine blk_far ?_ NB1118_1120.out _; refine blk_far ?_ NB1118_1120.out _; exact BK1118.out⟩
     have n3_ : Aside0 ((((w43.setCell ⟨gb1120, 0, none⟩ (.bool t1113)).setCell ⟨gb1120, 1, none⟩ (.int .i64 0)).setCell ⟨gb1120, 2, none⟩ (.int .u64 0)).heap[gb1120]? = some (.cells #[.bool t1113, .int .i64 0, .int .u64 0] 76 (0, 0))) := ⟨by (with_reducible repeat (first | refine blk_drewN ?_ _ | refine blk_drew ?_ | refine blk_alloc ?_ _)); exact zp (zu BK1120)⟩
     have n4_ : Aside0 (Below w.heap.size w (((w43.setCell ⟨gb1120, 0, none⟩ (.bool t1113)).setCell ⟨gb1120, 1, none⟩ (.int .i64 0)).setCell ⟨gb1120, 2, none⟩ (.int .u64 0))) := ⟨zs⟩
     (try clear HO_1119001)
     (try clear BK1111)
     (try clear BK1118)
     (try clear BK1120)
     (try clear HB)
     generalize (((w43.setCell ⟨gb1120, 0, none⟩ (.bool t1113)).setCell ⟨gb1120, 1, none⟩ (.int .i64 0)).setCell ⟨gb1120, 2, none⟩ (.int .u64 0)) = w47 at n0_ n1_ n2_ n3_ n4_ ⊢
     have HO_1119001 := n0_
     have BK1111 := n1_
     have BK1118 := n2_
     have BK1120 := n3_
     have HB := n4_
     clear n0_ n1_ n2_ n3_ n4_
     replace HO_1119001 := zA (R_drew HO_1119001.out)
     replace BK1111 := zA (blk_drew BK1111.out)
     replace BK1118 := zA (blk_drew BK1118.out)
     replace BK1120 := zA (blk_drew BK1120.out)
     replace HB := zA (below_drew1 HB.out)
     have p1121 : 0 ≤ (0 : Int) := (by omega)
     have q1121 : 0 < (t1114.length : Int) := od
     obtain ⟨ad1121, e1121, hx1121_0⟩ := Kd.at_int (R_reads' HO_1119001.out).2.2 0 p1121 q1121
     cases e1121
     have qi1121 : (0 < t1114.length) = True := eq_true (by omega)
     (try rw [show ((0 : Int)).toNat = 0 from rfl] at hx1121_0)
     (try rw [Addr.add_zero'] at hx1121_0)
     replace p1121 := eq_true p1121
     replace q1121 := eq_true q1121
     refine start_ (n := 11) (S := fun w' => z4 w' gb1118 (.bool t1113) (.slice (some ad1121) t1114.length co25) (.int .i64 t1117) (w'.cell? ad1121 = some (.int .u64 (rd t1114 0)))) (ds := []) #[false, false, false, false, false, false, false, false, false, false, false] (by kernel_rfl) rfl rfl (za BK1118 hx1121_0) (fun hHeld => ?_); refine with_tabW ulpref04_To.tab12 ulpref04_To.bits12 (fun HT_ HW_ => ?_)
     generalize w47.drew = w48 at HO_1119001 BK1111 BK1118 BK1120 HB hx1121_0 hHeld ⊢
     refine pure_ (i := 0) (N := some 43) (v := ?_) (a' := ?_) #[true, false, false, false, false, false, false, false, false, false, false] rfl rfl (any_of HT_.out (by kernel_rfl)) (fun _ _ _ h => h) (Or.inl ⟨by rfl, ?_⟩) ?_ ?_
     rotate_left
     ·intro w'
      go_simp
      with_reducible rfl
     rotate_left
     ·exact zq
     refine pure_ (i := 4) (N := some 47) (v := ?_) (a' := ?_) #[true, false, false, false, true, false, false, false, false, false, false] rfl rfl (any_of HT_.out (by kernel_rfl)) (fun _ _ _ h => h) (Or.inl ⟨by rfl, ?_⟩) ?_ ?_
     rotate_left
     ·intro w'
      go_simp
      with_reducible rfl
     rotate_left
     ·exact zq
     refine take_ (i := 1) (N := some 44) (v := ?_) (a' := ?_) #[true, true, false, false, true, false, false, false, false, false, false] rfl rfl (take_ofW HT_.out HW_.out (by kernel_rfl)) (fun _ _ _ h => h) (Or.inl ⟨by rfl, ?_⟩) hHeld ?_ ?_
     rotate_left
     ·rintro w' ⟨s0, s1, s2, s3⟩
      go_simp
      with_reducible rfl
     rotate_left
     ·exact zq
     refine pure_ (i := 2) (N := some 45) (v := ?_) (a' := ?_) #[true, true, true, false, true, false, false, false, false, false, false] rfl rfl (any_of HT_.out (by kernel_rfl)) (fun _ _ _ h => h) (Or.inl ⟨by rfl, ?_⟩) ?_ ?_
     rotate_left
     ·intro w'
      go_simp
      with_reducible rfl
     rotate_left
     ·exact zq
     refine take_ (i := 3) (N := some 46) (v := ?_) (a' := ?_) #[true, true, true, true, true, false, false, false, false, false, false] rfl rfl (take_ofW HT_.out HW_.out (by kernel_rfl)) (fun _ _ _ h => h) (Or.inl ⟨by rfl, ?_⟩) hHeld ?_ ?_
     rotate_left
     ·rintro w' ⟨s0, s1, s2, s3⟩
      go_simp
      with_reducible rfl
     rotate_left
     ·exact zq
     refine take_ (i := 5) (N := some 48) (v := ?_) (a' := ?_) #[true, true, true, true, true, true, false, false, false, false, false] rfl rfl (take_ofW HT_.out HW_.out (by kernel_rfl)) (fun _ _ _ h => h) (Or.inl ⟨by rfl, ?_⟩) hHeld ?_ ?_
     rotate_left
     ·rintro w' ⟨s0, s1, s2, s3⟩
      go_simp
      with_reducible rfl
     rotate_left
     ·exact zq
     refine pure_ (i := 6) (N := some 49) (v := ?_) (a' := ?_) #[true, true, true, true, true, true, true, false, false, false, false] rfl rfl (any_of HT_.out (by kernel_rfl)) (fun _ _ _ h => h) (Or.inl ⟨by rfl, ?_⟩) ?_ ?_
     rotate_left
     ·intro w'
      go_simp
      with_reducible rfl
     rotate_left
     ·exact zq
     refine pure_ (i := 7) (N := some 50) (v := ?_) (a' := ?_) #[true, true, true, true, true, true, true, true, false, false, false] rfl rfl (any_of HT_.out (by kernel_rfl)) (fun _ _ _ h => h) (Or.inl ⟨by rfl, ?_⟩) ?_ ?_
     rotate_left
     ·intro w'
      go_simp
      with_reducible rfl
     rotate_left
     ·exact zq
     refine pure_ (i := 8) (N := some 51) (v := ?_) (a' := ?_) #[true, true, true, true, true, true, true, true, true, false, false] rfl rfl (any_of HT_.out (by kernel_rfl)) (fun _ _ _ h => h) (Or.inl ⟨by rfl, ?_⟩) ?_ ?_
     rotate_left
     ·intro w'
      go_simp
      with_reducible rfl
     rotate_left
     ·exact zq
     refine pure_ (i := 9) (N := some 52) (v := ?_) (a' := ?_) #[true, true, true, true, true, true, true, true, true, true, false] rfl rfl (any_of HT_.out (by kernel_rfl)) (fun _ _ _ h => h) (Or.inl ⟨by rfl, ?_⟩) ?_ ?_
     rotate_left
     ·intro w'
      go_simp
      with_reducible rfl
     rotate_left
     ·exact zq
     refine one_ (i := 10) (N := none) #[true, true, true, true, true, true, true, true, true, true, true] rfl rfl (one_of HT_.out (by kernel_rfl)) (by decide) (fun K hK => ?_)
     have hs49 : w48.cell? ⟨gb1120, 2, none⟩ = some (.int .u64 0) := (blk_cell BK1120.out 2).trans rfl
     have hfs49 := blk_frozen BK1120.out 2
     have hns49_0 := NB1111_1120.out
     have hns49_1 := NB1118_1120.out
     have hms49_0 := NB1120_1111.out
     have hms49_1 := NB1120_1118.out
     refine skip_ (w1 := ?_) (by rfl) rfl ?_ ?_
     rotate_left
     ·go_simp
      rfl
     refine hK.out _ _ ⟨((cell_far (p := ⟨gb1120, _, none⟩) NB1118_1120.out _).trans (hHeld.1)), ((cell_far (p := ⟨gb1120, _, none⟩) NB1118_1120.out _).trans (hHeld.2.1)), ((cell_far (p := ⟨gb1120, _, none⟩) NB1118_1120.out _).trans (hHeld.2.2.1)), ((cell_far (p := ⟨gb1120, _, none⟩) (by first | exact Kd.own_blk (R_ne HO_1119001.out BK1120.out (by decide)) | (rw [add_block]; exact Kd.own_blk (R_ne HO_1119001.out BK1120.out (by decide))) | (show (Addr.add _ _).block ≠ _; rw [add_block]; exact Kd.own_blk (R_ne HO_1119001.out BK1120.out (by decide))) | (dsimp only; exact Kd.own_blk (R_ne HO_1119001.out BK1120.out (by decide)))) _).trans (hHeld.2.2.2))⟩ (fun hHeld => ?_)
     clear hK K
     refine done_ (done_of HT_.out (by kernel_rfl)) ?_
     obtain ⟨_, _, _, _, _, _⟩ := zc BK1120
     try go_wp2_with (first | ((with_reducible refine zG 97 rfl ?_); refine goesL_ (some 68) rfl rfl Tryd.func97 (by kernel_rfl) rfl #[.agg #[.bool t1113, .int .i64 0, .int .u64 ji39]] rfl (by (try simp only [List.map_toArray, List.map_cons, List.map_nil]); first | done | (simp only [hji39]; rfl) | rfl | (simp only [List.length_drop, List.length_take]; rfl)) ?_; (with_reducible refine (ulpref01_Join.calls kj15 t1113 0 ji39 t1122 t1123 _ A40.out).mono ?_); rintro e w51 ⟨rfl, hb⟩; refine ⟨_, rfl, ?_⟩; replace HO_1119001 := zA (R_below (ru (R_mono (R_far (p := ⟨gb1120, 2, none⟩) (R_types HO_1119001.out BK1120.out (by decide)) (fun _ hk => hk.2) (.int .u64 ji39)) (fun _ h_ => h_.1))) hb); replace BK1111 := zF BK1111 hb; replace BK1118 := zF BK1118 hb; replace BK1120 := zA (blk_below (g := gb1120) (o := .cells #[.bool t1113, .int .i64 0, .int .u64 ji39] 76 (0, 0)) (by (with_reducible repeat (first | refine blk_drewN ?_ _ | refine blk_drew ?_ | refine blk_alloc ?_ _)); refine blk_put (cs := #[.bool t1113, .int .i64 0, .int .u64 0]) ?_ 2 _ rfl; exact BK1120.out) hb); replace HB := zf hb; (try clear hk)))
     go_ret2
     exact ⟨by first | rfl | (simp [errW_none, errW_some] <;> rfl) | (simp only [← hji37, ← hji39]; first | rfl | (simp [errW_none, errW_some] <;> rfl)) | (simp [*, errW_none, errW_some] <;> rfl), zs⟩
    rw [if_neg c35] at H
    have c35b0 : decide ((wrap64 ((wrap64 (t1117 + t1119)) - 1)) < (-1022)) = false := decide_eq_false c35
    clear c35
    replace H := dn H
    obtain ⟨c52, H⟩ := H
    have c52b0 := decide_eq_true c52
    have c52b1 : decide (0 < t1114.length) = true := decide_eq_true (by omega)
    clear c52
    obtain ⟨ji53, hji53⟩ : ∃ j_ : Int, (IntKind.u64.wrap (wrap64 (53 - t1119))) = j_ := ⟨_, rfl⟩
    replace H : (if 0 ≤ (ji53) then ((ulpref01_Join.f kj15 t1113 (wrap64 ((wrap64 ((wrap64 (t1117 + t1119)) - 1)) + 1023)) (IntKind.u64.wrap ((shl .u64 (rd t1114 0) (ji53)) - 4503599627370496))).bind fun bt1125 => (some (bt1125.1, true))) else (none)) = some (r1, r2) := zQ hji53 H
    replace H := dn H
    obtain ⟨c54, H⟩ := H
    have c54b0 := eq_true c54
    have c54b1 := decide_eq_true c54
    clear c54
    obtain ⟨ji55, hji55⟩ : ∃ j_ : Int, (shl .u64 (rd t1114 0) (ji53)) = j_ := ⟨_, rfl⟩
    replace H : ((ulpref01_Join.f kj15 t1113 (wrap64 ((wrap64 ((wrap64 (t1117 + t1119)) - 1)) + 1023)) (IntKind.u64.wrap ((ji55) - 4503599627370496))).bind fun bt1125 => (some (bt1125.1, true))) = some (r1, r2) := zQ hji55 H
    have hji55_ : (IntKind.u64.wrap ((rd t1114 0) * 2 ^ min (ji53).toNat 64)) = ji55 := hji55
    have hji55z : (ji53) ≤ 64 → (IntKind.u64.wrap ((rd t1114 0) * 2 ^ (ji53).toNat)) = ji55 := shl_small hji55
    obtain ⟨⟨t1125, t1126⟩, A56, H⟩ := zh H
    (try dsimp only at H)
    simp only [Option.some.injEq, Prod.mk.injEq] at H
    obtain ⟨rfl, rfl⟩ := H
    have hnb57 := NB1118_1111.out
    have hnc57 := NB1111_1118.out
    obtain ⟨_, _, _, _, _, _⟩ := zc BK1118
    go_wp2_with (first | ((with_reducible refine zD 67 rfl ?_); refine cells3_ (g := gb1120) (t := 76) (cs := #[.bool t1113, .int .i64 (wrap64 ((wrap64 ((wrap64 (t1117 + t1119)) - 1)) + 1023)), .int .u64 (IntKind.u64.wrap ((ji55) - 4503599627370496))]) ?hb ?_; (case hb => (with_reducible repeat (first | refine blk_drewN ?_ _ | refine blk_drew ?_ | refine blk_alloc ?_ _)); refine blk_put (cs := #[.bool t1113, .int .i64 (wrap64 ((wrap64 ((wrap64 (t1117 + t1119)) - 1)) + 1023)), .int .u64 0]) ?_ 2 _ rfl; refine blk_put (cs := #[.bool t1113, .int .i64 0, .int .u64 0]) ?_ 1 _ rfl; refine blk_put (cs := #[.bool t1113, .int .i64 0, .int .u64 0]) ?_ 2 _ rfl; refine blk_put (cs := #[.bool t1113, .int .i64 0, .int .u64 0]) ?_ 1 _ rfl; refine blk_put (cs := #[.bool false, .int .i64 0, .int .u64 0]) ?_ 0 _ rfl; exact BK1120.out); intro q0_ q1_ q2_; replace q0_ := q0_.trans rfl; replace q1_ := q1_.trans rfl; replace q2_ := q2_.trans rfl; go_step) | ((with_reducible refine zD 7 rfl ?_); refine zn (N := 7) (cs := #[.bool false, .int .i64 0, .int .u64 0]) (t := 76) rfl rfl ?_; intro gb1120 hg w59 hbox hb; replace HO_1119001 := zA (R_below (ru HO_1119001.out) hb); have BK1120 := zA (hbox); have GW1120 := zx hg; replace HB := zf hb; have NB1111_1120 := zl BK1111 hg; have NB1120_1111 := zg BK1111 hg; replace BK1111 := zb BK1111 hb; have NB1118_1120 := zl BK1118 hg; have NB1120_1118 := zg BK1118 hg; replace BK1118 := zb BK1118 hb; clear hb hbox hg; have hnb60 := NB1120_1111.out; have hnc60 := NB1111_1120.out; have hnb61 := NB1120_1118.out; have hnc61 := NB1118_1120.out; obtain ⟨_, _, _, _, _, _⟩ := zc BK1120; obtain ⟨_, _, _, _, _, _⟩ := zc BK1118; have p1124 : 0 ≤ (0 : Int) := (by omega); have q1124 : 0 < (t1114.length : Int) := od; obtain ⟨ad1124, e1124, hx1124_0⟩ := Kd.at_int (R_reads' HO_1119001.out).2.2 0 p1124 q1124; cases e1124; have qi1124 : (0 < t1114.length) = True := eq_true (by omega); (try rw [show ((0 : Int)).toNat = 0 from rfl] at hx1124_0); (try rw [Addr.add_zero'] at hx1124_0); have hn1124_0 : ad1124.block ≠ gb1120 := Kd.own_blk (R_ne HO_1119001.out BK1120.out (by decide)); have hn1124_1 : ad1124.block ≠ gb1120 := Kd.own_blk (R_ne HO_1119001.out BK1120.out (by decide)); have hn1124_2 : ad1124.block ≠ gb1120 := Kd.own_blk (R_ne HO_1119001.out BK1120.out (by decide)); have hn1124_3 : ad1124.block ≠ gb1120 := Kd.own_blk (R_ne HO_1119001.out BK1120.out (by decide)); replace hx1124_0 := (cell_far (p := ⟨gb1120, 0, none⟩) (by first | (rw [add_block]; exact hn1124_0) | (show (Addr.add _ _).block ≠ _; rw [add_block]; exact hn1124_0) | exact hn1124_0) (.bool t1113)).trans hx1124_0; replace hx1124_0 := (cell_far (p := ⟨gb1120, 1, none⟩) (by first | (rw [add_block]; exact hn1124_1) | (show (Addr.add _ _).block ≠ _; rw [add_block]; exact hn1124_1) | exact hn1124_1) (.int .i64 0)).trans hx1124_0; replace hx1124_0 := (cell_far (p := ⟨gb1120, 2, none⟩) (by first | (rw [add_block]; exact hn1124_2) | (show (Addr.add _ _).block ≠ _; rw [add_block]; exact hn1124_2) | exact hn1124_2) (.int .u64 0)).trans hx1124_0; replace hx1124_0 := (cell_far (p := ⟨gb1120, 1, none⟩) (by first | (rw [add_block]; exact hn1124_3) | (show (Addr.add _ _).block ≠ _; rw [add_block]; exact hn1124_3) | exact hn1124_3) (.int .i64 (wrap64 ((wrap64 ((wrap64 (t1117 + t1119)) - 1)) + 1023)))).trans hx1124_0; clear hn1124_0; clear hn1124_1; clear hn1124_2; clear hn1124_3; replace p1124 := eq_true p1124; replace q1124 := eq_true q1124) | ((with_reducible refine zG 97 rfl ?_); refine goesL_ (some 68) rfl rfl Tryd.func97 (by kernel_rfl) rfl #[.agg #[.bool t1113, .int .i64 (wrap64 ((wrap64 ((wrap64 (t1117 + t1119)) - 1)) + 1023)), .int .u64 (IntKind.u64.wrap ((ji55) - 4503599627370496))]] rfl (by (try simp only [List.map_toArray, List.map_cons, List.map_nil]); first | done | (simp only [hji55]; rfl) | rfl | (simp only [List.length_drop, List.length_take]; rfl)) ?_; (with_reducible refine (ulpref01_Join.calls kj15 t1113 (wrap64 ((wrap64 ((wrap64 (t1117 + t1119)) - 1)) + 1023)) (IntKind.u64.wrap ((ji55) - 4503599627370496)) t1125 t1126 _ A56.out).mono ?_); rintro e w64 ⟨rfl, hb⟩; refine ⟨_, rfl, ?_⟩; replace HO_1119001 := zA (R_below (ru (R_mono (R_far (p := ⟨gb1120, 2, none⟩) (R_far (p := ⟨gb1120, 1, none⟩) (zr gb1120 (R_types HO_1119001.out BK1120.out (by decide)) (fun _ hk => hk.2) _ _ _) (fun _ hk => hk.2) (.int .i64 (wrap64 ((wrap64 ((wrap64 (t1117 + t1119)) - 1)) + 1023)))) (fun _ hk => hk.2) (.int .u64 (IntKind.u64.wrap ((ji55) - 4503599627370496)))) (fun _ h_ => h_.1))) hb); replace BK1111 := zF BK1111 hb; replace BK1118 := zF BK1118 hb; replace BK1120 := zA (blk_below (g := gb1120) (o := .cells #[.bool t1113, .int .i64 (wrap64 ((wrap64 ((wrap64 (t1117 + t1119)) - 1)) + 1023)), .int .u64 (IntKind.u64.wrap ((ji55) - 4503599627370496))] 76 (0, 0)) (by (with_reducible repeat (first | refine blk_drewN ?_ _ | refine blk_drew ?_ | refine blk_alloc ?_ _)); refine blk_put (cs := #[.bool t1113, .int .i64 (wrap64 ((wrap64 ((wrap64 (t1117 + t1119)) - 1)) + 1023)), .int .u64 0]) ?_ 2 _ rfl; refine blk_put (cs := #[.bool t1113, .int .i64 0, .int .u64 0]) ?_ 1 _ rfl; refine blk_put (cs := #[.bool t1113, .int .i64 0, .int .u64 0]) ?_ 2 _ rfl; refine blk_put (cs := #[.bool t1113, .int .i64 0, .int .u64 0]) ?_ 1 _ rfl; refine blk_put (cs := #[.bool false, .int .i64 0, .int .u64 0]) ?_ 0 _ rfl; exact BK1120.out) hb); replace HB := zf hb; (try clear hk)))
    go_ret2
    exact ⟨by first | rfl | (simp [errW_none, errW_some] <;> rfl) | (simp only [← hji53, ← hji55]; first | rfl | (simp [errW_none, errW_some] <;> rfl)) | (simp [*, errW_none, errW_some] <;> rfl), zs⟩
 replace c3 := Bool.eq_false_iff.mpr c3
 subst c3
 rw [if_neg (show ¬ (false = true) by decide)] at H
 simp only [Option.some.injEq, Prod.mk.injEq] at H
 obtain ⟨rfl, rfl⟩ := H
 go_enter Tryd.func44, Tryd.ntmps44
 go_wp2_with (first | ((with_reducible refine zD 1 rfl ?_); refine zn (N := 1) (cs := #[.bool a0_0, .slice A0_1 l0_1.length c0_1, .int .i64 a0_2]) (t := 25) rfl rfl ?_; intro gb1111 hg w65 hbox hb; have BK1111 := zA (hbox); have GW1111 := zw hg; replace HB := ze hb; clear hb hbox hg; obtain ⟨_, _, _, _, _, _⟩ := zc BK1111) | ((with_reducible refine zG 24 rfl ?_); refine zL (some 11) rfl rfl Tryd.func24 #[.agg #[.bool a0_0, .slice A0_1 l0_1.length c0_1, .int .i64 a0_2]] rfl ?_; (with_reducible refine (ulpref04_Right.calls k a0_0 _ _ l0_1 a0_2 false _ ?side1 ?side2 A2.out).mono ?_); (case side1 => exact zk (C_below HR0_1.out HB.out)); (case side2 => exact HC0_1.out); rintro e w67 ⟨rfl, hb⟩; refine ⟨_, rfl, ?_⟩; replace BK1111 := zb BK1111 hb; replace HB := zf hb))
 go_ret2
 exact ⟨er, zs⟩
end Go.Proofs.YtemfckibdojbbaaDoor.PAll
