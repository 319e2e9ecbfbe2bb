/- Printed functions, merged by a program of this session. -/
import Derived.Test.YtemfckibdojbbaaDoorXDyadOrdersP0
import Derived.Test.YtemfckibdojbbaaDoorXDyadOrdersP14
import Derived.Test.YtemfckibdojbbaaDoorXDyadOrdersP21
import Derived.Test.YtemfckibdojbbaaDoorXDyadOrdersP6
import Derived.Test.YtemfckibdojbbaaDoorXDyadOrdersP13
import Derived.Laws.StructEq
import Derived.Test.YtemfckibdojbbaaDoorXDyadOrdersSh
namespace Go.Proofs.YtemfckibdojbbaaDoor.PAll
open Go.RowKit Go.Proofs.YtemfckibdojbbaaDoorW.PrintWords Go.Proofs.YtemfckibdojbbaaDoorW.PrintLast Go.Proofs.YtemfckibdojbbaaDoorW.PrintMore Go.Proofs.YtemfckibdojbbaaDoorW.PrintWords.Kd
attribute [local go_sem] max2_int min2_int max_two min_two max_three min_three max_four min_four   -- for this text's walks alone
set_option linter.unusedVariables false
set_option linter.unusedSimpArgs false
attribute [local go_sem] ext135 ext136
def ulpref04_TopOf.f (k : Nat) (a0_0 : Bool) (l0_1 : List Int) (a0_2 : Int) : Option (Int × Int) := (ulpref04_fault.f k a0_0 l0_1 a0_2).bind fun t984 => (if t984 = 0 then ((ulpref04_Top.f k a0_0 l0_1 a0_2).bind fun t985 => (some (t985, 0))) else (some (0, t984)))
set_option maxHeartbeats 8000000 in
set_option maxRecDepth 100000 in
theorem ulpref04_TopOf.calls (k : Nat) (a0_0 : Bool) (A0_1 : Option Addr) (c0_1 : Nat) (l0_1 : List Int) (a0_2 : Int) (r1 : Int) (r2 : Int) (w : World) (hr0_1 : Kd.C (Kd.int .u64) w A0_1 l0_1.length l0_1) (hc0_1 : l0_1.length ≤ c0_1) (h : ulpref04_TopOf.f k a0_0 l0_1 a0_2 = some (r1, r2)) :
  Calls Tryd.prog 38 #[.agg #[.bool a0_0, .slice A0_1 l0_1.length c0_1, .int .i64 a0_2]] w fun e w' => e = .returned (.tuple #[.int .i64 r1, .int .i64 r2]) ∧ Below w.heap.size w w' := by
 have hu25 := Tryd.underlying25
 have HR0_1 := zA hr0_1
 have HC0_1 := zA hc0_1
 clear hr0_1 hc0_1
 have HB := zA (Below.refl w.heap.size w)
 have H : ((ulpref04_fault.f k a0_0 l0_1 a0_2).bind fun t984 => (if t984 = 0 then ((ulpref04_Top.f k a0_0 l0_1 a0_2).bind fun t985 => (some (t985, 0))) else (some (0, t984)))) = some (r1, r2) := h
 clear h
 obtain ⟨t984, A2, H⟩ := zh H
 by_cases c3 : t984 = 0
 ·rw [if_pos c3] at H
  have c3b0 := beq_iff_eq.mpr c3
  have c3b1 := bne_eq_false_iff_eq.mpr c3
  clear c3
  obtain ⟨t985, A4, H⟩ := zh H
  simp only [Option.some.injEq, Prod.mk.injEq] at H
  obtain ⟨rfl, rfl⟩ := H
  go_enter Tryd.func38, Tryd.ntmps38
  go_wp2_with (first | ((with_reducible refine zD 1 rfl ?_); refine zn (N := 1) (cs := #[.bool a0_0, .slice A0_1 l0_1.length c0_1, .int .i64 a0_2]) (t := 25) rfl rfl ?_; intro gb983 hg w5 hbox hb; have BK983 := zA (hbox); have GW983 := zw hg; replace HB := ze hb; clear hb hbox hg; obtain ⟨_, _, _, _, _, _⟩ := zc BK983) | ((with_reducible refine zG 85 rfl ?_); refine zL (some 6) rfl rfl Tryd.func85 #[.agg #[.bool a0_0, .slice A0_1 l0_1.length c0_1, .int .i64 a0_2]] rfl ?_; (with_reducible refine (ulpref04_fault.calls k a0_0 _ _ l0_1 a0_2 t984 _ ?side1 ?side2 A2.out).mono ?_); (case side1 => exact zk (C_below HR0_1.out HB.out)); (case side2 => exact HC0_1.out); rintro e w7 ⟨rfl, hb⟩; refine ⟨_, rfl, ?_⟩; replace BK983 := zb BK983 hb; replace HB := zf hb; obtain ⟨hcz8_0, hcz8_1, hcz8_2, hfz8_0, hfz8_1, hfz8_2⟩ := zc BK983) | ((with_reducible refine zG 88 rfl ?_); refine zL (some 11) rfl rfl Tryd.func88 #[.agg #[.bool a0_0, .slice A0_1 l0_1.length c0_1, .int .i64 a0_2]] rfl ?_; (with_reducible refine (ulpref04_Top.calls k a0_0 _ _ l0_1 a0_2 t985 _ ?side1 ?side2 A4.out).mono ?_); (case side1 => exact zk (C_below HR0_1.out HB.out)); (case side2 => exact HC0_1.out); rintro e w9 ⟨rfl, hb⟩; refine ⟨_, rfl, ?_⟩; replace BK983 := zb BK983 hb; replace HB := zf hb))
  go_ret2
  exact ⟨er, zs⟩
 rw [if_neg c3] at H
 have c3b0 := beq_eq_false_iff_ne.mpr c3
 have c3b1 := bne_iff_ne.mpr c3
 simp only [Option.some.injEq, Prod.mk.injEq] at H
 obtain ⟨rfl, rfl⟩ := H
 go_enter Tryd.func38, Tryd.ntmps38
 go_wp2_with (first | ((with_reducible refine zD 1 rfl ?_); refine zn (N := 1) (cs := #[.bool a0_0, .slice A0_1 l0_1.length c0_1, .int .i64 a0_2]) (t := 25) rfl rfl ?_; intro gb983 hg w10 hbox hb; have BK983 := zA (hbox); have GW983 := zw hg; replace HB := ze hb; clear hb hbox hg; obtain ⟨_, _, _, _, _, _⟩ := zc BK983) | ((with_reducible refine zG 85 rfl ?_); refine zL (some 6) rfl rfl Tryd.func85 #[.agg #[.bool a0_0, .slice A0_1 l0_1.length c0_1, .int .i64 a0_2]] rfl ?_; (with_reducible refine (ulpref04_fault.calls k a0_0 _ _ l0_1 a0_2 t984 _ ?side1 ?side2 A2.out).mono ?_); (case side1 => exact zk (C_below HR0_1.out HB.out)); (case side2 => exact HC0_1.out); rintro e w12 ⟨rfl, hb⟩; refine ⟨_, rfl, ?_⟩; replace BK983 := zb BK983 hb; replace HB := zf hb))
 go_ret2
 exact ⟨er, zs⟩
def ulplaw04_DyadOrders.f (k : Nat) (a0_0 : Bool) (l0_1 : List Int) (a0_2 : Int) (a1_0 : Bool) (l1_1 : List Int) (a1_2 : Int) : Option (Bool) := (dyad_Cmp.f k a0_0 l0_1 a0_2 a1_0 l1_1 a1_2).bind fun bt988 => ((ulpref04_Cmp.f k a0_0 l0_1 a0_2 a1_0 l1_1 a1_2).bind fun bt990 => ((dyad_Size.f k a0_0 l0_1 a0_2).bind fun bt992 => ((ulpref04_Size.f k a0_0 l0_1 a0_2).bind fun bt994 => ((dyad_Top.f k a0_0 l0_1 a0_2).bind fun bt996 => ((ulpref04_TopOf.f k a0_0 l0_1 a0_2).bind fun bt998 => (if bt988.1 = bt990.1 then (if bt988.2 = bt990.2 then (if bt992.1 = bt994.1 then (if bt992.2 = bt994.2 then (if bt996.1 = bt998.1 then (if bt996.2 = bt998.2 then ((ulplaw04_begins.f k).bind fun t1000 => (some t1000)) else (some false)) else (some false)) else (some false)) else (some false)) else (some false)) else (some false)))))))
set_option maxHeartbeats 8000000 in
set_option maxRecDepth 100000 in
theorem ulplaw04_DyadOrders.calls (k : Nat) (a0_0 : Bool) (A0_1 : Option Addr) (c0_1 : Nat) (l0_1 : List Int) (a0_2 : Int) (a1_0 : Bool) (A1_1 : Option Addr) (c1_1 : Nat) (l1_1 : List Int) (a1_2 : Int) (r : Bool) (w : World) (hr0_1 : Kd.C (Kd.int .u64) w A0_1 l0_1.length l0_1) (hc0_1 : l0_1.length ≤ c0_1) (hr1_1 : Kd.C (Kd.int .u64) w A1_1 l1_1.length l1_1) (hc1_1 : l1_1.length ≤ c1_1) (hT : Laid w) (hr_ : Aside0 (r = true)) (h : ulplaw04_DyadOrders.f k a0_0 l0_1 a0_2 a1_0 l1_1 a1_2 = some r) :
  Calls Tryd.prog 6 #[.agg #[.bool a0_0, .slice A0_1 l0_1.length c0_1, .int .i64 a0_2], .agg #[.bool a1_0, .slice A1_1 l1_1.length c1_1, .int .i64 a1_2]] w fun e w' => e = .returned (.bool r) ∧ Below w.heap.size w w' := by
 have hu25 := Tryd.underlying25
 have HR0_1 := zA hr0_1
 have HC0_1 := zA hc0_1
 clear hr0_1 hc0_1
 have HR1_1 := zA hr1_1
 have HC1_1 := zA hc1_1
 clear hr1_1 hc1_1
 have HB := zA (Below.refl w.heap.size w)
 have H : ((dyad_Cmp.f k a0_0 l0_1 a0_2 a1_0 l1_1 a1_2).bind fun bt988 => ((ulpref04_Cmp.f k a0_0 l0_1 a0_2 a1_0 l1_1 a1_2).bind fun bt990 => ((dyad_Size.f k a0_0 l0_1 a0_2).bind fun bt992 => ((ulpref04_Size.f k a0_0 l0_1 a0_2).bind fun bt994 => ((dyad_Top.f k a0_0 l0_1 a0_2).bind fun bt996 => ((ulpref04_TopOf.f k a0_0 l0_1 a0_2).bind fun bt998 => (if bt988.1 = bt990.1 then (if bt988.2 = bt990.2 then (if bt992.1 = bt994.1 then (if bt992.2 = bt994.2 then (if bt996.1 = bt998.1 then (if bt996.2 = bt998.2 then ((ulplaw04_begins.f k).bind fun t1000 => (some t1000)) else (some false)) else (some false)) else (some false)) else (some false)) else (some false)) else (some false)))))))) = some r := h
 clear h
 obtain ⟨⟨t988, t989⟩, A3, H⟩ := zh H
 (try dsimp only at H)
 obtain ⟨⟨t990, t991⟩, A4, H⟩ := zh H
 (try dsimp only at H)
 obtain ⟨⟨t992, t993⟩, A5, H⟩ := zh H
 (try dsimp only at H)
 obtain ⟨⟨t994, t995⟩, A6, H⟩ := zh H
 (try dsimp only at H)
 obtain ⟨⟨t996, t997⟩, A7, H⟩ := zh H
 (try dsimp only at H)
 obtain ⟨⟨t998, t999⟩, A8, H⟩ := zh H
 (try dsimp only at H)
 by_cases c9 : t988 = t990
 ·rw [if_pos c9] at H
  have c9b0 := beq_iff_eq.mpr c9
  have c9b1 := bne_eq_false_iff_eq.mpr c9
  clear c9
  by_cases c10 : t989 = t991
  ·rw [if_pos c10] at H
   have c10b0 := beq_iff_eq.mpr c10
   have c10b1 := bne_eq_false_iff_eq.mpr c10
   clear c10
   by_cases c11 : t992 = t994
   ·rw [if_pos c11] at H
    have c11b0 := beq_iff_eq.mpr c11
    have c11b1 := bne_eq_false_iff_eq.mpr c11
    clear c11
    by_cases c12 : t993 = t995
    ·rw [if_pos c12] at H
     have c12b0 := beq_iff_eq.mpr c12
     have c12b1 := bne_eq_false_iff_eq.mpr c12
     clear c12
     by_cases c13 : t996 = t998
     ·rw [if_pos c13] at H
      have c13b0 := beq_iff_eq.mpr c13
      have c13b1 := bne_eq_false_iff_eq.mpr c13
      clear c13
      by_cases c14 : t997 = t999
      ·rw [if_pos c14] at H
       have c14b0 := beq_iff_eq.mpr c14
       have c14b1 := bne_eq_false_iff_eq.mpr c14
       clear c14
       obtain ⟨t1000, A15, H⟩ := zh H
       clear hr_
       obtain rfl := Option.some.inj H
       go_enter Tryd.func6, Tryd.ntmps6
       go_wp2_with (first | ((with_reducible refine zD 2 rfl ?_); refine zn (N := 2) (cs := #[.bool a0_0, .slice A0_1 l0_1.length c0_1, .int .i64 a0_2]) (t := 25) rfl rfl ?_; intro gb986 hg w16 hbox hb; have BK986 := zA (hbox); have GW986 := zw hg; replace HB := ze hb; clear hb hbox hg) | ((with_reducible refine zD 3 rfl ?_); refine zn (N := 3) (cs := #[.bool a1_0, .slice A1_1 l1_1.length c1_1, .int .i64 a1_2]) (t := 25) rfl rfl ?_; intro gb987 hg w17 hbox hb; have BK987 := zA (hbox); have GW987 := zx hg; replace HB := zf hb; have NB986_987 := zl BK986 hg; have NB987_986 := zg BK986 hg; replace BK986 := zb BK986 hb; clear hb hbox hg; have hnb18 := NB986_987.out; have hnc18 := NB987_986.out; obtain ⟨_, _, _, _, _, _⟩ := zc BK986; obtain ⟨_, _, _, _, _, _⟩ := zc BK987) | ((with_reducible refine zG 33 rfl ?_); refine zL (some 20) rfl rfl Tryd.func33 #[.agg #[.bool a0_0, .slice A0_1 l0_1.length c0_1, .int .i64 a0_2], .agg #[.bool a1_0, .slice A1_1 l1_1.length c1_1, .int .i64 a1_2]] rfl ?_; (with_reducible refine (dyad_Cmp.calls k a0_0 _ _ l0_1 a0_2 a1_0 _ _ l1_1 a1_2 t988 t989 _ ?side1 ?side2 ?side3 ?side4 (laid_below hT zs) A3.out).mono ?_); (case side1 => exact zk (C_below HR0_1.out HB.out)); (case side2 => exact HC0_1.out); (case side3 => exact zk (C_below HR1_1.out HB.out)); (case side4 => exact HC1_1.out); rintro e w21 ⟨rfl, hb⟩; refine ⟨_, rfl, ?_⟩; replace BK986 := zb BK986 hb; replace BK987 := zb BK987 hb; replace HB := zf hb; obtain ⟨hcz22_0, hcz22_1, hcz22_2, hfz22_0, hfz22_1, hfz22_2⟩ := zc BK986; obtain ⟨hcz23_0, hcz23_1, hcz23_2, hfz23_0, hfz23_1, hfz23_2⟩ := zc BK987) | ((with_reducible refine zG 34 rfl ?_); refine zL (some 26) rfl rfl Tryd.func34 #[.agg #[.bool a0_0, .slice A0_1 l0_1.length c0_1, .int .i64 a0_2], .agg #[.bool a1_0, .slice A1_1 l1_1.length c1_1, .int .i64 a1_2]] rfl ?_; (with_reducible refine (ulpref04_Cmp.calls k a0_0 _ _ l0_1 a0_2 a1_0 _ _ l1_1 a1_2 t990 t991 _ ?side1 ?side2 ?side3 ?side4 A4.out).mono ?_); (case side1 => exact zk (C_below HR0_1.out HB.out)); (case side2 => exact HC0_1.out); (case side3 => exact zk (C_below HR1_1.out HB.out)); (case side4 => exact HC1_1.out); rintro e w24 ⟨rfl, hb⟩; refine ⟨_, rfl, ?_⟩; replace BK986 := zb BK986 hb; replace BK987 := zb BK987 hb; replace HB := zf hb; obtain ⟨hcz25_0, hcz25_1, hcz25_2, hfz25_0, hfz25_1, hfz25_2⟩ := zc BK986) | ((with_reducible refine zG 35 rfl ?_); refine zL (some 31) rfl rfl Tryd.func35 #[.agg #[.bool a0_0, .slice A0_1 l0_1.length c0_1, .int .i64 a0_2]] rfl ?_; (with_reducible refine (dyad_Size.calls k a0_0 _ _ l0_1 a0_2 t992 t993 _ ?side1 ?side2 (laid_below hT zs) A5.out).mono ?_); (case side1 => exact zk (C_below HR0_1.out HB.out)); (case side2 => exact HC0_1.out); rintro e w26 ⟨rfl, hb⟩; refine ⟨_, rfl, ?_⟩; replace BK986 := zb BK986 hb; replace BK987 := zb BK987 hb; replace HB := zf hb; obtain ⟨hcz27_0, hcz27_1, hcz27_2, hfz27_0, hfz27_1, hfz27_2⟩ := zc BK986) | ((with_reducible refine zG 36 rfl ?_); refine zL (some 36) rfl rfl Tryd.func36 #[.agg #[.bool a0_0, .slice A0_1 l0_1.length c0_1, .int .i64 a0_2]] rfl ?_; (with_reducible refine (ulpref04_Size.calls k a0_0 _ _ l0_1 a0_2 t994 t995 _ ?side1 ?side2 A6.out).mono ?_); (case side1 => exact zk (C_below HR0_1.out HB.out)); (case side2 => exact HC0_1.out); rintro e w28 ⟨rfl, hb⟩; refine ⟨_, rfl, ?_⟩; replace BK986 := zb BK986 hb; replace BK987 := zb BK987 hb; replace HB := zf hb; obtain ⟨hcz29_0, hcz29_1, hcz29_2, hfz29_0, hfz29_1, hfz29_2⟩ := zc BK986) | ((with_reducible refine zG 37 rfl ?_); refine zL (some 41) rfl rfl Tryd.func37 #[.agg #[.bool a0_0, .slice A0_1 l0_1.length c0_1, .int .i64 a0_2]] rfl ?_; (with_reducible refine (dyad_Top.calls k a0_0 _ _ l0_1 a0_2 t996 t997 _ ?side1 ?side2 (laid_below hT zs) A7.out).mono ?_); (case side1 => exact zk (C_below HR0_1.out HB.out)); (case side2 => exact HC0_1.out); rintro e w30 ⟨rfl, hb⟩; refine ⟨_, rfl, ?_⟩; replace BK986 := zb BK986 hb; replace BK987 := zb BK987 hb; replace HB := zf hb; obtain ⟨hcz31_0, hcz31_1, hcz31_2, hfz31_0, hfz31_1, hfz31_2⟩ := zc BK986) | ((with_reducible refine zG 38 rfl ?_); refine zL (some 46) rfl rfl Tryd.func38 #[.agg #[.bool a0_0, .slice A0_1 l0_1.length c0_1, .int .i64 a0_2]] rfl ?_; (with_reducible refine (ulpref04_TopOf.calls k a0_0 _ _ l0_1 a0_2 t998 t999 _ ?side1 ?side2 A8.out).mono ?_); (case side1 => exact zk (C_below HR0_1.out HB.out)); (case side2 => exact HC0_1.out); rintro e w32 ⟨rfl, hb⟩; refine ⟨_, rfl, ?_⟩; replace BK986 := zb BK986 hb; replace BK987 := zb BK987 hb; replace HB := zf hb) | (go_at_call 15; (with_reducible refine (ulplaw04_begins.calls k  t1000 _ (laid_below hT zs) (zA (ulplaw04_begins.true_ k t1000 A15.out)) A15.out).mono ?_); rintro e w33 ⟨rfl, hb⟩; replace BK986 := zb BK986 hb; replace BK987 := zb BK987 hb; replace HB := zf hb))
       go_ret
       exact ⟨er, zs⟩
      rw [if_neg c14] at H
      have c14b0 := beq_eq_false_iff_ne.mpr c14
      have c14b1 := bne_iff_ne.mpr c14
      obtain rfl := Option.some.inj H
      exact absurd hr_.out (by decide)
     rw [if_neg c13] at H
     have c13b0 := beq_eq_false_iff_ne.mpr c13
     have c13b1 := bne_iff_ne.mpr c13
     obtain rfl := Option.some.inj H
     exact absurd hr_.out (by decide)
    rw [if_neg c12] at H
    have c12b0 := beq_eq_false_iff_ne.mpr c12
    have c12b1 := bne_iff_ne.mpr c12
    obtain rfl := Option.some.inj H
    exact absurd hr_.out (by decide)
   rw [if_neg c11] at H
   have c11b0 := beq_eq_false_iff_ne.mpr c11
   have c11b1 := bne_iff_ne.mpr c11
   obtain rfl := Option.some.inj H
   exact absurd hr_.out (by decide)
  rw [if_neg c10] at H
  have c10b0 := beq_eq_false_iff_ne.mpr c10
  have c10b1 := bne_iff_ne.mpr c10
  obtain rfl := Option.some.inj H
  exact absurd hr_.out (by decide)
 rw [if_neg c9] at H
 have c9b0 := beq_eq_false_iff_ne.mpr c9
 have c9b1 := bne_iff_ne.mpr c9
 obtain rfl := Option.some.inj H
 exact absurd hr_.out (by decide)
end Go.Proofs.YtemfckibdojbbaaDoor.PAll
