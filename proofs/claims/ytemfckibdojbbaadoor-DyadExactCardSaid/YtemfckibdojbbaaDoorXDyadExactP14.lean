/- Printed functions, merged by a program of this session. -/
import Derived.Test.YtemfckibdojbbaaDoorXDyadExactP0
import Derived.Test.YtemfckibdojbbaaDoorXDyadExactP4
import Derived.Test.YtemfckibdojbbaaDoorXDyadExactP2
import Derived.Laws.StructEq
import Derived.Test.YtemfckibdojbbaaDoorXDyadExactSh
namespace Go.Proofs.YtemfckibdojbbaaDoor.PAll
open Go.RowKit Go.Proofs.YtemfckibdojbbaaDoorW.PrintWords Go.Proofs.YtemfckibdojbbaaDoorW.PrintLast Go.Proofs.YtemfckibdojbbaaDoorW.PrintMore Go.Proofs.YtemfckibdojbbaaDoorW.PrintWords.Kd
attribute [local go_sem] max2_int min2_int max_two min_two max_three min_three max_four min_four   -- for this text's walks alone
set_option linter.unusedVariables false
set_option linter.unusedSimpArgs false
attribute [local go_sem] ext135 ext136
def dyad_To.j0 : Nat → Int → Bool → Bool → List Int → Int → Option (Int × Bool)
 | 0, _, _, _, _, _ => none
 | k + 1, x4, x29, x1100000, x1100001, x1100002 => if x29 = true then (some (0, false)) else (if 0 < (x1100001.length : Int) then (if 0 ≤ (wrap64 (x1100002 - (mx (wrap64 (x4 - 52)) (-1074)))) then (if (shl .u64 (rd x1100001 0) (wrap64 (x1100002 - (mx (wrap64 (x4 - 52)) (-1074))))) ≥ 4503599627370496 then (if x1100000 = true then (some (Go.bits .or .u64 (Go.bits .or .u64 (IntKind.u64.wrap ((IntKind.u64.wrap (wrap64 ((mx (wrap64 (x4 - 52)) (-1074)) + 1075))) * 4503599627370496)) (Go.bits .and .u64 (shl .u64 (rd x1100001 0) (wrap64 (x1100002 - (mx (wrap64 (x4 - 52)) (-1074))))) 4503599627370495)) 9223372036854775808, true)) else (some (Go.bits .or .u64 (IntKind.u64.wrap ((IntKind.u64.wrap (wrap64 ((mx (wrap64 (x4 - 52)) (-1074)) + 1075))) * 4503599627370496)) (Go.bits .and .u64 (shl .u64 (rd x1100001 0) (wrap64 (x1100002 - (mx (wrap64 (x4 - 52)) (-1074))))) 4503599627370495), true))) else (if x1100000 = true then (some (Go.bits .or .u64 (shl .u64 (rd x1100001 0) (wrap64 (x1100002 - (mx (wrap64 (x4 - 52)) (-1074))))) 9223372036854775808, true)) else (some (shl .u64 (rd x1100001 0) (wrap64 (x1100002 - (mx (wrap64 (x4 - 52)) (-1074)))), true)))) else (none)) else (none))
def dyad_To.f (k : Nat) (a0_0 : Bool) (l0_1 : List Int) (a0_2 : Int) : Option (Int × Bool) := (dyad_number_right.f k a0_0 l0_1 a0_2).bind fun t1100 => (if t1100 = true then ((raw_One.f k a0_0 l0_1 a0_2).bind fun bt1101 => ((raw_Zero.f k bt1101.1 bt1101.2.1 bt1101.2.2).bind fun t1106 => (if t1106 = true then (some (0, true)) else ((raw_Top.f k bt1101.1 bt1101.2.1 bt1101.2.2).bind fun t1107 => ((limbs_Len.f k bt1101.2.1).bind fun t1108 => (if t1108 > 53 then (dyad_To.j0 k t1107 true bt1101.1 bt1101.2.1 bt1101.2.2) else (if t1107 > 1023 then (dyad_To.j0 k t1107 true bt1101.1 bt1101.2.1 bt1101.2.2) else (dyad_To.j0 k t1107 (decide (bt1101.2.2 < (-1074))) bt1101.1 bt1101.2.1 bt1101.2.2)))))))) else (some (0, false)))
set_option maxHeartbeats 8000000 in
set_option maxRecDepth 100000 in
theorem dyad_To.calls (k : Nat) (a0_0 : Bool) (A0_1 : Option Addr) (c0_1 : Nat) (l0_1 : List Int) (a0_2 : Int) (r1 : Int) (r2 : Bool) (w : World) (hr0_1 : Kd.C (Kd.int .u64) w A0_1 l0_1.length l0_1) (hc0_1 : l0_1.length ≤ c0_1) (hT : Laid w) (h : dyad_To.f k a0_0 l0_1 a0_2 = some (r1, r2)) :
  Calls Tryd.prog 43 #[.agg #[.bool a0_0, .slice A0_1 l0_1.length c0_1, .int .i64 a0_2]] w fun e w' => e = .returned (.tuple #[.int .u64 r1, .bool r2]) ∧ Below w.heap.size w w' := by
 have hu25 := Tryd.underlying25
 have HR0_1 := zA hr0_1
 have HC0_1 := zA hc0_1
 clear hr0_1 hc0_1
 have HB := zA (Below.refl w.heap.size w)
 have H : ((dyad_number_right.f k a0_0 l0_1 a0_2).bind fun t1100 => (if t1100 = true then ((raw_One.f k a0_0 l0_1 a0_2).bind fun bt1101 => ((raw_Zero.f k bt1101.1 bt1101.2.1 bt1101.2.2).bind fun t1106 => (if t1106 = true then (some (0, true)) else ((raw_Top.f k bt1101.1 bt1101.2.1 bt1101.2.2).bind fun t1107 => ((limbs_Len.f k bt1101.2.1).bind fun t1108 => (if t1108 > 53 then (dyad_To.j0 k t1107 true bt1101.1 bt1101.2.1 bt1101.2.2) else (if t1107 > 1023 then (dyad_To.j0 k t1107 true bt1101.1 bt1101.2.1 bt1101.2.2) else (dyad_To.j0 k t1107 (decide (bt1101.2.2 < (-1074))) bt1101.1 bt1101.2.1 bt1101.2.2)))))))) else (some (0, false)))) = some (r1, r2) := h
 clear h
 obtain ⟨t1100, A2, H⟩ := zh H
 by_cases c3 : t1100 = true
 ·subst c3
  rw [if_pos rfl] at H
  obtain ⟨⟨t1101, t1102, t1105⟩, A4, H⟩ := zh H
  (try dsimp only at H)
  obtain ⟨t1106, A5, H⟩ := zh H
  by_cases c6 : t1106 = true
  ·subst c6
   rw [if_pos rfl] at H
   simp only [Option.some.injEq, Prod.mk.injEq] at H
   obtain ⟨rfl, rfl⟩ := H
   go_enter Tryd.func43, Tryd.ntmps43
   go_wp2_with (first | ((with_reducible refine zD 1 rfl ?_); refine zn (N := 1) (cs := #[.bool a0_0, .slice A0_1 l0_1.length c0_1, .int .i64 a0_2]) (t := 25) rfl rfl ?_; intro gb1099 hg w7 hbox hb; have BK1099 := zA (hbox); have GW1099 := zw hg; replace HB := ze hb; clear hb hbox hg; obtain ⟨hcz8_0, hcz8_1, hcz8_2, hfz8_0, hfz8_1, hfz8_2⟩ := zc BK1099) | (go_at_call 72; (with_reducible refine (dyad_number_right.calls k a0_0 _ _ l0_1 a0_2 true _ ?side1 ?side2 A2.out).mono ?_); (case side1 => exact zk (C_below HR0_1.out HB.out)); (case side2 => exact HC0_1.out); rintro e w9 ⟨rfl, hb⟩; replace BK1099 := zb BK1099 hb; replace HB := zf hb; obtain ⟨hcz10_0, hcz10_1, hcz10_2, hfz10_0, hfz10_1, hfz10_2⟩ := zc BK1099) | (go_at_call 95; (with_reducible refine (raw_One.calls k a0_0 (fun k_ => k_ < w.heap.size) _ _ l0_1 a0_2 t1101 t1102 t1105 _ ?side1 (laid_below hT zs) A4.out).mono ?_); (case side1 => exact V_mk HC0_1.out (Kd.F_below (C_F (Kd.heap_int .u64) HR0_1.out) zs)); rintro e w11 ⟨v1103, rfl, ho0, hb⟩; have HO1104 := zA (V_lower (V_mono (ok' := fun k_ => k_ ≠ gb1099) ho0 (fun k_ hk_ => Or.elim hk_ (fun hs_ => fun e_ => Nat.not_le.2 hs_ (by rw [e_]; exact GW1099.out)) (fun hn_ => (zj BK1099 k_ hn_)))) (below_size zs)); replace BK1099 := zb BK1099 hb; replace HB := zf hb; (try clear ho0); obtain ⟨hcz12_0, hcz12_1, hcz12_2, hfz12_0, hfz12_1, hfz12_2⟩ := zc BK1099; obtain ⟨Ao13, co13, eo13⟩ := V_slice HO1104.out; subst eo13) | (go_at_call 73; (with_reducible refine (raw_Zero.calls k t1101 _ _ t1102 t1105 true _ ?side1 ?side2 A5.out).mono ?_); (case side1 => refine (V_reads' (e := 43) (base := w.heap.size) (ok := fun k_ => k_ ≠ gb1099) (n := t1102.length) (c := co13) ?_).2.2; exact (vu (V_mono (zv gb1099 (V_mono HO1104.out (fun k_ hk => (⟨hk, hk⟩ : _ ∧ k_ ≠ gb1099))) (fun _ hk => hk.2) _ _ _) (fun _ h_ => h_.1)))); (case side2 => exact (V_reads' HO1104.out).2.1); rintro e w14 ⟨rfl, hb⟩; replace HO1104 := zA (V_below (vu (V_mono (zv gb1099 (V_mono HO1104.out (fun k_ hk => (⟨hk, hk⟩ : _ ∧ k_ ≠ gb1099))) (fun _ hk => hk.2) _ _ _) (fun _ h_ => h_.1))) hb); replace BK1099 := zt BK1099 hb; replace HB := zf hb; (try clear hk)))
   repeat (go_quiet (first | ((with_reducible refine zD 1 rfl ?_); refine zn (N := 1) (cs := #[.bool a0_0, .slice A0_1 l0_1.length c0_1, .int .i64 a0_2]) (t := 25) rfl rfl ?_; intro gb1099 hg w7 hbox hb; have BK1099 := zA (hbox); have GW1099 := zw hg; replace HB := ze hb; clear hb hbox hg; obtain ⟨hcz8_0, hcz8_1, hcz8_2, hfz8_0, hfz8_1, hfz8_2⟩ := zc BK1099) | (go_at_call 72; (with_reducible refine (dyad_number_right.calls k a0_0 _ _ l0_1 a0_2 true _ ?side1 ?side2 A2.out).mono ?_); (case side1 => exact zk (C_below HR0_1.out HB.out)); (case side2 => exact HC0_1.out); rintro e w9 ⟨rfl, hb⟩; replace BK1099 := zb BK1099 hb; replace HB := zf hb; obtain ⟨hcz10_0, hcz10_1, hcz10_2, hfz10_0, hfz10_1, hfz10_2⟩ := zc BK1099) | (go_at_call 95; (with_reducible refine (raw_One.calls k a0_0 (fun k_ => k_ < w.heap.size) _ _ l0_1 a0_2 t1101 t1102 t1105 _ ?side1 (laid_below hT zs) A4.out).mono ?_); (case side1 => exact V_mk HC0_1.out (Kd.F_below (C_F (Kd.heap_int .u64) HR0_1.out) zs)); rintro e w11 ⟨v1103, rfl, ho0, hb⟩; have HO1104 := zA (V_lower (V_mono (ok' := fun k_ => k_ ≠ gb1099) ho0 (fun k_ hk_ => Or.elim hk_ (fun hs_ => fun e_ => Nat.not_le.2 hs_ (by rw [e_]; exact GW1099.out)) (fun hn_ => (zj BK1099 k_ hn_)))) (below_size zs)); replace BK1099 := zb BK1099 hb; replace HB := zf hb; (try clear ho0); obtain ⟨hcz12_0, hcz12_1, hcz12_2, hfz12_0, hfz12_1, hfz12_2⟩ := zc BK1099; obtain ⟨Ao13, co13, eo13⟩ := V_slice HO1104.out; subst eo13) | (go_at_call 73; (with_reducible refine (raw_Zero.calls k t1101 _ _ t1102 t1105 true _ ?side1 ?side2 A5.out).mono ?_); (case side1 => refine (V_reads' (e := 43) (base := w.heap.size) (ok := fun k_ => k_ ≠ gb1099) (n := t1102.length) (c := co13) ?_).2.2; exact (vu (V_mono (zv gb1099 (V_mono HO1104.out (fun k_ hk => (⟨hk, hk⟩ : _ ∧ k_ ≠ gb1099))) (fun _ hk => hk.2) _ _ _) (fun _ h_ => h_.1)))); (case side2 => exact (V_reads' HO1104.out).2.1); rintro e w14 ⟨rfl, hb⟩; replace HO1104 := zA (V_below (vu (V_mono (zv gb1099 (V_mono HO1104.out (fun k_ hk => (⟨hk, hk⟩ : _ ∧ k_ ≠ gb1099))) (fun _ hk => hk.2) _ _ _) (fun _ h_ => h_.1))) hb); replace BK1099 := zt BK1099 hb; replace HB := zf hb; (try clear hk))); try go_wp2_with (first | ((with_reducible refine zD 1 rfl ?_); refine zn (N := 1) (cs := #[.bool a0_0, .slice A0_1 l0_1.length c0_1, .int .i64 a0_2]) (t := 25) rfl rfl ?_; intro gb1099 hg w7 hbox hb; have n0_ := ze hb; have n1_ := zA (hbox); have n2_ := zw hg; have n3_ := zw hg; clear HB; have HB := n0_; have BK1099 := n1_; have GW1099 := n2_; have GW1099 := n3_; clear n0_ n1_ n2_ n3_; clear hb hbox hg; obtain ⟨hcz8_0, hcz8_1, hcz8_2, hfz8_0, hfz8_1, hfz8_2⟩ := zc BK1099) | (go_at_call 72; (with_reducible refine (dyad_number_right.calls k a0_0 _ _ l0_1 a0_2 true _ ?side1 ?side2 A2.out).mono ?_); (case side1 => exact zk (C_below HR0_1.out HB.out)); (case side2 => exact HC0_1.out); rintro e w9 ⟨rfl, hb⟩; have n0_ := zb BK1099 hb; have n1_ := zf hb; clear BK1099; clear HB; have BK1099 := n0_; have HB := n1_; clear n0_ n1_; (try clear hb2); (try clear hk); (try clear hi); obtain ⟨hcz10_0, hcz10_1, hcz10_2, hfz10_0, hfz10_1, hfz10_2⟩ := zc BK1099) | (go_at_call 95; (with_reducible refine (raw_One.calls k a0_0 (fun k_ => k_ < w.heap.size) _ _ l0_1 a0_2 t1101 t1102 t1105 _ ?side1 (laid_below hT zs) A4.out).mono ?_); (case side1 => exact V_mk HC0_1.out (Kd.F_below (C_F (Kd.heap_int .u64) HR0_1.out) zs)); rintro e w11 ⟨v1103, rfl, ho0, hb⟩; have n0_ := zA (V_lower (V_mono (ok' := fun k_ => k_ ≠ gb1099) ho0 (fun k_ hk_ => Or.elim hk_ (fun hs_ => fun e_ => Nat.not_le.2 hs_ (by rw [e_]; exact GW1099.out)) (fun hn_ => (zj BK1099 k_ hn_)))) (below_size zs)); have n1_ := zb BK1099 hb; have n2_ := zf hb; clear BK1099; clear HB; have HO1104 := n0_; have BK1099 := n1_; have HB := n2_; clear n0_ n1_ n2_; (try clear hb2); (try clear hk); (try clear hi); (try clear ho0); obtain ⟨hcz12_0, hcz12_1, hcz12_2, hfz12_0, hfz12_1, hfz12_2⟩ := zc BK1099; obtain ⟨Ao13, co13, eo13⟩ := V_slice HO1104.out; subst eo13) | (go_at_call 73; (with_reducible refine (raw_Zero.calls k t1101 _ _ t1102 t1105 true _ ?side1 ?side2 A5.out).mono ?_); (case side1 => refine (V_reads' (e := 43) (base := w.heap.size) (ok := fun k_ => k_ ≠ gb1099) (n := t1102.length) (c := co13) ?_).2.2; exact (vu (V_mono (zv gb1099 (V_mono HO1104.out (fun k_ hk => (⟨hk, hk⟩ : _ ∧ k_ ≠ gb1099))) (fun _ hk => hk.2) _ _ _) (fun _ h_ => h_.1)))); (case side2 => exact (V_reads' HO1104.out).2.1); rintro e w14 ⟨rfl, hb⟩; have n0_ := zA (V_below (vu (V_mono (zv gb1099 (V_mono HO1104.out (fun k_ hk => (⟨hk, hk⟩ : _ ∧ k_ ≠ gb1099))) (fun _ hk => hk.2) _ _ _) (fun _ h_ => h_.1))) hb); have n1_ := zt BK1099 hb; have n2_ := zf hb; clear HO1104; clear BK1099; clear HB; have HO1104 := n0_; have BK1099 := n1_; have HB := n2_; clear n0_ n1_ n2_; (try clear hb2); (try clear hk); (try clear hi))))
   go_ret2
   exact ⟨er, zs⟩
  replace c6 := Bool.eq_false_iff.mpr c6
  subst c6
  rw [if_neg (show ¬ (false = true) by decide)] at H
  obtain ⟨t1107, A15, H⟩ := zh H
  have HC16 := zA H
  clear H
  go_enter Tryd.func43, Tryd.ntmps43
  go_upto_region 7 with (first | ((with_reducible refine zD 1 rfl ?_); refine zn (N := 1) (cs := #[.bool a0_0, .slice A0_1 l0_1.length c0_1, .int .i64 a0_2]) (t := 25) rfl rfl ?_; intro gb1099 hg w17 hbox hb; have BK1099 := zA (hbox); have GW1099 := zw hg; replace HB := ze hb; clear hb hbox hg; obtain ⟨hcz18_0, hcz18_1, hcz18_2, hfz18_0, hfz18_1, hfz18_2⟩ := zc BK1099) | (go_at_call 72; (with_reducible refine (dyad_number_right.calls k a0_0 _ _ l0_1 a0_2 true _ ?side1 ?side2 A2.out).mono ?_); (case side1 => exact zk (C_below HR0_1.out HB.out)); (case side2 => exact HC0_1.out); rintro e w19 ⟨rfl, hb⟩; replace BK1099 := zb BK1099 hb; replace HB := zf hb; obtain ⟨hcz20_0, hcz20_1, hcz20_2, hfz20_0, hfz20_1, hfz20_2⟩ := zc BK1099) | (go_at_call 95; (with_reducible refine (raw_One.calls k a0_0 (fun k_ => k_ < w.heap.size) _ _ l0_1 a0_2 t1101 t1102 t1105 _ ?side1 (laid_below hT zs) A4.out).mono ?_); (case side1 => exact V_mk HC0_1.out (Kd.F_below (C_F (Kd.heap_int .u64) HR0_1.out) zs)); rintro e w21 ⟨v1103, rfl, ho0, hb⟩; have HO1104 := zA (V_lower (V_mono (ok' := fun k_ => k_ ≠ gb1099) ho0 (fun k_ hk_ => Or.elim hk_ (fun hs_ => fun e_ => Nat.not_le.2 hs_ (by rw [e_]; exact GW1099.out)) (fun hn_ => (zj BK1099 k_ hn_)))) (below_size zs)); replace BK1099 := zb BK1099 hb; replace HB := zf hb; (try clear ho0); obtain ⟨hcz22_0, hcz22_1, hcz22_2, hfz22_0, hfz22_1, hfz22_2⟩ := zc BK1099; obtain ⟨Ao23, co23, eo23⟩ := V_slice HO1104.out; subst eo23) | (go_at_call 73; (with_reducible refine (raw_Zero.calls k t1101 _ _ t1102 t1105 false _ ?side1 ?side2 A5.out).mono ?_); (case side1 => refine (V_reads' (e := 43) (base := w.heap.size) (ok := fun k_ => k_ ≠ gb1099) (n := t1102.length) (c := co23) ?_).2.2; exact (vu (V_mono (zv gb1099 (V_mono HO1104.out (fun k_ hk => (⟨hk, hk⟩ : _ ∧ k_ ≠ gb1099))) (fun _ hk => hk.2) _ _ _) (fun _ h_ => h_.1)))); (case side2 => exact (V_reads' HO1104.out).2.1); rintro e w24 ⟨rfl, hb⟩; replace HO1104 := zA (V_below (vu (V_mono (zv gb1099 (V_mono HO1104.out (fun k_ hk => (⟨hk, hk⟩ : _ ∧ k_ ≠ gb1099))) (fun _ hk => hk.2) _ _ _) (fun _ h_ => h_.1))) hb); replace BK1099 := zt BK1099 hb; replace HB := zf hb; (try clear hk); obtain ⟨hcz25_0, hcz25_1, hcz25_2, hfz25_0, hfz25_1, hfz25_2⟩ := zc BK1099) | (go_at_call 87; (with_reducible refine (raw_Top.calls k t1101 _ _ t1102 t1105 t1107 _ ?side1 ?side2 A15.out).mono ?_); (case side1 => exact zk (V_reads' HO1104.out).2.2); (case side2 => exact (V_reads' HO1104.out).2.1); rintro e w26 ⟨rfl, hb⟩; replace HO1104 := zA (V_below (vu HO1104.out) hb); replace BK1099 := zb BK1099 hb; replace HB := zf hb))
  repeat (go_quiet (first | ((with_reducible refine zD 1 rfl ?_); refine zn (N := 1) (cs := #[.bool a0_0, .slice A0_1 l0_1.length c0_1, .int .i64 a0_2]) (t := 25) rfl rfl ?_; intro gb1099 hg w17 hbox hb; have BK1099 := zA (hbox); have GW1099 := zw hg; replace HB := ze hb; clear hb hbox hg; obtain ⟨hcz18_0, hcz18_1, hcz18_2, hfz18_0, hfz18_1, hfz18_2⟩ := zc BK1099) | (go_at_call 72; (with_reducible refine (dyad_number_right.calls k a0_0 _ _ l0_1 a0_2 true _ ?side1 ?side2 A2.out).mono ?_); (case side1 => exact zk (C_below HR0_1.out HB.out)); (case side2 => exact HC0_1.out); rintro e w19 ⟨rfl, hb⟩; replace BK1099 := zb BK1099 hb; replace HB := zf hb; obtain ⟨hcz20_0, hcz20_1, hcz20_2, hfz20_0, hfz20_1, hfz20_2⟩ := zc BK1099) | (go_at_call 95; (with_reducible refine (raw_One.calls k a0_0 (fun k_ => k_ < w.heap.size) _ _ l0_1 a0_2 t1101 t1102 t1105 _ ?side1 (laid_below hT zs) A4.out).mono ?_); (case side1 => exact V_mk HC0_1.out (Kd.F_below (C_F (Kd.heap_int .u64) HR0_1.out) zs)); rintro e w21 ⟨v1103, rfl, ho0, hb⟩; have HO1104 := zA (V_lower (V_mono (ok' := fun k_ => k_ ≠ gb1099) ho0 (fun k_ hk_ => Or.elim hk_ (fun hs_ => fun e_ => Nat.not_le.2 hs_ (by rw [e_]; exact GW1099.out)) (fun hn_ => (zj BK1099 k_ hn_)))) (below_size zs)); replace BK1099 := zb BK1099 hb; replace HB := zf hb; (try clear ho0); obtain ⟨hcz22_0, hcz22_1, hcz22_2, hfz22_0, hfz22_1, hfz22_2⟩ := zc BK1099; obtain ⟨Ao23, co23, eo23⟩ := V_slice HO1104.out; subst eo23) | (go_at_call 73; (with_reducible refine (raw_Zero.calls k t1101 _ _ t1102 t1105 false _ ?side1 ?side2 A5.out).mono ?_); (case side1 => refine (V_reads' (e := 43) (base := w.heap.size) (ok := fun k_ => k_ ≠ gb1099) (n := t1102.length) (c := co23) ?_).2.2; exact (vu (V_mono (zv gb1099 (V_mono HO1104.out (fun k_ hk => (⟨hk, hk⟩ : _ ∧ k_ ≠ gb1099))) (fun _ hk => hk.2) _ _ _) (fun _ h_ => h_.1)))); (case side2 => exact (V_reads' HO1104.out).2.1); rintro e w24 ⟨rfl, hb⟩; replace HO1104 := zA (V_below (vu (V_mono (zv gb1099 (V_mono HO1104.out (fun k_ hk => (⟨hk, hk⟩ : _ ∧ k_ ≠ gb1099))) (fun _ hk => hk.2) _ _ _) (fun _ h_ => h_.1))) hb); replace BK1099 := zt BK1099 hb; replace HB := zf hb; (try clear hk); obtain ⟨hcz25_0, hcz25_1, hcz25_2, hfz25_0, hfz25_1, hfz25_2⟩ := zc BK1099) | (go_at_call 87; (with_reducible refine (raw_Top.calls k t1101 _ _ t1102 t1105 t1107 _ ?side1 ?side2 A15.out).mono ?_); (case side1 => exact zk (V_reads' HO1104.out).2.2); (case side2 => exact (V_reads' HO1104.out).2.1); rintro e w26 ⟨rfl, hb⟩; replace HO1104 := zA (V_below (vu HO1104.out) hb); replace BK1099 := zb BK1099 hb; replace HB := zf hb)); go_upto_region 7 with (first | ((with_reducible refine zD 1 rfl ?_); refine zn (N := 1) (cs := #[.bool a0_0, .slice A0_1 l0_1.length c0_1, .int .i64 a0_2]) (t := 25) rfl rfl ?_; intro gb1099 hg w17 hbox hb; have n0_ := ze hb; have n1_ := zA (hbox); have n2_ := zw hg; have n3_ := zw hg; clear HB; have HB := n0_; have BK1099 := n1_; have GW1099 := n2_; have GW1099 := n3_; clear n0_ n1_ n2_ n3_; clear hb hbox hg; obtain ⟨hcz18_0, hcz18_1, hcz18_2, hfz18_0, hfz18_1, hfz18_2⟩ := zc BK1099) | (go_at_call 72; (with_reducible refine (dyad_number_right.calls k a0_0 _ _ l0_1 a0_2 true _ ?side1 ?side2 A2.out).mono ?_); (case side1 => exact zk (C_below HR0_1.out HB.out)); (case side2 => exact HC0_1.out); rintro e w19 ⟨rfl, hb⟩; have n0_ := zb BK1099 hb; have n1_ := zf hb; clear BK1099; clear HB; have BK1099 := n0_; have HB := n1_; clear n0_ n1_; (try clear hb2); (try clear hk); (try clear hi); obtain ⟨hcz20_0, hcz20_1, hcz20_2, hfz20_0, hfz20_1, hfz20_2⟩ := zc BK1099) | (go_at_call 95; (with_reducible refine (raw_One.calls k a0_0 (fun k_ => k_ < w.heap.size) _ _ l0_1 a0_2 t1101 t1102 t1105 _ ?side1 (laid_below hT zs) A4.out).mono ?_); (case side1 => exact V_mk HC0_1.out (Kd.F_below (C_F (Kd.heap_int .u64) HR0_1.out) zs)); rintro e w21 ⟨v1103, rfl, ho0, hb⟩; have n0_ := zA (V_lower (V_mono (ok' := fun k_ => k_ ≠ gb1099) ho0 (fun k_ hk_ => Or.elim hk_ (fun hs_ => fun e_ => Nat.not_le.2 hs_ (by rw [e_]; exact GW1099.out)) (fun hn_ => (zj BK1099 k_ hn_)))) (below_size zs)); have n1_ := zb BK1099 hb; have n2_ := zf hb; clear BK1099; clear HB; have HO1104 := n0_; have BK1099 := n1_; have HB := n2_; clear n0_ n1_ n2_; (try clear hb2); (try clear hk); (try clear hi); (try clear ho0); obtain ⟨hcz22_0, hcz22_1, hcz22_2, hfz22_0, hfz22_1, hfz22_2⟩ := zc BK1099; obtain ⟨Ao23, co23, eo23⟩ := V_slice HO1104.out; subst eo23) | (go_at_call 73; (with_reducible refine (raw_Zero.calls k t1101 _ _ t1102 t1105 false _ ?side1 ?side2 A5.out).mono ?_); (case side1 => refine (V_reads' (e := 43) (base := w.heap.size) (ok := fun k_ => k_ ≠ gb1099) (n := t1102.length) (c := co23) ?_).2.2; exact (vu (V_mono (zv gb1099 (V_mono HO1104.out (fun k_ hk => (⟨hk, hk⟩ : _ ∧ k_ ≠ gb1099))) (fun _ hk => hk.2) _ _ _) (fun _ h_ => h_.1)))); (case side2 => exact (V_reads' HO1104.out).2.1); rintro e w24 ⟨rfl, hb⟩; have n0_ := zA (V_below (vu (V_mono (zv gb1099 (V_mono HO1104.out (fun k_ hk => (⟨hk, hk⟩ : _ ∧ k_ ≠ gb1099))) (fun _ hk => hk.2) _ _ _) (fun _ h_ => h_.1))) hb); have n1_ := zt BK1099 hb; have n2_ := zf hb; clear HO1104; clear BK1099; clear HB; have HO1104 := n0_; have BK1099 := n1_; have HB := n2_; clear n0_ n1_ n2_; (try clear hb2); (try clear hk); (try clear hi); obtain ⟨hcz25_0, hcz25_1, hcz25_2, hfz25_0, hfz25_1, hfz25_2⟩ := zc BK1099) | (go_at_call 87; (with_reducible refine (raw_Top.calls k t1101 _ _ t1102 t1105 t1107 _ ?side1 ?side2 A15.out).mono ?_); (case side1 => exact zk (V_reads' HO1104.out).2.2); (case side2 => exact (V_reads' HO1104.out).2.1); rintro e w26 ⟨rfl, hb⟩; have n0_ := zA (V_below (vu HO1104.out) hb); have n1_ := zb BK1099 hb; have n2_ := zf hb; clear HO1104; clear BK1099; clear HB; have HO1104 := n0_; have BK1099 := n1_; have HB := n2_; clear n0_ n1_ n2_; (try clear hb2); (try clear hk); (try clear hi))))
  (try simp only [Act.put, List.setIfInBounds_toArray, List.set_cons_zero, List.set_cons_succ])
  go_cut [29] (fun v29 wc => ∃ (kq : Nat) (x29_15 : Bool), v29 = .bool x29_15 ∧ Aside0 (dyad_To.j0 kq t1107 x29_15 t1101 t1102 t1105 = some (r1, r2)) ∧ Aside0 (kq ≤ k) ∧ Aside0 (Kd.V (Kd.int .u64) 43 wc w.heap.size (fun k_ => k_ ≠ gb1099) (.slice Ao23 t1102.length co23) t1102) ∧ Aside0 (wc.heap[gb1099]? = some (.cells #[.bool t1101, (.slice Ao23 t1102.length co23), .int .i64 t1105] 25 (0, 0))) ∧ Aside0 (Below w.heap.size w wc))
  case first =>
   have H := HC16.out
   clear HC16
   obtain ⟨t1108, A27, H⟩ := zh H
   by_cases c28 : t1108 > 53
   ·rw [if_pos c28] at H
    have c28b0 := decide_eq_true c28
    clear c28
    (first | rw [c28b0] | (simp only [i64_w, i32_w]; rw [c28b0]) | skip)
    have H' := zA H
    clear H
    obtain ⟨_, _, _, _, _, _⟩ := zc BK1099
    go_wp2_with (first | (go_at_call 84; (with_reducible refine (limbs_Len.calls k _ _ t1102 t1108 _ ?side1 ?side2 A27.out).mono ?_); (case side1 => exact zk (V_reads' HO1104.out).2.2); (case side2 => exact (V_reads' HO1104.out).2.1); rintro e w30 ⟨rfl, hb⟩; replace HO1104 := zA (V_below (vu HO1104.out) hb); replace BK1099 := zb BK1099 hb; replace HB := zf hb))
    repeat (go_quiet (first | (go_at_call 84; (with_reducible refine (limbs_Len.calls k _ _ t1102 t1108 _ ?side1 ?side2 A27.out).mono ?_); (case side1 => exact zk (V_reads' HO1104.out).2.2); (case side2 => exact (V_reads' HO1104.out).2.1); rintro e w30 ⟨rfl, hb⟩; replace HO1104 := zA (V_below (vu HO1104.out) hb); replace BK1099 := zb BK1099 hb; replace HB := zf hb)); try go_wp2_with (first | (go_at_call 84; (with_reducible refine (limbs_Len.calls k _ _ t1102 t1108 _ ?side1 ?side2 A27.out).mono ?_); (case side1 => exact zk (V_reads' HO1104.out).2.2); (case side2 => exact (V_reads' HO1104.out).2.1); rintro e w30 ⟨rfl, hb⟩; have n0_ := zA (V_below (vu HO1104.out) hb); have n1_ := zb BK1099 hb; have n2_ := zf hb; clear HO1104; clear BK1099; clear HB; have HO1104 := n0_; have BK1099 := n1_; have HB := n2_; clear n0_ n1_ n2_; (try clear hb2); (try clear hk); (try clear hi))))
    go_meet
    case rel => exact ⟨_, (true), zi, H', ⟨by first | omega | exact Nat.le_refl _⟩, ⟨vu HO1104.out⟩, ⟨zu BK1099⟩, ⟨zs⟩⟩
   rw [if_neg c28] at H
   have c28b0 := decide_eq_false c28
   clear c28
   (first | rw [c28b0] | (simp only [i64_w, i32_w]; rw [c28b0]) | skip)
   by_cases c31 : t1107 > 1023
   ·rw [if_pos c31] at H
    have c31b0 := decide_eq_true c31
    clear c31
    have H' := zA H
    clear H
    obtain ⟨_, _, _, _, _, _⟩ := zc BK1099
    go_wp2_with (first | (go_at_call 84; (with_reducible refine (limbs_Len.calls k _ _ t1102 t1108 _ ?side1 ?side2 A27.out).mono ?_); (case side1 => exact zk (V_reads' HO1104.out).2.2); (case side2 => exact (V_reads' HO1104.out).2.1); rintro e w33 ⟨rfl, hb⟩; replace HO1104 := zA (V_below (vu HO1104.out) hb); replace BK1099 := zb BK1099 hb; replace HB := zf hb))
    repeat (go_quiet (first | (go_at_call 84; (with_reducible refine (limbs_Len.calls k _ _ t1102 t1108 _ ?side1 ?side2 A27.out).mono ?_); (case side1 => exact zk (V_reads' HO1104.out).2.2); (case side2 => exact (V_reads' HO1104.out).2.1); rintro e w33 ⟨rfl, hb⟩; replace HO1104 := zA (V_below (vu HO1104.out) hb); replace BK1099 := zb BK1099 hb; replace HB := zf hb)); try go_wp2_with (first | (go_at_call 84; (with_reducible refine (limbs_Len.calls k _ _ t1102 t1108 _ ?side1 ?side2 A27.out).mono ?_); (case side1 => exact zk (V_reads' HO1104.out).2.2); (case side2 => exact (V_reads' HO1104.out).2.1); rintro e w33 ⟨rfl, hb⟩; have n0_ := zA (V_below (vu HO1104.out) hb); have n1_ := zb BK1099 hb; have n2_ := zf hb; clear HO1104; clear BK1099; clear HB; have HO1104 := n0_; have BK1099 := n1_; have HB := n2_; clear n0_ n1_ n2_; (try clear hb2); (try clear hk); (try clear hi))))
    go_meet
    case rel => exact ⟨_, (true), zi, H', ⟨by first | omega | exact Nat.le_refl _⟩, ⟨vu HO1104.out⟩, ⟨zu BK1099⟩, ⟨zs⟩⟩
   rw [if_neg c31] at H
   have c31b0 := decide_eq_false c31
   clear c31
   have H' := zA H
   clear H
   obtain ⟨_, _, _, _, _, _⟩ := zc BK1099
   go_wp2_with (first | (go_at_call 84; (with_reducible refine (limbs_Len.calls k _ _ t1102 t1108 _ ?side1 ?side2 A27.out).mono ?_); (case side1 => exact zk (V_reads' HO1104.out).2.2); (case side2 => exact (V_reads' HO1104.out).2.1); rintro e w35 ⟨rfl, hb⟩; replace HO1104 := zA (V_below (vu HO1104.out) hb); replace BK1099 := zb BK1099 hb; replace HB := zf hb; obtain ⟨hcz36_0, hcz36_1, hcz36_2, hfz36_0, hfz36_1, hfz36_2⟩ := zc BK1099))
   repeat (go_quiet (first | (go_at_call 84; (with_reducible refine (limbs_Len.calls k _ _ t1102 t1108 _ ?side1 ?side2 A27.out).mono ?_); (case side1 => exact zk (V_reads' HO1104.out).2.2); (case side2 => exact (V_reads' HO1104.out).2.1); rintro e w35 ⟨rfl, hb⟩; replace HO1104 := zA (V_below (vu HO1104.out) hb); replace BK1099 := zb BK1099 hb; replace HB := zf hb; obtain ⟨hcz36_0, hcz36_1, hcz36_2, hfz36_0, hfz36_1, hfz36_2⟩ := zc BK1099)); try go_wp2_with (first | (go_at_call 84; (with_reducible refine (limbs_Len.calls k _ _ t1102 t1108 _ ?side1 ?side2 A27.out).mono ?_); (case side1 => exact zk (V_reads' HO1104.out).2.2); (case side2 => exact (V_reads' HO1104.out).2.1); rintro e w35 ⟨rfl, hb⟩; have n0_ := zA (V_below (vu HO1104.out) hb); have n1_ := zb BK1099 hb; have n2_ := zf hb; clear HO1104; clear BK1099; clear HB; have HO1104 := n0_; have BK1099 := n1_; have HB := n2_; clear n0_ n1_ n2_; (try clear hb2); (try clear hk); (try clear hi); obtain ⟨hcz36_0, hcz36_1, hcz36_2, hfz36_0, hfz36_1, hfz36_2⟩ := zc BK1099)))
   go_meet
   case rel => exact ⟨_, (decide (t1105 < (-1074))), zi, H', ⟨by first | omega | exact Nat.le_refl _⟩, ⟨vu HO1104.out⟩, ⟨zu BK1099⟩, ⟨zs⟩⟩
  case rest =>
   clear HC16
   try clear c3
   try clear c6
   try clear c28
   try clear c28b0
   try clear c31
   try clear c31b0
   try clear hcz10_0 hcz10_1 hcz10_2 hfz10_0 hfz10_1 hfz10_2
   try clear hcz12_0 hcz12_1 hcz12_2 hfz12_0 hfz12_1 hfz12_2
   try clear hcz18_0 hcz18_1 hcz18_2 hfz18_0 hfz18_1 hfz18_2
   try clear hcz20_0 hcz20_1 hcz20_2 hfz20_0 hfz20_1 hfz20_2
   try clear hcz22_0 hcz22_1 hcz22_2 hfz22_0 hfz22_1 hfz22_2
   try clear hcz25_0 hcz25_1 hcz25_2 hfz25_0 hfz25_1 hfz25_2
   try clear hcz36_0 hcz36_1 hcz36_2 hfz36_0 hfz36_1 hfz36_2
   try clear hcz8_0 hcz8_1 hcz8_2 hfz8_0 hfz8_1 hfz8_2
   obtain ⟨kq, x29_15, rfl, HA, HJ15, HO_1100001, BK1099, HB⟩ := hcut
   cases kq with
   | zero => exact absurd HA.out (by simp [dyad_To.j0])
   | succ kj15 =>
    have H := HA.out
    clear HA
    simp only [dyad_To.j0] at H
    by_cases c37 : x29_15 = true
    ·subst c37
     rw [if_pos rfl] at H
     simp only [Option.some.injEq, Prod.mk.injEq] at H
     obtain ⟨rfl, rfl⟩ := H
     go_wp2
     repeat (go_quiet (fail); try go_wp2)
     go_ret2
     exact ⟨er, zs⟩
    replace c37 := Bool.eq_false_iff.mpr c37
    subst c37
    rw [if_neg (show ¬ (false = true) by decide)] at H
    obtain ⟨ji38, hji38⟩ : ∃ j_ : Int, (mx (wrap64 (t1107 - 52)) (-1074)) = j_ := ⟨_, rfl⟩
    replace H : (if 0 < (t1102.length : Int) then (if 0 ≤ (wrap64 (t1105 - (ji38))) then (if (shl .u64 (rd t1102 0) (wrap64 (t1105 - (ji38)))) ≥ 4503599627370496 then (if t1101 = true then (some (Go.bits .or .u64 (Go.bits .or .u64 (IntKind.u64.wrap ((IntKind.u64.wrap (wrap64 ((ji38) + 1075))) * 4503599627370496)) (Go.bits .and .u64 (shl .u64 (rd t1102 0) (wrap64 (t1105 - (ji38)))) 4503599627370495)) 9223372036854775808, true)) else (some (Go.bits .or .u64 (IntKind.u64.wrap ((IntKind.u64.wrap (wrap64 ((ji38) + 1075))) * 4503599627370496)) (Go.bits .and .u64 (shl .u64 (rd t1102 0) (wrap64 (t1105 - (ji38)))) 4503599627370495), true))) else (if t1101 = true then (some (Go.bits .or .u64 (shl .u64 (rd t1102 0) (wrap64 (t1105 - (ji38)))) 9223372036854775808, true)) else (some (shl .u64 (rd t1102 0) (wrap64 (t1105 - (ji38))), true)))) else (none)) else (none)) = some (r1, r2) := zQ hji38 H
    have hji38_ : (if (wrap64 (t1107 - 52)) < (-1074) then (-1074) else (wrap64 (t1107 - 52))) = ji38 := hji38
    replace H := dn H
    obtain ⟨c39, H⟩ := H
    have c39b0 := decide_eq_true c39
    have c39b1 : decide (0 < t1102.length) = true := decide_eq_true (by omega)
    clear c39
    obtain ⟨ji40, hji40⟩ : ∃ j_ : Int, (wrap64 (t1105 - (ji38))) = j_ := ⟨_, rfl⟩
    replace H : (if 0 ≤ (ji40) then (if (shl .u64 (rd t1102 0) (ji40)) ≥ 4503599627370496 then (if t1101 = true then (some (Go.bits .or .u64 (Go.bits .or .u64 (IntKind.u64.wrap ((IntKind.u64.wrap (wrap64 ((ji38) + 1075))) * 4503599627370496)) (Go.bits .and .u64 (shl .u64 (rd t1102 0) (ji40)) 4503599627370495)) 9223372036854775808, true)) else (some (Go.bits .or .u64 (IntKind.u64.wrap ((IntKind.u64.wrap (wrap64 ((ji38) + 1075))) * 4503599627370496)) (Go.bits .and .u64 (shl .u64 (rd t1102 0) (ji40)) 4503599627370495), true))) else (if t1101 = true then (some (Go.bits .or .u64 (shl .u64 (rd t1102 0) (ji40)) 9223372036854775808, true)) else (some (shl .u64 (rd t1102 0) (ji40), true)))) else (none)) = some (r1, r2) := zQ hji40 H
    have hji40w : (IntKind.i64.wrap (t1105 - (ji38))) = ji40 := (i64_w _).trans hji40
    replace H := dn H
    obtain ⟨c41, H⟩ := H
    have c41b0 := eq_true c41
    have c41b1 := decide_eq_true c41
    clear c41
    obtain ⟨ji42, hji42⟩ : ∃ j_ : Int, (shl .u64 (rd t1102 0) (ji40)) = j_ := ⟨_, rfl⟩
    replace H : (if (ji42) ≥ 4503599627370496 then (if t1101 = true then (some (Go.bits .or .u64 (Go.bits .or .u64 (IntKind.u64.wrap ((IntKind.u64.wrap (wrap64 ((ji38) + 1075))) * 4503599627370496)) (Go.bits .and .u64 (ji42) 4503599627370495)) 9223372036854775808, true)) else (some (Go.bits .or .u64 (IntKind.u64.wrap ((IntKind.u64.wrap (wrap64 ((ji38) + 1075))) * 4503599627370496)) (Go.bits .and .u64 (ji42) 4503599627370495), true))) else (if t1101 = true then (some (Go.bits .or .u64 (ji42) 9223372036854775808, true)) else (some (ji42, true)))) = some (r1, r2) := zQ hji42 H
    have hji42_ : (IntKind.u64.wrap ((rd t1102 0) * 2 ^ min (ji40).toNat 64)) = ji42 := hji42
    have hji42z : (ji40) ≤ 64 → (IntKind.u64.wrap ((rd t1102 0) * 2 ^ (ji40).toNat)) = ji42 := shl_small hji42
    by_cases c43 : (ji42) ≥ 4503599627370496
    ·rw [if_pos c43] at H
     have c43b0 := decide_eq_true c43
     clear c43
     by_cases c44 : t1101 = true
     ·subst c44
      rw [if_pos rfl] at H
      simp only [Option.some.injEq, Prod.mk.injEq] at H
      obtain ⟨rfl, rfl⟩ := H
      obtain ⟨_, _, _, _, _, _⟩ := zc BK1099
      have p1109 : 0 ≤ (0 : Int) := (by omega)
      have q1109 : 0 < (t1102.length : Int) := od
      obtain ⟨ad1109, e1109, hx1109_0⟩ := Kd.at_int (V_reads' HO_1100001.out).2.2 0 p1109 q1109
      cases e1109
      have qi1109 : (0 < t1102.length) = True := eq_true (by omega)
      (try rw [show ((0 : Int)).toNat = 0 from rfl] at hx1109_0)
      (try rw [Addr.add_zero'] at hx1109_0)
      replace p1109 := eq_true p1109
      replace q1109 := eq_true q1109
      go_wp2
      repeat (go_quiet (fail); try go_wp2)
      go_ret2
      exact ⟨by first | rfl | (simp [errW_none, errW_some] <;> rfl) | (simp only [← hji38, ← hji40, ← hji42]; first | rfl | (simp [errW_none, errW_some] <;> rfl)) | (simp [*, errW_none, errW_some] <;> rfl), zs⟩
     replace c44 := Bool.eq_false_iff.mpr c44
     subst c44
     rw [if_neg (show ¬ (false = true) by decide)] at H
     simp only [Option.some.injEq, Prod.mk.injEq] at H
     obtain ⟨rfl, rfl⟩ := H
     obtain ⟨_, _, _, _, _, _⟩ := zc BK1099
     have p1109 : 0 ≤ (0 : Int) := (by omega)
     have q1109 : 0 < (t1102.length : Int) := od
     obtain ⟨ad1109, e1109, hx1109_0⟩ := Kd.at_int (V_reads' HO_1100001.out).2.2 0 p1109 q1109
     cases e1109
     have qi1109 : (0 < t1102.length) = True := eq_true (by omega)
     (try rw [show ((0 : Int)).toNat = 0 from rfl] at hx1109_0)
     (try rw [Addr.add_zero'] at hx1109_0)
     replace p1109 := eq_true p1109
     replace q1109 := eq_true q1109
     go_wp2
     repeat (go_quiet (fail); try go_wp2)
     go_ret2
     exact ⟨by first | rfl | (simp [errW_none, errW_some] <;> rfl) | (simp only [← hji38, ← hji40, ← hji42]; first | rfl | (simp [errW_none, errW_some] <;> rfl)) | (simp [*, errW_none, errW_some] <;> rfl), zs⟩
    rw [if_neg c43] at H
    have c43b0 := decide_eq_false c43
    clear c43
    by_cases c47 : t1101 = true
    ·subst c47
     rw [if_pos rfl] at H
     simp only [Option.some.injEq, Prod.mk.injEq] at H
     obtain ⟨rfl, rfl⟩ := H
     obtain ⟨_, _, _, _, _, _⟩ := zc BK1099
     have p1109 : 0 ≤ (0 : Int) := (by omega)
     have q1109 : 0 < (t1102.length : Int) := od
     obtain ⟨ad1109, e1109, hx1109_0⟩ := Kd.at_int (V_reads' HO_1100001.out).2.2 0 p1109 q1109
     cases e1109
     have qi1109 : (0 < t1102.length) = True := eq_true (by omega)
     (try rw [show ((0 : Int)).toNat = 0 from rfl] at hx1109_0)
     (try rw [Addr.add_zero'] at hx1109_0)
     replace p1109 := eq_true p1109
     replace q1109 := eq_true q1109
     go_wp2
     repeat (go_quiet (fail); try go_wp2)
     go_ret2
     exact ⟨by first | rfl | (simp [errW_none, errW_some] <;> rfl) | (simp only [← hji38, ← hji40, ← hji42]; first | rfl | (simp [errW_none, errW_some] <;> rfl)) | (simp [*, errW_none, errW_some] <;> rfl), zs⟩
    replace c47 := Bool.eq_false_iff.mpr c47
    subst c47
    rw [if_neg (show ¬ (false = true) by decide)] at H
    simp only [Option.some.injEq, Prod.mk.injEq] at H
    obtain ⟨rfl, rfl⟩ := H
    obtain ⟨_, _, _, _, _, _⟩ := zc BK1099
    have p1109 : 0 ≤ (0 : Int) := (by omega)
    have q1109 : 0 < (t1102.length : Int) := od
    obtain ⟨ad1109, e1109, hx1109_0⟩ := Kd.at_int (V_reads' HO_1100001.out).2.2 0 p1109 q1109
    cases e1109
    have qi1109 : (0 < t1102.length) = True := eq_true (by omega)
    (try rw [show ((0 : Int)).toNat = 0 from rfl] at hx1109_0)
    (try rw [Addr.add_zero'] at hx1109_0)
    replace p1109 := eq_true p1109
    replace q1109 := eq_true q1109
    go_wp2
    repeat (go_quiet (fail); try go_wp2)
    go_ret2
    exact ⟨by first | rfl | (simp [errW_none, errW_some] <;> rfl) | (simp only [← hji38, ← hji40, ← hji42]; first | rfl | (simp [errW_none, errW_some] <;> rfl)) | (simp [*, errW_none, errW_some] <;> rfl), zs⟩
 replace c3 := Bool.eq_false_iff.mpr c3
 subst c3
 rw [if_neg (show ¬ (false = true) by decide)] at H
 simp only [Option.some.injEq, Prod.mk.injEq] at H
 obtain ⟨rfl, rfl⟩ := H
 go_enter Tryd.func43, Tryd.ntmps43
 go_wp2_with (first | ((with_reducible refine zD 1 rfl ?_); refine zn (N := 1) (cs := #[.bool a0_0, .slice A0_1 l0_1.length c0_1, .int .i64 a0_2]) (t := 25) rfl rfl ?_; intro gb1099 hg w50 hbox hb; have BK1099 := zA (hbox); have GW1099 := zw hg; replace HB := ze hb; clear hb hbox hg; obtain ⟨hcz51_0, hcz51_1, hcz51_2, hfz51_0, hfz51_1, hfz51_2⟩ := zc BK1099) | (go_at_call 72; (with_reducible refine (dyad_number_right.calls k a0_0 _ _ l0_1 a0_2 false _ ?side1 ?side2 A2.out).mono ?_); (case side1 => exact zk (C_below HR0_1.out HB.out)); (case side2 => exact HC0_1.out); rintro e w52 ⟨rfl, hb⟩; replace BK1099 := zb BK1099 hb; replace HB := zf hb))
 repeat (go_quiet (first | ((with_reducible refine zD 1 rfl ?_); refine zn (N := 1) (cs := #[.bool a0_0, .slice A0_1 l0_1.length c0_1, .int .i64 a0_2]) (t := 25) rfl rfl ?_; intro gb1099 hg w50 hbox hb; have BK1099 := zA (hbox); have GW1099 := zw hg; replace HB := ze hb; clear hb hbox hg; obtain ⟨hcz51_0, hcz51_1, hcz51_2, hfz51_0, hfz51_1, hfz51_2⟩ := zc BK1099) | (go_at_call 72; (with_reducible refine (dyad_number_right.calls k a0_0 _ _ l0_1 a0_2 false _ ?side1 ?side2 A2.out).mono ?_); (case side1 => exact zk (C_below HR0_1.out HB.out)); (case side2 => exact HC0_1.out); rintro e w52 ⟨rfl, hb⟩; replace BK1099 := zb BK1099 hb; replace HB := zf hb)); try go_wp2_with (first | ((with_reducible refine zD 1 rfl ?_); refine zn (N := 1) (cs := #[.bool a0_0, .slice A0_1 l0_1.length c0_1, .int .i64 a0_2]) (t := 25) rfl rfl ?_; intro gb1099 hg w50 hbox hb; have n0_ := ze hb; have n1_ := zA (hbox); have n2_ := zw hg; have n3_ := zw hg; clear HB; have HB := n0_; have BK1099 := n1_; have GW1099 := n2_; have GW1099 := n3_; clear n0_ n1_ n2_ n3_; clear hb hbox hg; obtain ⟨hcz51_0, hcz51_1, hcz51_2, hfz51_0, hfz51_1, hfz51_2⟩ := zc BK1099) | (go_at_call 72; (with_reducible refine (dyad_number_right.calls k a0_0 _ _ l0_1 a0_2 false _ ?side1 ?side2 A2.out).mono ?_); (case side1 => exact zk (C_below HR0_1.out HB.out)); (case side2 => exact HC0_1.out); rintro e w52 ⟨rfl, hb⟩; have n0_ := zb BK1099 hb; have n1_ := zf hb; clear BK1099; clear HB; have BK1099 := n0_; have HB := n1_; clear n0_ n1_; (try clear hb2); (try clear hk); (try clear hi))))
 go_ret2
 exact ⟨er, zs⟩
end Go.Proofs.YtemfckibdojbbaaDoor.PAll
