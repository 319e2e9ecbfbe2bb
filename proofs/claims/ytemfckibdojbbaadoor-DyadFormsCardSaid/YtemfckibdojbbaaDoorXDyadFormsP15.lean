/- Printed functions, merged by a program of this session. -/
import Derived.Test.YtemfckibdojbbaaDoorXDyadFormsP0
import Derived.Test.YtemfckibdojbbaaDoorXDyadFormsP13
import Derived.Test.YtemfckibdojbbaaDoorXDyadFormsP14
import Derived.Test.YtemfckibdojbbaaDoorXDyadFormsP1
import Derived.Laws.StructEq
import Derived.Test.YtemfckibdojbbaaDoorXDyadFormsSh
namespace Go.Proofs.YtemfckibdojbbaaDoor.PAll
open Go.RowKit Go.Proofs.YtemfckibdojbbaaDoorW.PrintWords Go.Proofs.YtemfckibdojbbaaDoorW.PrintLast Go.Proofs.YtemfckibdojbbaaDoorW.PrintMore Go.Proofs.YtemfckibdojbbaaDoorW.PrintWords.Kd
attribute [local go_sem] max2_int min2_int max_two min_two max_three min_three max_four min_four   -- for this text's walks alone
set_option linter.unusedVariables false
set_option linter.unusedSimpArgs false
attribute [local go_sem] ext135 ext136
def ulpref04_Canon.f (k : Nat) (a0_0 : Bool) (l0_1 : List Int) (a0_2 : Int) : Option (Bool × List Int × Int × Int) := (ulpref04_Right.f k a0_0 l0_1 a0_2).bind fun t689 => (if t689 = true then ((ulpref04_One.f k a0_0 l0_1 a0_2).bind fun bt690 => ((ulpref04_room.f k bt690.1 bt690.2.1 bt690.2.2).bind fun bt695 => (some (bt695.1, bt695.2.1, bt695.2.2.1, bt695.2.2.2)))) else (some (false, ([] : List Int), 0, 2)))
set_option maxHeartbeats 8000000 in
set_option maxRecDepth 100000 in
theorem ulpref04_Canon.calls (k : Nat) (a0_0 : Bool) (A0_1 : Option Addr) (c0_1 : Nat) (l0_1 : List Int) (a0_2 : Int) (r1 : Bool) (r2 : List Int) (r3 : Int) (r4 : Int) (w : World) (hr0_1 : Kd.C (Kd.int .u64) w A0_1 l0_1.length l0_1) (hc0_1 : l0_1.length ≤ c0_1) (h : ulpref04_Canon.f k a0_0 l0_1 a0_2 = some (r1, r2, r3, r4)) :
  Calls Tryd.prog 22 #[.agg #[.bool a0_0, .slice A0_1 l0_1.length c0_1, .int .i64 a0_2]] w fun e w' => ∃ v1_ : Value, e = .returned (.tuple #[.agg #[.bool r1, v1_, .int .i64 r3], .int .i64 r4]) ∧ Kd.V (Kd.int .u64) 43 w' w.heap.size (fun k_ => (w.heap.size ≤ k_)) v1_ r2 ∧ Below w.heap.size w w' := by
 have hu25 := Tryd.underlying25
 have HR0_1 := zA hr0_1
 have HC0_1 := zA hc0_1
 clear hr0_1 hc0_1
 have HB := zA (Below.refl w.heap.size w)
 have H : ((ulpref04_Right.f k a0_0 l0_1 a0_2).bind fun t689 => (if t689 = true then ((ulpref04_One.f k a0_0 l0_1 a0_2).bind fun bt690 => ((ulpref04_room.f k bt690.1 bt690.2.1 bt690.2.2).bind fun bt695 => (some (bt695.1, bt695.2.1, bt695.2.2.1, bt695.2.2.2)))) else (some (false, ([] : List Int), 0, 2)))) = some (r1, r2, r3, r4) := h
 clear h
 obtain ⟨t689, A2, H⟩ := zh H
 by_cases c3 : t689 = true
 ·subst c3
  rw [if_pos rfl] at H
  obtain ⟨⟨t690, t691, t694⟩, A4, H⟩ := zh H
  (try dsimp only at H)
  obtain ⟨⟨t695, t696, t699, t700⟩, A5, H⟩ := zh H
  (try dsimp only at H)
  simp only [Option.some.injEq, Prod.mk.injEq] at H
  obtain ⟨rfl, rfl, rfl, rfl⟩ := H
  go_enter Tryd.func22, Tryd.ntmps22
  go_wp2_with (first | ((with_reducible refine zD 1 rfl ?_); refine zn (N := 1) (cs := #[.bool a0_0, .slice A0_1 l0_1.length c0_1, .int .i64 a0_2]) (t := 25) rfl rfl ?_; intro gb687 hg w6 hbox hb; have BK687 := zA (hbox); have GW687 := zw hg; replace HB := ze hb; clear hb hbox hg) | ((with_reducible refine zD 2 rfl ?_); refine zn (N := 2) (cs := #[.bool false, .slice none 0 0, .int .i64 0]) (t := 25) rfl rfl ?_; intro gb688 hg w7 hbox hb; have BK688 := zA (hbox); have GW688 := zx hg; replace HB := zf hb; have NB687_688 := zl BK687 hg; have NB688_687 := zg BK687 hg; replace BK687 := zb BK687 hb; clear hb hbox hg; have hnb8 := NB687_688.out; have hnc8 := NB688_687.out; obtain ⟨_, _, _, _, _, _⟩ := zc BK687) | ((with_reducible refine zG 24 rfl ?_); refine zL (some 5) rfl rfl Tryd.func24 #[.agg #[.bool a0_0, .slice A0_1 l0_1.length c0_1, .int .i64 a0_2]] rfl ?_; (with_reducible refine (ulpref04_Right.calls k a0_0 _ _ l0_1 a0_2 true _ ?side1 ?side2 A2.out).mono ?_); (case side1 => exact zk (C_below HR0_1.out HB.out)); (case side2 => exact HC0_1.out); rintro e w10 ⟨rfl, hb⟩; refine ⟨_, rfl, ?_⟩; replace BK687 := zb BK687 hb; replace BK688 := zb BK688 hb; replace HB := zf hb; obtain ⟨hcz11_0, hcz11_1, hcz11_2, hfz11_0, hfz11_1, hfz11_2⟩ := zc BK687) | ((with_reducible refine zG 69 rfl ?_); refine zL (some 9) rfl rfl Tryd.func69 #[.agg #[.bool a0_0, .slice A0_1 l0_1.length c0_1, .int .i64 a0_2]] rfl ?_; (with_reducible refine (ulpref04_One.calls k a0_0 _ _ l0_1 a0_2 t690 t691 t694 _ ?side1 ?side2 A4.out).mono ?_); (case side1 => exact zk (C_below HR0_1.out HB.out)); (case side2 => exact HC0_1.out); rintro e w12 ⟨v692, rfl, ho0, hb⟩; refine ⟨_, rfl, ?_⟩; have HO693 := zA (R_lower (R_newM (M := fun k_ => (w.heap.size ≤ k_)) ho0 (below_size zs) (fun k_ h_ => h_)) (below_size zs)); replace BK687 := zb BK687 hb; replace BK688 := zb BK688 hb; replace HB := zf hb; (try clear ho0); obtain ⟨Ao13, co13, eo13⟩ := R_slice HO693.out; subst eo13) | ((with_reducible refine zG 67 rfl ?_); refine zL (some 10) rfl rfl Tryd.func67 #[.agg #[.bool t690, .slice Ao13 t691.length co13, .int .i64 t694]] rfl ?_; (with_reducible refine (ulpref04_room.calls k t690 (fun k_ => some k_ = (.slice Ao13 t691.length co13 : Value).ownBlock) _ _ t691 t694 t695 t696 t699 t700 _ ?side1 A5.out).mono ?_); (case side1 => exact R_V (R_tight rfl (R_types (R_types (HO693.out) BK687.out (by decide)) BK688.out (by decide)))); rintro e w14 ⟨v697, rfl, ho0, hb⟩; refine ⟨_, rfl, ?_⟩; have HO698 := zA (V_lower (V_mono (ok' := fun k_ => (w.heap.size ≤ k_) ∧ k_ ≠ gb687 ∧ k_ ≠ gb688) ho0 (fun k_ hk_ => ⟨Or.elim hk_ (fun hs_ => ((R_types (R_types (HO693.out) BK687.out (by decide)) BK688.out (by decide)).1 k_ hs_.symm).1.1.1) (fun hn_ => (Nat.le_trans (below_size zs) hn_)), Or.elim hk_ (fun hs_ => ((R_types (R_types (HO693.out) BK687.out (by decide)) BK688.out (by decide)).1 k_ hs_.symm).1.2) (fun hn_ => (zj BK687 k_ hn_)), Or.elim hk_ (fun hs_ => ((R_types (R_types (HO693.out) BK687.out (by decide)) BK688.out (by decide)).1 k_ hs_.symm).2) (fun hn_ => (zj BK688 k_ hn_))⟩)) (below_size zs)); replace HO693 := zA (R_below (ru HO693.out) hb); replace BK687 := zb BK687 hb; replace BK688 := zb BK688 hb; replace HB := zf hb; (try clear ho0); obtain ⟨hcz15_0, hcz15_1, hcz15_2, hfz15_0, hfz15_1, hfz15_2⟩ := zc BK688; obtain ⟨Ao16, co16, eo16⟩ := V_slice HO698.out; subst eo16))
  refine bodyPost_ret (results_ct rfl _ _ gb688 25 #[.bool t695, .slice Ao16 t696.length co16, .int .i64 t699] (0, 0) _ rfl (zy BK688) Tryd.underlying25 rfl (by kernel_rfl)) rfl ?_
  exact ⟨_, er, vu (V_mono (zv gb688 (V_mono HO698.out (fun k_ hk => (⟨hk, hk.2.2⟩ : _ ∧ k_ ≠ gb688))) (fun _ hk => hk.2) _ _ _) (fun _ hk => hk.1.1)), zs⟩
 replace c3 := Bool.eq_false_iff.mpr c3
 subst c3
 rw [if_neg (show ¬ (false = true) by decide)] at H
 simp only [Option.some.injEq, Prod.mk.injEq] at H
 obtain ⟨rfl, rfl, rfl, rfl⟩ := H
 go_enter Tryd.func22, Tryd.ntmps22
 go_wp2_with (first | ((with_reducible refine zD 1 rfl ?_); refine zn (N := 1) (cs := #[.bool a0_0, .slice A0_1 l0_1.length c0_1, .int .i64 a0_2]) (t := 25) rfl rfl ?_; intro gb687 hg w17 hbox hb; have BK687 := zA (hbox); have GW687 := zw hg; replace HB := ze hb; clear hb hbox hg) | ((with_reducible refine zD 2 rfl ?_); refine zn (N := 2) (cs := #[.bool false, .slice none 0 0, .int .i64 0]) (t := 25) rfl rfl ?_; intro gb688 hg w18 hbox hb; have BK688 := zA (hbox); have GW688 := zx hg; replace HB := zf hb; have NB687_688 := zl BK687 hg; have NB688_687 := zg BK687 hg; replace BK687 := zb BK687 hb; clear hb hbox hg; have hnb19 := NB687_688.out; have hnc19 := NB688_687.out; obtain ⟨_, _, _, _, _, _⟩ := zc BK687) | ((with_reducible refine zG 24 rfl ?_); refine zL (some 5) rfl rfl Tryd.func24 #[.agg #[.bool a0_0, .slice A0_1 l0_1.length c0_1, .int .i64 a0_2]] rfl ?_; (with_reducible refine (ulpref04_Right.calls k a0_0 _ _ l0_1 a0_2 false _ ?side1 ?side2 A2.out).mono ?_); (case side1 => exact zk (C_below HR0_1.out HB.out)); (case side2 => exact HC0_1.out); rintro e w21 ⟨rfl, hb⟩; refine ⟨_, rfl, ?_⟩; replace BK687 := zb BK687 hb; replace BK688 := zb BK688 hb; replace HB := zf hb; obtain ⟨hcz22_0, hcz22_1, hcz22_2, hfz22_0, hfz22_1, hfz22_2⟩ := zc BK688))
 refine bodyPost_ret (results_ct rfl _ _ gb688 25 #[.bool false, .slice none 0 0, .int .i64 0] (0, 0) _ rfl (zy BK688) Tryd.underlying25 rfl (by kernel_rfl)) rfl ?_
 exact ⟨_, er, V_nil _ _ _ _ _, zs⟩
def dyad_Check.f (k : Nat) (a0_0 : Bool) (l0_1 : List Int) (a0_2 : Int) : Option (Int) := (dyad_number_right.f k a0_0 l0_1 a0_2).bind fun t732 => (if t732 = true then (some 0) else (some 2))
set_option maxHeartbeats 8000000 in
set_option maxRecDepth 100000 in
theorem dyad_Check.calls (k : Nat) (a0_0 : Bool) (A0_1 : Option Addr) (c0_1 : Nat) (l0_1 : List Int) (a0_2 : Int) (r : Int) (w : World) (hr0_1 : Kd.C (Kd.int .u64) w A0_1 l0_1.length l0_1) (hc0_1 : l0_1.length ≤ c0_1) (h : dyad_Check.f k a0_0 l0_1 a0_2 = some r) :
  Calls Tryd.prog 25 #[.agg #[.bool a0_0, .slice A0_1 l0_1.length c0_1, .int .i64 a0_2]] w fun e w' => e = .returned (.int .i64 r) ∧ Below w.heap.size w w' := by
 have hu25 := Tryd.underlying25
 have HR0_1 := zA hr0_1
 have HC0_1 := zA hc0_1
 clear hr0_1 hc0_1
 have HB := zA (Below.refl w.heap.size w)
 have H : ((dyad_number_right.f k a0_0 l0_1 a0_2).bind fun t732 => (if t732 = true then (some 0) else (some 2))) = some r := h
 clear h
 obtain ⟨t732, A2, H⟩ := zh H
 by_cases c3 : t732 = true
 ·subst c3
  rw [if_pos rfl] at H
  obtain rfl := Option.some.inj H
  go_enter Tryd.func25, Tryd.ntmps25
  go_wp2_with (first | ((with_reducible refine zD 1 rfl ?_); refine zn (N := 1) (cs := #[.bool a0_0, .slice A0_1 l0_1.length c0_1, .int .i64 a0_2]) (t := 25) rfl rfl ?_; intro gb731 hg w4 hbox hb; have BK731 := zA (hbox); have GW731 := zw hg; replace HB := ze hb; clear hb hbox hg; obtain ⟨_, _, _, _, _, _⟩ := zc BK731) | ((with_reducible refine zG 72 rfl ?_); refine zL (some 4) rfl rfl Tryd.func72 #[.agg #[.bool a0_0, .slice A0_1 l0_1.length c0_1, .int .i64 a0_2]] rfl ?_; (with_reducible refine (dyad_number_right.calls k a0_0 _ _ l0_1 a0_2 true _ ?side1 ?side2 A2.out).mono ?_); (case side1 => exact zk (C_below HR0_1.out HB.out)); (case side2 => exact HC0_1.out); rintro e w6 ⟨rfl, hb⟩; refine ⟨_, rfl, ?_⟩; replace BK731 := zb BK731 hb; replace HB := zf hb))
  go_ret
  exact ⟨er, zs⟩
 replace c3 := Bool.eq_false_iff.mpr c3
 subst c3
 rw [if_neg (show ¬ (false = true) by decide)] at H
 obtain rfl := Option.some.inj H
 go_enter Tryd.func25, Tryd.ntmps25
 go_wp2_with (first | ((with_reducible refine zD 1 rfl ?_); refine zn (N := 1) (cs := #[.bool a0_0, .slice A0_1 l0_1.length c0_1, .int .i64 a0_2]) (t := 25) rfl rfl ?_; intro gb731 hg w7 hbox hb; have BK731 := zA (hbox); have GW731 := zw hg; replace HB := ze hb; clear hb hbox hg; obtain ⟨hcz8_0, hcz8_1, hcz8_2, hfz8_0, hfz8_1, hfz8_2⟩ := zc BK731) | ((with_reducible refine zG 72 rfl ?_); refine zL (some 4) rfl rfl Tryd.func72 #[.agg #[.bool a0_0, .slice A0_1 l0_1.length c0_1, .int .i64 a0_2]] rfl ?_; (with_reducible refine (dyad_number_right.calls k a0_0 _ _ l0_1 a0_2 false _ ?side1 ?side2 A2.out).mono ?_); (case side1 => exact zk (C_below HR0_1.out HB.out)); (case side2 => exact HC0_1.out); rintro e w9 ⟨rfl, hb⟩; refine ⟨_, rfl, ?_⟩; replace BK731 := zb BK731 hb; replace HB := zf hb))
 go_ret
 exact ⟨er, zs⟩
def dyad_Zero.f (k : Nat) (a0_0 : Bool) (l0_1 : List Int) (a0_2 : Int) : Option (Bool) := (dyad_number_right.f k a0_0 l0_1 a0_2).bind fun t734 => (if t734 = true then ((raw_Zero.f k a0_0 l0_1 a0_2).bind fun t735 => (some t735)) else (some false))
set_option maxHeartbeats 8000000 in
set_option maxRecDepth 100000 in
theorem dyad_Zero.calls (k : Nat) (a0_0 : Bool) (A0_1 : Option Addr) (c0_1 : Nat) (l0_1 : List Int) (a0_2 : Int) (r : Bool) (w : World) (hr0_1 : Kd.C (Kd.int .u64) w A0_1 l0_1.length l0_1) (hc0_1 : l0_1.length ≤ c0_1) (h : dyad_Zero.f k a0_0 l0_1 a0_2 = some r) :
  Calls Tryd.prog 26 #[.agg #[.bool a0_0, .slice A0_1 l0_1.length c0_1, .int .i64 a0_2]] w fun e w' => e = .returned (.bool r) ∧ Below w.heap.size w w' := by
 have hu25 := Tryd.underlying25
 have HR0_1 := zA hr0_1
 have HC0_1 := zA hc0_1
 clear hr0_1 hc0_1
 have HB := zA (Below.refl w.heap.size w)
 have H : ((dyad_number_right.f k a0_0 l0_1 a0_2).bind fun t734 => (if t734 = true then ((raw_Zero.f k a0_0 l0_1 a0_2).bind fun t735 => (some t735)) else (some false))) = some r := h
 clear h
 obtain ⟨t734, A2, H⟩ := zh H
 by_cases c3 : t734 = true
 ·subst c3
  rw [if_pos rfl] at H
  obtain ⟨t735, A4, H⟩ := zh H
  obtain rfl := Option.some.inj H
  go_enter Tryd.func26, Tryd.ntmps26
  go_wp2_with (first | ((with_reducible refine zD 1 rfl ?_); refine zn (N := 1) (cs := #[.bool a0_0, .slice A0_1 l0_1.length c0_1, .int .i64 a0_2]) (t := 25) rfl rfl ?_; intro gb733 hg w5 hbox hb; have BK733 := zA (hbox); have GW733 := zw hg; replace HB := ze hb; clear hb hbox hg; obtain ⟨_, _, _, _, _, _⟩ := zc BK733) | ((with_reducible refine zG 72 rfl ?_); refine zL (some 4) rfl rfl Tryd.func72 #[.agg #[.bool a0_0, .slice A0_1 l0_1.length c0_1, .int .i64 a0_2]] rfl ?_; (with_reducible refine (dyad_number_right.calls k a0_0 _ _ l0_1 a0_2 true _ ?side1 ?side2 A2.out).mono ?_); (case side1 => exact zk (C_below HR0_1.out HB.out)); (case side2 => exact HC0_1.out); rintro e w7 ⟨rfl, hb⟩; refine ⟨_, rfl, ?_⟩; replace BK733 := zb BK733 hb; replace HB := zf hb; obtain ⟨hcz8_0, hcz8_1, hcz8_2, hfz8_0, hfz8_1, hfz8_2⟩ := zc BK733) | (go_at_call 73; (with_reducible refine (raw_Zero.calls k a0_0 _ _ l0_1 a0_2 t735 _ ?side1 ?side2 A4.out).mono ?_); (case side1 => exact zk (C_below HR0_1.out HB.out)); (case side2 => exact HC0_1.out); rintro e w9 ⟨rfl, hb⟩; replace BK733 := zb BK733 hb; replace HB := zf hb))
  go_ret
  exact ⟨er, zs⟩
 replace c3 := Bool.eq_false_iff.mpr c3
 subst c3
 rw [if_neg (show ¬ (false = true) by decide)] at H
 obtain rfl := Option.some.inj H
 go_enter Tryd.func26, Tryd.ntmps26
 go_wp2_with (first | ((with_reducible refine zD 1 rfl ?_); refine zn (N := 1) (cs := #[.bool a0_0, .slice A0_1 l0_1.length c0_1, .int .i64 a0_2]) (t := 25) rfl rfl ?_; intro gb733 hg w10 hbox hb; have BK733 := zA (hbox); have GW733 := zw hg; replace HB := ze hb; clear hb hbox hg; obtain ⟨hcz11_0, hcz11_1, hcz11_2, hfz11_0, hfz11_1, hfz11_2⟩ := zc BK733) | ((with_reducible refine zG 72 rfl ?_); refine zL (some 4) rfl rfl Tryd.func72 #[.agg #[.bool a0_0, .slice A0_1 l0_1.length c0_1, .int .i64 a0_2]] rfl ?_; (with_reducible refine (dyad_number_right.calls k a0_0 _ _ l0_1 a0_2 false _ ?side1 ?side2 A2.out).mono ?_); (case side1 => exact zk (C_below HR0_1.out HB.out)); (case side2 => exact HC0_1.out); rintro e w12 ⟨rfl, hb⟩; refine ⟨_, rfl, ?_⟩; replace BK733 := zb BK733 hb; replace HB := zf hb))
 go_ret
 exact ⟨er, zs⟩
def ulpref04_Zero.f (k : Nat) (a0_0 : Bool) (l0_1 : List Int) (a0_2 : Int) : Option (Bool) := (ulpref03_Norm.f k l0_1).bind fun t737 => (some ((t737.length : Int) == 0))
set_option maxHeartbeats 8000000 in
set_option maxRecDepth 100000 in
theorem ulpref04_Zero.calls (k : Nat) (a0_0 : Bool) (A0_1 : Option Addr) (c0_1 : Nat) (l0_1 : List Int) (a0_2 : Int) (r : Bool) (w : World) (hr0_1 : Kd.C (Kd.int .u64) w A0_1 l0_1.length l0_1) (hc0_1 : l0_1.length ≤ c0_1) (h : ulpref04_Zero.f k a0_0 l0_1 a0_2 = some r) :
  Calls Tryd.prog 27 #[.agg #[.bool a0_0, .slice A0_1 l0_1.length c0_1, .int .i64 a0_2]] w fun e w' => e = .returned (.bool r) ∧ Below w.heap.size w w' := by
 have hu25 := Tryd.underlying25
 have HR0_1 := zA hr0_1
 have HC0_1 := zA hc0_1
 clear hr0_1 hc0_1
 have HB := zA (Below.refl w.heap.size w)
 have H : ((ulpref03_Norm.f k l0_1).bind fun t737 => (some ((t737.length : Int) == 0))) = some r := h
 clear h
 obtain ⟨t737, A2, H⟩ := zh H
 obtain rfl := Option.some.inj H
 go_enter Tryd.func27, Tryd.ntmps27
 go_wp2_with (first | ((with_reducible refine zD 1 rfl ?_); refine zn (N := 1) (cs := #[.bool a0_0, .slice A0_1 l0_1.length c0_1, .int .i64 a0_2]) (t := 25) rfl rfl ?_; intro gb736 hg w3 hbox hb; have BK736 := zA (hbox); have GW736 := zw hg; replace HB := ze hb; clear hb hbox hg; obtain ⟨_, _, _, _, _, _⟩ := zc BK736) | ((with_reducible refine zG 74 rfl ?_); refine zL (some 5) rfl rfl Tryd.func74 #[.slice A0_1 l0_1.length c0_1] rfl ?_; (with_reducible refine (ulpref03_Norm.calls k _ _ l0_1 t737 _ ?side1 ?side2 A2.out).mono ?_); (case side1 => exact zk (C_below HR0_1.out HB.out)); (case side2 => exact HC0_1.out); rintro e w5 ⟨v738, rfl, ho0, hb⟩; refine ⟨_, rfl, ?_⟩; have HO739 := zA (R_lower ho0 (below_size zs)); replace BK736 := zb BK736 hb; replace HB := zf hb; (try clear ho0); obtain ⟨Ao6, co6, eo6⟩ := R_slice HO739.out; subst eo6))
 go_ret
 exact ⟨er, zs⟩
end Go.Proofs.YtemfckibdojbbaaDoor.PAll
