/- Printed functions, merged by a program of this session. -/
import Derived.Test.YtemfckibdojbbaaDoorXDyadCutsP0
import Derived.Test.YtemfckibdojbbaaDoorXDyadCutsP12
import Derived.Test.YtemfckibdojbbaaDoorXDyadCutsP13
import Derived.Laws.StructEq
import Derived.Test.YtemfckibdojbbaaDoorXDyadCutsSh
namespace Go.Proofs.YtemfckibdojbbaaDoor.PAll
open Go.RowKit Go.Proofs.YtemfckibdojbbaaDoorW.PrintWords Go.Proofs.YtemfckibdojbbaaDoorW.PrintLast Go.Proofs.YtemfckibdojbbaaDoorW.PrintMore Go.Proofs.YtemfckibdojbbaaDoorW.PrintWords.Kd
attribute [local go_sem] max2_int min2_int max_two min_two max_three min_three max_four min_four   -- for this text's walks alone
set_option linter.unusedVariables false
set_option linter.unusedSimpArgs false
attribute [local go_sem] ext135 ext136
def ulpref04_Canon.f (k : Nat) (a0_0 : Bool) (l0_1 : List Int) (a0_2 : Int) : Option (Bool × List Int × Int × Int) := (ulpref04_Right.f k a0_0 l0_1 a0_2).bind fun t689 => (if t689 = true then ((ulpref04_One.f k a0_0 l0_1 a0_2).bind fun bt690 => ((ulpref04_room.f k bt690.1 bt690.2.1 bt690.2.2).bind fun bt695 => (some (bt695.1, bt695.2.1, bt695.2.2.1, bt695.2.2.2)))) else (some (false, ([] : List Int), 0, 2)))
set_option maxHeartbeats 8000000 in
set_option maxRecDepth 100000 in
theorem ulpref04_Canon.calls (k : Nat) (a0_0 : Bool) (A0_1 : Option Addr) (c0_1 : Nat) (l0_1 : List Int) (a0_2 : Int) (r1 : Bool) (r2 : List Int) (r3 : Int) (r4 : Int) (w : World) (hr0_1 : Kd.C (Kd.int .u64) w A0_1 l0_1.length l0_1) (hc0_1 : l0_1.length ≤ c0_1) (h : ulpref04_Canon.f k a0_0 l0_1 a0_2 = some (r1, r2, r3, r4)) :
  Calls Tryd.prog 22 #[.agg #[.bool a0_0, .slice A0_1 l0_1.length c0_1, .int .i64 a0_2]] w fun e w' => ∃ v1_ : Value, e = .returned (.tuple #[.agg #[.bool r1, v1_, .int .i64 r3], .int .i64 r4]) ∧ Kd.V (Kd.int .u64) 43 w' w.heap.size (fun k_ => (w.heap.size ≤ k_)) v1_ r2 ∧ Below w.heap.size w w' := by
 have hu25 := Tryd.underlying25
 have HR0_1 := zA hr0_1
 have HC0_1 := zA hc0_1
 clear hr0_1 hc0_1
 have HB := zA (Below.refl w.heap.size w)
 have H : ((ulpref04_Right.f k a0_0 l0_1 a0_2).bind fun t689 => (if t689 = true then ((ulpref04_One.f k a0_0 l0_1 a0_2).bind fun bt690 => ((ulpref04_room.f k bt690.1 bt690.2.1 bt690.2.2).bind fun bt695 => (some (bt695.1, bt695.2.1, bt695.2.2.1, bt695.2.2.2)))) else (some (false, ([] : List Int), 0, 2)))) = some (r1, r2, r3, r4) := h
 clear h
 obtain ⟨t689, A2, H⟩ := zh H
 by_cases c3 : t689 = true
 ·subst c3
  rw [if_pos rfl] at H
  obtain ⟨⟨t690, t691, t694⟩, A4, H⟩ := zh H
  (try dsimp only at H)
  obtain ⟨⟨t695, t696, t699, t700⟩, A5, H⟩ := zh H
  (try dsimp only at H)
  simp only [Option.some.injEq, Prod.mk.injEq] at H
  obtain ⟨rfl, rfl, rfl, rfl⟩ := H
  go_enter Tryd.func22, Tryd.ntmps22
  go_wp2_with (first | ((with_reducible refine zD 1 rfl ?_); refine zn (N := 1) (cs := #[.bool a0_0, .slice A0_1 l0_1.length c0_1, .int .i64 a0_2]) (t := 25) rfl rfl ?_; intro gb687 hg w6 hbox hb; have BK687 := zA (hbox); have GW687 := zw hg; replace HB := ze hb; clear hb hbox hg) | ((with_reducible refine zD 2 rfl ?_); refine zn (N := 2) (cs := #[.bool false, .slice none 0 0, .int .i64 0]) (t := 25) rfl rfl ?_; intro gb688 hg w7 hbox hb; have BK688 := zA (hbox); have GW688 := zx hg; replace HB := zf hb; have NB687_688 := zl BK687 hg; have NB688_687 := zg BK687 hg; replace BK687 := zb BK687 hb; clear hb hbox hg; have hnb8 := NB687_688.out; have hnc8 := NB688_687.out; obtain ⟨_, _, _, _, _, _⟩ := zc BK687) | ((with_reducible refine zG 24 rfl ?_); refine zL (some 5) rfl rfl Tryd.func24 #[.agg #[.bool a0_0, .slice A0_1 l0_1.length c0_1, .int .i64 a0_2]] rfl ?_; (with_reducible refine (ulpref04_Right.calls k a0_0 _ _ l0_1 a0_2 true _ ?side1 ?side2 A2.out).mono ?_); (case side1 => exact zk (C_below HR0_1.out HB.out)); (case side2 => exact HC0_1.out); rintro e w10 ⟨rfl, hb⟩; refine ⟨_, rfl, ?_⟩; replace BK687 := zb BK687 hb; replace BK688 := zb BK688 hb; replace HB := zf hb; obtain ⟨hcz11_0, hcz11_1, hcz11_2, hfz11_0, hfz11_1, hfz11_2⟩ := zc BK687) | ((with_reducible refine zG 69 rfl ?_); refine zL (some 9) rfl rfl Tryd.func69 #[.agg #[.bool a0_0, .slice A0_1 l0_1.length c0_1, .int .i64 a0_2]] rfl ?_; (with_reducible refine (ulpref04_One.calls k a0_0 _ _ l0_1 a0_2 t690 t691 t694 _ ?side1 ?side2 A4.out).mono ?_); (case side1 => exact zk (C_below HR0_1.out HB.out)); (case side2 => exact HC0_1.out); rintro e w12 ⟨v692, rfl, ho0, hb⟩; refine ⟨_, rfl, ?_⟩; have HO693 := zA (R_lower (R_newM (M := fun k_ => (w.heap.size ≤ k_)) ho0 (below_size zs) (fun k_ h_ => h_)) (below_size zs)); replace BK687 := zb BK687 hb; replace BK688 := zb BK688 hb; replace HB := zf hb; (try clear ho0); obtain ⟨Ao13, co13, eo13⟩ := R_slice HO693.out; subst eo13) | ((with_reducible refine zG 67 rfl ?_); refine zL (some 10) rfl rfl Tryd.func67 #[.agg #[.bool t690, .slice Ao13 t691.length co13, .int .i64 t694]] rfl ?_; (with_reducible refine (ulpref04_room.calls k t690 (fun k_ => some k_ = (.slice Ao13 t691.length co13 : Value).ownBlock) _ _ t691 t694 t695 t696 t699 t700 _ ?side1 A5.out).mono ?_); (case side1 => exact R_V (R_tight rfl (R_types (R_types (HO693.out) BK687.out (by decide)) BK688.out (by decide)))); rintro e w14 ⟨v697, rfl, ho0, hb⟩; refine ⟨_, rfl, ?_⟩; have HO698 := zA (V_lower (V_mono (ok' := fun k_ => (w.heap.size ≤ k_) ∧ k_ ≠ gb687 ∧ k_ ≠ gb688) ho0 (fun k_ hk_ => ⟨Or.elim hk_ (fun hs_ => ((R_types (R_types (HO693.out) BK687.out (by decide)) BK688.out (by decide)).1 k_ hs_.symm).1.1.1) (fun hn_ => (Nat.le_trans (below_size zs) hn_)), Or.elim hk_ (fun hs_ => ((R_types (R_types (HO693.out) BK687.out (by decide)) BK688.out (by decide)).1 k_ hs_.symm).1.2) (fun hn_ => (zj BK687 k_ hn_)), Or.elim hk_ (fun hs_ => ((R_types (R_types (HO693.out) BK687.out (by decide)) BK688.out (by decide)).1 k_ hs_.symm).2) (fun hn_ => (zj BK688 k_ hn_))⟩)) (below_size zs)); replace HO693 := zA (R_below (ru HO693.out) hb); replace BK687 := zb BK687 hb; replace BK688 := zb BK688 hb; replace HB := zf hb; (try clear ho0); obtain ⟨hcz15_0, hcz15_1, hcz15_2, hfz15_0, hfz15_1, hfz15_2⟩ := zc BK688; obtain ⟨Ao16, co16, eo16⟩ := V_slice HO698.out; subst eo16))
  refine bodyPost_ret (results_ct rfl _ _ gb688 25 #[.bool t695, .slice Ao16 t696.length co16, .int .i64 t699] (0, 0) _ rfl (zy BK688) Tryd.underlying25 rfl (by kernel_rfl)) rfl ?_
  exact ⟨_, er, vu (V_mono (zv gb688 (V_mono HO698.out (fun k_ hk => (⟨hk, hk.2.2⟩ : _ ∧ k_ ≠ gb688))) (fun _ hk => hk.2) _ _ _) (fun _ hk => hk.1.1)), zs⟩
 replace c3 := Bool.eq_false_iff.mpr c3
 subst c3
 rw [if_neg (show ¬ (false = true) by decide)] at H
 simp only [Option.some.injEq, Prod.mk.injEq] at H
 obtain ⟨rfl, rfl, rfl, rfl⟩ := H
 go_enter Tryd.func22, Tryd.ntmps22
 go_wp2_with (first | ((with_reducible refine zD 1 rfl ?_); refine zn (N := 1) (cs := #[.bool a0_0, .slice A0_1 l0_1.length c0_1, .int .i64 a0_2]) (t := 25) rfl rfl ?_; intro gb687 hg w17 hbox hb; have BK687 := zA (hbox); have GW687 := zw hg; replace HB := ze hb; clear hb hbox hg) | ((with_reducible refine zD 2 rfl ?_); refine zn (N := 2) (cs := #[.bool false, .slice none 0 0, .int .i64 0]) (t := 25) rfl rfl ?_; intro gb688 hg w18 hbox hb; have BK688 := zA (hbox); have GW688 := zx hg; replace HB := zf hb; have NB687_688 := zl BK687 hg; have NB688_687 := zg BK687 hg; replace BK687 := zb BK687 hb; clear hb hbox hg; have hnb19 := NB687_688.out; have hnc19 := NB688_687.out; obtain ⟨_, _, _, _, _, _⟩ := zc BK687) | ((with_reducible refine zG 24 rfl ?_); refine zL (some 5) rfl rfl Tryd.func24 #[.agg #[.bool a0_0, .slice A0_1 l0_1.length c0_1, .int .i64 a0_2]] rfl ?_; (with_reducible refine (ulpref04_Right.calls k a0_0 _ _ l0_1 a0_2 false _ ?side1 ?side2 A2.out).mono ?_); (case side1 => exact zk (C_below HR0_1.out HB.out)); (case side2 => exact HC0_1.out); rintro e w21 ⟨rfl, hb⟩; refine ⟨_, rfl, ?_⟩; replace BK687 := zb BK687 hb; replace BK688 := zb BK688 hb; replace HB := zf hb; obtain ⟨hcz22_0, hcz22_1, hcz22_2, hfz22_0, hfz22_1, hfz22_2⟩ := zc BK688))
 refine bodyPost_ret (results_ct rfl _ _ gb688 25 #[.bool false, .slice none 0 0, .int .i64 0] (0, 0) _ rfl (zy BK688) Tryd.underlying25 rfl (by kernel_rfl)) rfl ?_
 exact ⟨_, er, V_nil _ _ _ _ _, zs⟩
def ulpref03_Shl.l0 : Nat → List Int → Int → Int → List Int → Int → Int → Option (List Int)
 | 0, _, _, _, _, _, _ => none
 | k + 1, x5, x6, x7, x16, x17, x18 => if x18 < x17 then (if 0 ≤ x18 then (if x18 < (x16.length : Int) then (if 0 ≤ x6 then (if x5.length < 17592186044416 then ((some (x5 ++ [Go.bits .or .u64 (shl .u64 (rd x16 x18) x6) x7] : List Int)).bind fun y575 => (if x6 > 0 then (if 0 ≤ (IntKind.u64.wrap (64 - x6)) then (ulpref03_Shl.l0 k y575 x6 (shr .u64 (rd x16 x18) (IntKind.u64.wrap (64 - x6))) x16 x17 (wrap64 (x18 + 1))) else (none)) else (ulpref03_Shl.l0 k y575 x6 0 x16 x17 (wrap64 (x18 + 1))))) else (none)) else (none)) else (none)) else (none)) else (if x5.length < 17592186044416 then ((ulpref03_Norm.f k (x5 ++ [x7])).bind fun t581 => (some t581)) else (none))
def ulpref03_Shl.f (k : Nat) (l0 : List Int) (a1 : Int) : Option (List Int) := if 0 ≤ (wrap64 (Int.tdiv a1 64)) then (if (wrap64 (Int.tdiv a1 64) : Int).toNat ≤ 35184372088832 then (ulpref03_Shl.l0 k (List.replicate (wrap64 (Int.tdiv a1 64) : Int).toNat 0) (IntKind.u64.wrap (Int.tmod a1 64)) 0 l0 (l0.length : Int) 0) else (none)) else (none)
set_option maxHeartbeats 8000000 in
set_option maxRecDepth 100000 in
theorem ulpref03_Shl.calls (k : Nat) (A0 : Option Addr) (c0 : Nat) (l0 : List Int) (a1 : Int) (r : List Int) (w : World) (hr0 : Kd.C (Kd.int .u64) w A0 l0.length l0) (hc0 : l0.length ≤ c0) (h : ulpref03_Shl.f k l0 a1 = some r) :
  Calls Tryd.prog 118 #[.slice A0 l0.length c0, .int .i64 a1] w fun e w' => ∃ v0_ : Value, e = .returned (v0_) ∧ Kd.R (Kd.int .u64) 43 w' w.heap.size (fun _ => True) v0_ r ∧ Below w.heap.size w w' := by
 have HR0 := zA hr0
 have HC0 := zA hc0
 clear hr0 hc0
 have HB := zA (Below.refl w.heap.size w)
 have H : (if 0 ≤ (wrap64 (Int.tdiv a1 64)) then (if (wrap64 (Int.tdiv a1 64) : Int).toNat ≤ 35184372088832 then (ulpref03_Shl.l0 k (List.replicate (wrap64 (Int.tdiv a1 64) : Int).toNat 0) (IntKind.u64.wrap (Int.tmod a1 64)) 0 l0 (l0.length : Int) 0) else (none)) else (none)) = some r := h
 clear h
 obtain ⟨ji3, hji3⟩ : ∃ j_ : Int, (wrap64 (Int.tdiv a1 64)) = j_ := ⟨_, rfl⟩
 replace H : (if 0 ≤ (ji3) then (if (ji3 : Int).toNat ≤ 35184372088832 then (ulpref03_Shl.l0 k (List.replicate (ji3 : Int).toNat 0) (IntKind.u64.wrap (Int.tmod a1 64)) 0 l0 (l0.length : Int) 0) else (none)) else (none)) = some r := zQ hji3 H
 have hji3w : (IntKind.i64.wrap (Int.tdiv a1 64)) = ji3 := (i64_w _).trans hji3
 replace H := dn H
 obtain ⟨c4, H⟩ := H
 have c4b0 := eq_true c4
 have c4b1 := decide_eq_true c4
 clear c4
 replace H := dn H
 obtain ⟨c5, H⟩ := H
 have c5b0 := eq_true c5
 have c5b1 := decide_eq_true c5
 clear c5
 obtain ⟨y571, hy571⟩ : ∃ y_ : List Int, y_ = (List.replicate (ji3 : Int).toNat 0) := ⟨_, rfl⟩
 replace H : (ulpref03_Shl.l0 k y571 (IntKind.u64.wrap (Int.tmod a1 64)) 0 l0 (l0.length : Int) 0) = some r := zR hy571 H
 have Ny571 := zA hy571
 clear hy571
 have H' := zA H
 clear H
 go_enter Tryd.func118, Tryd.ntmps118
 go_wp2_with (first | ((with_reducible refine zD 12 rfl ?_); refine R_make (Kd.int .u64) _ 43 rfl (N := 12) rfl 23 _ _ rfl ji3 rfl rfl Tryd.underlying23 (.int .u64 0) 8 info43 rfl (by decide) (by omega) 0 (ok := fun _ => True) (okp := fun _ => True) rfl (fun _ hk => hk) trivial (od) (Nat.le_trans (Nat.mul_le_mul_right _ (od : ji3.toNat ≤ 35184372088832)) (by omega)) (Below.refl _ _) (Nat.le_refl _) ?_; intro v572 w6 ho7 hb hg_ hnew_; clear hg_ hnew_; (first | rw [← Ny571.out] at ho7 | (simp only [Int.reduceToNat] at ho7; rw [← Ny571.out] at ho7)); have HO573 := zA (R_lower ho7 (below_size bq)); replace HB := ze hb; clear hb ho7))
 go_loopg [5, 7, 18] k (fun kq v5 v7 v18 w' => ∃ (x5_1 : List Int) (x7_1 : Int) (x18_1 : Int), v7 = .int .u64 x7_1 ∧ v18 = .int .i64 x18_1 ∧ Aside0 (ulpref03_Shl.l0 kq x5_1 (IntKind.u64.wrap (Int.tmod a1 64)) x7_1 l0 (l0.length : Int) x18_1 = some r) ∧ Aside0 (kq ≤ k) ∧ Aside0 (Kd.R (Kd.int .u64) 43 w' w.heap.size (fun _ => True) v5 x5_1) ∧ Aside0 (Below w.heap.size w w'))
 case atStart => exact ⟨(y571), (0), (0), zi, zi, H', ⟨Nat.le_refl _⟩, ⟨ru HO573.out⟩, ⟨bq⟩⟩
 case round =>
  clear H'
  try clear c1
  try clear c4
  try clear c4b0
  try clear c4b1
  try clear c5
  try clear c5b0
  try clear c5b1
  obtain ⟨x5_1, x7_1, x18_1, rfl, rfl, HA, HK1, HO_5, HB⟩ := hrel
  cases gk with
  | zero => exact absurd HA.out (by simp [ulpref03_Shl.l0])
  | succ k1 =>
   have H := HA.out
   clear HA
   simp only [ulpref03_Shl.l0] at H
   by_cases c8 : x18_1 < (l0.length : Int)
   ·rw [if_pos c8] at H
    have c8b0 := decide_eq_true c8
    clear c8
    replace H := dn H
    obtain ⟨c9, H⟩ := H
    have c9b0 := decide_eq_true c9
    clear c9
    replace H := dn H
    obtain ⟨c10, H⟩ := H
    have c10b0 := decide_eq_true c10
    clear c10
    obtain ⟨ji11, hji11⟩ : ∃ j_ : Int, (IntKind.u64.wrap (Int.tmod a1 64)) = j_ := ⟨_, rfl⟩
    replace H : (if 0 ≤ (ji11) then (if x5_1.length < 17592186044416 then ((some (x5_1 ++ [Go.bits .or .u64 (shl .u64 (rd l0 x18_1) (ji11)) x7_1] : List Int)).bind fun y575 => (if (ji11) > 0 then (if 0 ≤ (IntKind.u64.wrap (64 - (ji11))) then (ulpref03_Shl.l0 k1 y575 (ji11) (shr .u64 (rd l0 x18_1) (IntKind.u64.wrap (64 - (ji11)))) l0 (l0.length : Int) (wrap64 (x18_1 + 1))) else (none)) else (ulpref03_Shl.l0 k1 y575 (ji11) 0 l0 (l0.length : Int) (wrap64 (x18_1 + 1))))) else (none)) else (none)) = some r := zQ hji11 H
    replace H := dn H
    obtain ⟨c12, H⟩ := H
    have c12b0 := eq_true c12
    have c12b1 := decide_eq_true c12
    clear c12
    obtain ⟨ji13, hji13⟩ : ∃ j_ : Int, (shl .u64 (rd l0 x18_1) (ji11)) = j_ := ⟨_, rfl⟩
    replace H : (if x5_1.length < 17592186044416 then ((some (x5_1 ++ [Go.bits .or .u64 (ji13) x7_1] : List Int)).bind fun y575 => (if (ji11) > 0 then (if 0 ≤ (IntKind.u64.wrap (64 - (ji11))) then (ulpref03_Shl.l0 k1 y575 (ji11) (shr .u64 (rd l0 x18_1) (IntKind.u64.wrap (64 - (ji11)))) l0 (l0.length : Int) (wrap64 (x18_1 + 1))) else (none)) else (ulpref03_Shl.l0 k1 y575 (ji11) 0 l0 (l0.length : Int) (wrap64 (x18_1 + 1))))) else (none)) = some r := zQ hji13 H
    have hji13_ : (IntKind.u64.wrap ((rd l0 x18_1) * 2 ^ min (ji11).toNat 64)) = ji13 := hji13
    have hji13z : (ji11) ≤ 64 → (IntKind.u64.wrap ((rd l0 x18_1) * 2 ^ (ji11).toNat)) = ji13 := shl_small hji13
    replace H := dn H
    obtain ⟨c14, H⟩ := H
    have LMc14 := zA c14
    clear c14
    obtain ⟨y575, hy575⟩ : ∃ y_ : List Int, y_ = (x5_1 ++ [Go.bits .or .u64 (ji13) x7_1]) := ⟨_, rfl⟩
    replace H : (if (ji11) > 0 then (if 0 ≤ (IntKind.u64.wrap (64 - (ji11))) then (ulpref03_Shl.l0 k1 y575 (ji11) (shr .u64 (rd l0 x18_1) (IntKind.u64.wrap (64 - (ji11)))) l0 (l0.length : Int) (wrap64 (x18_1 + 1))) else (none)) else (ulpref03_Shl.l0 k1 y575 (ji11) 0 l0 (l0.length : Int) (wrap64 (x18_1 + 1)))) = some r := zR hy575 H
    have Ny575 := zA hy575
    clear hy575
    by_cases c15 : (ji11) > 0
    ·rw [if_pos c15] at H
     have c15b0 := decide_eq_true c15
     clear c15
     obtain ⟨ji16, hji16⟩ : ∃ j_ : Int, (IntKind.u64.wrap (64 - (ji11))) = j_ := ⟨_, rfl⟩
     replace H : (if 0 ≤ (ji16) then (ulpref03_Shl.l0 k1 y575 (ji11) (shr .u64 (rd l0 x18_1) (ji16)) l0 (l0.length : Int) (wrap64 (x18_1 + 1))) else (none)) = some r := zQ hji16 H
     replace H := dn H
     obtain ⟨c17, H⟩ := H
     have c17b0 := eq_true c17
     have c17b1 := decide_eq_true c17
     clear c17
     obtain ⟨ji18, hji18⟩ : ∃ j_ : Int, (shr .u64 (rd l0 x18_1) (ji16)) = j_ := ⟨_, rfl⟩
     replace H : (ulpref03_Shl.l0 k1 y575 (ji11) ji18 l0 (l0.length : Int) (wrap64 (x18_1 + 1))) = some r := zQ hji18 H
     have hji18_ : ((rd l0 x18_1) / 2 ^ min (ji16).toNat 64) = ji18 := hji18
     have hji18z : (ji16) ≤ 64 → ((rd l0 x18_1) / 2 ^ (ji16).toNat) = ji18 := shr_small hji18
     have H' := zA H
     clear H
     have p574 : 0 ≤ (x18_1 : Int) := od
     have q574 : x18_1 < (l0.length : Int) := od
     obtain ⟨ad574, e574, hx574_0⟩ := Kd.at_int HR0.out x18_1 p574 q574
     cases e574
     replace hx574_0 := (HB.out.cell (World.block_lt_of_cell? w _ hx574_0)).trans hx574_0
     replace p574 := eq_true p574
     replace q574 := eq_true q574
     go_wp2_with (first | ((with_reducible refine gate_builtin (b := .append) (xs := #[.tmp 22, .tmp 28]) rfl ?_); at_builtin; refine R_append (Kd.int .u64) (w0 := w) w.heap.size rfl (.tmp 22) (.tmp 28) 23 43 (.int .u64 0) 8 rfl Tryd.underlying23 info43 rfl (by decide) (by omega) u5 x5_1 (Go.bits .or .u64 (ji13) x7_1) [.int .u64 (Go.bits .or .u64 (ji13) x7_1)] (fun _ => True) (fun _ => False) rfl rfl ?aP (fun _ hk => hk.elim) ?aF ?aO ?aB ?aS ?aL ?_; (case aP => exact rfl); (case aB => exact bq); (case aF => exact (fun _ _ => trivial)); (case aO => exact (ru HO_5.out)); (case aS => exact (below_size bq)); (case aL => have := LMc14.out; omega); intro v576 w19 ho hb hg hat; rw [← Ny575.out] at ho; have n0_ := zA (hb); have n1_ := zA (ho); clear HB; clear HO_5; have HB := n0_; have HO577 := n1_; clear n0_ n1_; clear ho hb hg hat))
     (try simp only [← hji11, ← hji16])
     go_roundg k1
     case measure => have := HK1.out; omega
     case rel => exact ⟨(y575), (ji18), (wrap64 (x18_1 + 1)), (by first | rfl | (simp; done) | (simp only [← hji18] <;> (first | rfl | simp)) | (simp [*]; done)), zi, (by first | exact H' | (simp only [hji3, hji11, hji13, hji16, hji18]; exact H') | (simp only [hji3, hji11, hji13, hji16, hji18] at H' ⊢; exact H')), ⟨by have := HK1.out; omega⟩, ⟨ru HO577.out⟩, ⟨bq⟩⟩
    rw [if_neg c15] at H
    have c15b0 := decide_eq_false c15
    clear c15
    have H' := zA H
    clear H
    have p574 : 0 ≤ (x18_1 : Int) := od
    have q574 : x18_1 < (l0.length : Int) := od
    obtain ⟨ad574, e574, hx574_0⟩ := Kd.at_int HR0.out x18_1 p574 q574
    cases e574
    replace hx574_0 := (HB.out.cell (World.block_lt_of_cell? w _ hx574_0)).trans hx574_0
    replace p574 := eq_true p574
    replace q574 := eq_true q574
    go_wp2_with (first | ((with_reducible refine gate_builtin (b := .append) (xs := #[.tmp 22, .tmp 28]) rfl ?_); at_builtin; refine R_append (Kd.int .u64) (w0 := w) w.heap.size rfl (.tmp 22) (.tmp 28) 23 43 (.int .u64 0) 8 rfl Tryd.underlying23 info43 rfl (by decide) (by omega) u5 x5_1 (Go.bits .or .u64 (ji13) x7_1) [.int .u64 (Go.bits .or .u64 (ji13) x7_1)] (fun _ => True) (fun _ => False) rfl rfl ?aP (fun _ hk => hk.elim) ?aF ?aO ?aB ?aS ?aL ?_; (case aP => exact rfl); (case aB => exact bq); (case aF => exact (fun _ _ => trivial)); (case aO => exact (ru HO_5.out)); (case aS => exact (below_size bq)); (case aL => have := LMc14.out; omega); intro v576 w20 ho hb hg hat; rw [← Ny575.out] at ho; have n0_ := zA (hb); have n1_ := zA (ho); clear HB; clear HO_5; have HB := n0_; have HO577 := n1_; clear n0_ n1_; clear ho hb hg hat))
    (try simp only [← hji11])
    go_roundg k1
    case measure => have := HK1.out; omega
    case rel => exact ⟨(y575), (0), (wrap64 (x18_1 + 1)), zi, zi, (by first | exact H' | (simp only [hji3, hji11, hji13]; exact H') | (simp only [hji3, hji11, hji13] at H' ⊢; exact H')), ⟨by have := HK1.out; omega⟩, ⟨ru HO577.out⟩, ⟨bq⟩⟩
   rw [if_neg c8] at H
   have c8b0 := decide_eq_false c8
   clear c8
   replace H := dn H
   obtain ⟨c21, H⟩ := H
   have LMc21 := zA c21
   clear c21
   obtain ⟨y578, hy578⟩ : ∃ y_ : List Int, y_ = (x5_1 ++ [x7_1]) := ⟨_, rfl⟩
   replace H : ((ulpref03_Norm.f k1 y578).bind fun t581 => (some t581)) = some r := zR hy578 H
   have Ny578 := zA hy578
   clear hy578
   obtain ⟨t581, A22, H⟩ := zh H
   obtain rfl := Option.some.inj H
   go_wp2_with (first | ((with_reducible refine gate_builtin (b := .append) (xs := #[.tmp 37, .tmp 39]) rfl ?_); at_builtin; refine R_append (Kd.int .u64) (w0 := w) w.heap.size rfl (.tmp 37) (.tmp 39) 23 43 (.int .u64 0) 8 rfl Tryd.underlying23 info43 rfl (by decide) (by omega) u5 x5_1 x7_1 [.int .u64 x7_1] (fun _ => True) (fun _ => False) rfl rfl ?aP (fun _ hk => hk.elim) ?aF ?aO ?aB ?aS ?aL ?_; (case aP => exact rfl); (case aB => exact bq); (case aF => exact (fun _ _ => trivial)); (case aO => exact (ru HO_5.out)); (case aS => exact (below_size bq)); (case aL => have := LMc21.out; omega); intro v579 w23 ho hb hg hat; rw [← Ny578.out] at ho; have n0_ := zA (hb); have n1_ := zA (ho); clear HB; clear HO_5; have HB := n0_; have HO580 := n1_; clear n0_ n1_; clear ho hb hg hat; obtain ⟨Ao24, co24, eo24⟩ := R_slice HO580.out; subst eo24) | ((with_reducible refine zG 74 rfl ?_); refine zL (some 41) rfl rfl Tryd.func74 #[.slice Ao24 y578.length co24] rfl ?_; (with_reducible refine (ulpref03_Norm.calls k1 _ _ y578 t581 _ ?side1 ?side2 A22.out).mono ?_); (case side1 => exact zk (R_reads' HO580.out).2.2); (case side2 => exact (R_reads' HO580.out).2.1); rintro e w25 ⟨v582, rfl, ho0, hb⟩; refine ⟨_, rfl, ?_⟩; have HO583 := zA (R_lower (R_new' ho0 (R_lt (ru HO580.out))) (below_size bq)); replace HO580 := zA (R_elder' (ru HO580.out) (R_base ho0) hb); replace HB := ze hb; (try clear ho0)))
   go_ret
   exact ⟨_, by first | rfl | (simp [errW_none, errW_some] <;> rfl) | (simp only [← hji3]; first | rfl | (simp [errW_none, errW_some] <;> rfl)) | (simp [*, errW_none, errW_some] <;> rfl), ru (R_mono HO583.out (fun _ hk => trivial)), bq⟩
def ulpref03_Cmp.l0 : Nat → List Int → List Int → Int → Option (Int)
 | 0, _, _, _ => none
 | k + 1, x0, x1, x5 => if x5 ≥ 0 then ((ulpref03_word.f x0 x5).bind fun t607 => ((ulpref03_word.f x1 x5).bind fun t608 => (if t607 < t608 then (some (-1)) else (if t607 > t608 then (some 1) else (ulpref03_Cmp.l0 k x0 x1 (wrap64 (x5 - 1))))))) else (some 0)
def ulpref03_Cmp.f (k : Nat) (l0 : List Int) (l1 : List Int) : Option (Int) := ulpref03_Cmp.l0 k l0 l1 (wrap64 ((mx (l0.length : Int) (l1.length : Int)) - 1))
set_option maxHeartbeats 8000000 in
set_option maxRecDepth 100000 in
theorem ulpref03_Cmp.calls (k : Nat) (A0 : Option Addr) (c0 : Nat) (l0 : List Int) (A1 : Option Addr) (c1 : Nat) (l1 : List Int) (r : Int) (w : World) (hr0 : Kd.C (Kd.int .u64) w A0 l0.length l0) (hc0 : l0.length ≤ c0) (hr1 : Kd.C (Kd.int .u64) w A1 l1.length l1) (hc1 : l1.length ≤ c1) (h : ulpref03_Cmp.f k l0 l1 = some r) :
  Calls Tryd.prog 120 #[.slice A0 l0.length c0, .slice A1 l1.length c1] w fun e w' => e = .returned (.int .i64 r) ∧ Below w.heap.size w w' := by
 have HR0 := zA hr0
 have HC0 := zA hc0
 clear hr0 hc0
 have HR1 := zA hr1
 have HC1 := zA hc1
 clear hr1 hc1
 have HB := zA (Below.refl w.heap.size w)
 have H : (ulpref03_Cmp.l0 k l0 l1 (wrap64 ((mx (l0.length : Int) (l1.length : Int)) - 1))) = some r := h
 clear h
 obtain ⟨ji3, hji3⟩ : ∃ j_ : Int, (mx (l0.length : Int) (l1.length : Int)) = j_ := ⟨_, rfl⟩
 replace H : (ulpref03_Cmp.l0 k l0 l1 (wrap64 ((ji3) - 1))) = some r := zQ hji3 H
 (try (have hji3l : 0 ≤ ji3 := by (rw [← hji3]; unfold mx; (repeat' split) <;> omega)))
 (try (have hji3m : 0 ≤ ji3 := by omega))
 have hji3_ : (if (l0.length : Int) < (l1.length : Int) then (l1.length : Int) else (l0.length : Int)) = ji3 := hji3
 have hji3n : (if l0.length < l1.length then (l1.length : Int) else (l0.length : Int)) = ji3 := by rw [← hji3_]; (repeat' split) <;> omega
 have H' := zA H
 clear H
 go_enter Tryd.func120, Tryd.ntmps120
 go_wp2
 go_loopg [5] k (fun kq v5 w' => ∃ (x5_1 : Int), v5 = .int .i64 x5_1 ∧ Aside0 (ulpref03_Cmp.l0 kq l0 l1 x5_1 = some r) ∧ Aside0 (kq ≤ k) ∧ Aside0 (Below w.heap.size w w'))
 case atStart => exact ⟨(wrap64 ((ji3) - 1)), (by first | rfl | (simp; done) | (simp only [← hji3] <;> (first | rfl | simp)) | (simp [*]; done)), H', ⟨Nat.le_refl _⟩, ⟨bq⟩⟩
 case round =>
  clear H'
  try clear c1
  obtain ⟨x5_1, rfl, HA, HK1, HB⟩ := hrel
  cases gk with
  | zero => exact absurd HA.out (by simp [ulpref03_Cmp.l0])
  | succ k1 =>
   have H := HA.out
   clear HA
   simp only [ulpref03_Cmp.l0] at H
   by_cases c4 : x5_1 ≥ 0
   ·rw [if_pos c4] at H
    have c4b0 := decide_eq_true c4
    clear c4
    obtain ⟨t607, A5, H⟩ := zh H
    obtain ⟨t608, A6, H⟩ := zh H
    by_cases c7 : t607 < t608
    ·rw [if_pos c7] at H
     have c7b0 := decide_eq_true c7
     clear c7
     obtain rfl := Option.some.inj H
     go_wp2_with (first | ((with_reducible refine zG 137 rfl ?_); refine zL (some 20) rfl rfl Tryd.func137 #[.slice A0 l0.length c0, .int .i64 x5_1] rfl ?_; (with_reducible refine (ulpref03_word.calls _ _ l0 x5_1 t607 _ ?side1 ?side2 A5.out).mono ?_); (case side1 => exact zk (C_below HR0.out HB.out)); (case side2 => exact HC0.out); rintro e w' ⟨rfl, ⟨nd, rfl⟩⟩; refine ⟨_, rfl, ?_⟩) | ((with_reducible refine zG 137 rfl ?_); refine zL (some 23) rfl rfl Tryd.func137 #[.slice A1 l1.length c1, .int .i64 x5_1] rfl ?_; (with_reducible refine (ulpref03_word.calls _ _ l1 x5_1 t608 _ ?side1 ?side2 A6.out).mono ?_); (case side1 => exact zk (C_below HR1.out bq)); (case side2 => exact HC1.out); rintro e w' ⟨rfl, ⟨nd, rfl⟩⟩; refine ⟨_, rfl, ?_⟩))
     go_ret
     exact ⟨by first | rfl | (simp [errW_none, errW_some] <;> rfl) | (simp only [← hji3]; first | rfl | (simp [errW_none, errW_some] <;> rfl)) | (simp [*, errW_none, errW_some] <;> rfl), bq⟩
    rw [if_neg c7] at H
    have c7b0 := decide_eq_false c7
    clear c7
    by_cases c8 : t607 > t608
    ·rw [if_pos c8] at H
     have c8b0 := decide_eq_true c8
     clear c8
     obtain rfl := Option.some.inj H
     go_wp2_with (first | ((with_reducible refine zG 137 rfl ?_); refine zL (some 20) rfl rfl Tryd.func137 #[.slice A0 l0.length c0, .int .i64 x5_1] rfl ?_; (with_reducible refine (ulpref03_word.calls _ _ l0 x5_1 t607 _ ?side1 ?side2 A5.out).mono ?_); (case side1 => exact zk (C_below HR0.out HB.out)); (case side2 => exact HC0.out); rintro e w' ⟨rfl, ⟨nd, rfl⟩⟩; refine ⟨_, rfl, ?_⟩) | ((with_reducible refine zG 137 rfl ?_); refine zL (some 23) rfl rfl Tryd.func137 #[.slice A1 l1.length c1, .int .i64 x5_1] rfl ?_; (with_reducible refine (ulpref03_word.calls _ _ l1 x5_1 t608 _ ?side1 ?side2 A6.out).mono ?_); (case side1 => exact zk (C_below HR1.out bq)); (case side2 => exact HC1.out); rintro e w' ⟨rfl, ⟨nd, rfl⟩⟩; refine ⟨_, rfl, ?_⟩))
     go_ret
     exact ⟨by first | rfl | (simp [errW_none, errW_some] <;> rfl) | (simp only [← hji3]; first | rfl | (simp [errW_none, errW_some] <;> rfl)) | (simp [*, errW_none, errW_some] <;> rfl), bq⟩
    rw [if_neg c8] at H
    have c8b0 := decide_eq_false c8
    clear c8
    have H' := zA H
    clear H
    go_wp2_with (first | ((with_reducible refine zG 137 rfl ?_); refine zL (some 20) rfl rfl Tryd.func137 #[.slice A0 l0.length c0, .int .i64 x5_1] rfl ?_; (with_reducible refine (ulpref03_word.calls _ _ l0 x5_1 t607 _ ?side1 ?side2 A5.out).mono ?_); (case side1 => exact zk (C_below HR0.out HB.out)); (case side2 => exact HC0.out); rintro e w' ⟨rfl, ⟨nd, rfl⟩⟩; refine ⟨_, rfl, ?_⟩) | ((with_reducible refine zG 137 rfl ?_); refine zL (some 23) rfl rfl Tryd.func137 #[.slice A1 l1.length c1, .int .i64 x5_1] rfl ?_; (with_reducible refine (ulpref03_word.calls _ _ l1 x5_1 t608 _ ?side1 ?side2 A6.out).mono ?_); (case side1 => exact zk (C_below HR1.out bq)); (case side2 => exact HC1.out); rintro e w' ⟨rfl, ⟨nd, rfl⟩⟩; refine ⟨_, rfl, ?_⟩))
    go_roundg k1
    case measure => have := HK1.out; omega
    case rel => exact ⟨(wrap64 (x5_1 - 1)), zi, (by first | exact H' | (simp only [hji3]; exact H') | (simp only [hji3] at H' ⊢; exact H')), ⟨by have := HK1.out; omega⟩, ⟨bq⟩⟩
   rw [if_neg c4] at H
   have c4b0 := decide_eq_false c4
   clear c4
   obtain rfl := Option.some.inj H
   go_wp2
   go_ret
   exact ⟨by first | rfl | (simp [errW_none, errW_some] <;> rfl) | (simp only [← hji3]; first | rfl | (simp [errW_none, errW_some] <;> rfl)) | (simp [*, errW_none, errW_some] <;> rfl), bq⟩
def ulpref03_Sub.l0 : Nat → List Int → List Int → List Int → Int → Int → Option (List Int)
 | 0, _, _, _, _, _ => none
 | k + 1, x0, x1, x5, x6, x7 => if x7 < (mx (x0.length : Int) (x1.length : Int)) then ((ulpref03_word.f x0 x7).bind fun t612 => ((ulpref03_word.f x1 x7).bind fun t613 => (if t612 < t613 then (if x5.length < 17592186044416 then (ulpref03_Sub.l0 k x0 x1 (x5 ++ [IntKind.u64.wrap ((IntKind.u64.wrap (t612 - t613)) - x6)]) 1 (wrap64 (x7 + 1))) else (none)) else (if t612 = t613 then (if x6 = 1 then (if x5.length < 17592186044416 then (ulpref03_Sub.l0 k x0 x1 (x5 ++ [IntKind.u64.wrap ((IntKind.u64.wrap (t612 - t613)) - x6)]) 1 (wrap64 (x7 + 1))) else (none)) else (if x5.length < 17592186044416 then (ulpref03_Sub.l0 k x0 x1 (x5 ++ [IntKind.u64.wrap ((IntKind.u64.wrap (t612 - t613)) - x6)]) 0 (wrap64 (x7 + 1))) else (none))) else (if x5.length < 17592186044416 then (ulpref03_Sub.l0 k x0 x1 (x5 ++ [IntKind.u64.wrap ((IntKind.u64.wrap (t612 - t613)) - x6)]) 0 (wrap64 (x7 + 1))) else (none)))))) else ((ulpref03_Norm.f k x5).bind fun t609 => (some t609))
def ulpref03_Sub.f (k : Nat) (l0 : List Int) (l1 : List Int) : Option (List Int) := ulpref03_Sub.l0 k l0 l1 ([] : List Int) 0 0
set_option maxHeartbeats 8000000 in
set_option maxRecDepth 100000 in
theorem ulpref03_Sub.calls (k : Nat) (A0 : Option Addr) (c0 : Nat) (l0 : List Int) (A1 : Option Addr) (c1 : Nat) (l1 : List Int) (r : List Int) (w : World) (hr0 : Kd.C (Kd.int .u64) w A0 l0.length l0) (hc0 : l0.length ≤ c0) (hr1 : Kd.C (Kd.int .u64) w A1 l1.length l1) (hc1 : l1.length ≤ c1) (h : ulpref03_Sub.f k l0 l1 = some r) :
  Calls Tryd.prog 121 #[.slice A0 l0.length c0, .slice A1 l1.length c1] w fun e w' => ∃ v0_ : Value, e = .returned (v0_) ∧ Kd.R (Kd.int .u64) 43 w' w.heap.size (fun _ => True) v0_ r ∧ Below w.heap.size w w' := by
 have HR0 := zA hr0
 have HC0 := zA hc0
 clear hr0 hc0
 have HR1 := zA hr1
 have HC1 := zA hc1
 clear hr1 hc1
 have HB := zA (Below.refl w.heap.size w)
 have H : (ulpref03_Sub.l0 k l0 l1 ([] : List Int) 0 0) = some r := h
 clear h
 have H' := zA H
 clear H
 go_enter Tryd.func121, Tryd.ntmps121
 go_wp2
 go_loopg [5, 6, 7] k (fun kq v5 v6 v7 w' => ∃ (x5_1 : List Int) (x6_1 : Int) (x7_1 : Int), v6 = .int .u64 x6_1 ∧ v7 = .int .i64 x7_1 ∧ Aside0 (ulpref03_Sub.l0 kq l0 l1 x5_1 x6_1 x7_1 = some r) ∧ Aside0 (kq ≤ k) ∧ Aside0 (Kd.R (Kd.int .u64) 43 w' w.heap.size (fun _ => True) v5 x5_1) ∧ Aside0 (Below w.heap.size w w'))
 case atStart => exact ⟨(([] : List Int)), (0), (0), zi, zi, H', ⟨Nat.le_refl _⟩, ⟨by first | exact R_nil _ _ _ _ _ | exact Kd.N_nil _ _ _ _ _ | exact V_nil _ _ _ _ _ | exact Kd.Q_nil _ _ _ _ _ | exact Kd.S_nil _ _ _ _ _⟩, ⟨bq⟩⟩
 case round =>
  clear H'
  try clear c1
  obtain ⟨x5_1, x6_1, x7_1, rfl, rfl, HA, HK1, HO_5, HB⟩ := hrel
  cases gk with
  | zero => exact absurd HA.out (by simp [ulpref03_Sub.l0])
  | succ k1 =>
   have H := HA.out
   clear HA
   simp only [ulpref03_Sub.l0] at H
   obtain ⟨ji3, hji3⟩ : ∃ j_ : Int, (mx (l0.length : Int) (l1.length : Int)) = j_ := ⟨_, rfl⟩
   replace H : (if x7_1 < (ji3) then ((ulpref03_word.f l0 x7_1).bind fun t612 => ((ulpref03_word.f l1 x7_1).bind fun t613 => (if t612 < t613 then (if x5_1.length < 17592186044416 then (ulpref03_Sub.l0 k1 l0 l1 (x5_1 ++ [IntKind.u64.wrap ((IntKind.u64.wrap (t612 - t613)) - x6_1)]) 1 (wrap64 (x7_1 + 1))) else (none)) else (if t612 = t613 then (if x6_1 = 1 then (if x5_1.length < 17592186044416 then (ulpref03_Sub.l0 k1 l0 l1 (x5_1 ++ [IntKind.u64.wrap ((IntKind.u64.wrap (t612 - t613)) - x6_1)]) 1 (wrap64 (x7_1 + 1))) else (none)) else (if x5_1.length < 17592186044416 then (ulpref03_Sub.l0 k1 l0 l1 (x5_1 ++ [IntKind.u64.wrap ((IntKind.u64.wrap (t612 - t613)) - x6_1)]) 0 (wrap64 (x7_1 + 1))) else (none))) else (if x5_1.length < 17592186044416 then (ulpref03_Sub.l0 k1 l0 l1 (x5_1 ++ [IntKind.u64.wrap ((IntKind.u64.wrap (t612 - t613)) - x6_1)]) 0 (wrap64 (x7_1 + 1))) else (none)))))) else ((ulpref03_Norm.f k1 x5_1).bind fun t609 => (some t609))) = some r := zQ hji3 H
   (try (have hji3l : 0 ≤ ji3 := by (rw [← hji3]; unfold mx; (repeat' split) <;> omega)))
   (try (have hji3m : 0 ≤ ji3 := by omega))
   have hji3_ : (if (l0.length : Int) < (l1.length : Int) then (l1.length : Int) else (l0.length : Int)) = ji3 := hji3
   have hji3n : (if l0.length < l1.length then (l1.length : Int) else (l0.length : Int)) = ji3 := by rw [← hji3_]; (repeat' split) <;> omega
   by_cases c4 : x7_1 < (ji3)
   ·rw [if_pos c4] at H
    have c4b0 := decide_eq_true c4
    clear c4
    obtain ⟨t612, A5, H⟩ := zh H
    obtain ⟨t613, A6, H⟩ := zh H
    by_cases c7 : t612 < t613
    ·rw [if_pos c7] at H
     have c7b0 := decide_eq_true c7
     clear c7
     replace H := dn H
     obtain ⟨c8, H⟩ := H
     have LMc8 := zA c8
     clear c8
     obtain ⟨y614, hy614⟩ : ∃ y_ : List Int, y_ = (x5_1 ++ [IntKind.u64.wrap ((IntKind.u64.wrap (t612 - t613)) - x6_1)]) := ⟨_, rfl⟩
     replace H : (ulpref03_Sub.l0 k1 l0 l1 y614 1 (wrap64 (x7_1 + 1))) = some r := zR hy614 H
     have Ny614 := zA hy614
     clear hy614
     have H' := zA H
     clear H
     go_wp2_with (first | ((with_reducible refine zG 137 rfl ?_); refine zL (some 22) rfl rfl Tryd.func137 #[.slice A0 l0.length c0, .int .i64 x7_1] rfl ?_; (with_reducible refine (ulpref03_word.calls _ _ l0 x7_1 t612 _ ?side1 ?side2 A5.out).mono ?_); (case side1 => exact zk (C_below HR0.out HB.out)); (case side2 => exact HC0.out); rintro e w' ⟨rfl, ⟨nd, rfl⟩⟩; refine ⟨_, rfl, ?_⟩) | ((with_reducible refine zG 137 rfl ?_); refine zL (some 25) rfl rfl Tryd.func137 #[.slice A1 l1.length c1, .int .i64 x7_1] rfl ?_; (with_reducible refine (ulpref03_word.calls _ _ l1 x7_1 t613 _ ?side1 ?side2 A6.out).mono ?_); (case side1 => exact zk (C_below HR1.out bq)); (case side2 => exact HC1.out); rintro e w' ⟨rfl, ⟨nd, rfl⟩⟩; refine ⟨_, rfl, ?_⟩) | ((with_reducible refine gate_builtin (b := .append) (xs := #[.tmp 43, .tmp 45]) rfl ?_); at_builtin; refine R_append (Kd.int .u64) (w0 := w) w.heap.size rfl (.tmp 43) (.tmp 45) 23 43 (.int .u64 0) 8 rfl Tryd.underlying23 info43 rfl (by decide) (by omega) u5 x5_1 (IntKind.u64.wrap ((IntKind.u64.wrap (t612 - t613)) - x6_1)) [.int .u64 (IntKind.u64.wrap ((IntKind.u64.wrap (t612 - t613)) - x6_1))] (fun _ => True) (fun _ => False) rfl rfl ?aP (fun _ hk => hk.elim) ?aF ?aO ?aB ?aS ?aL ?_; (case aP => exact rfl); (case aB => exact bq); (case aF => exact (fun _ _ => trivial)); (case aO => exact (ru HO_5.out)); (case aS => exact (below_size bq)); (case aL => have := LMc8.out; omega); intro v615 w9 ho hb hg hat; rw [← Ny614.out] at ho; have n0_ := zA (hb); have n1_ := zA (ho); clear HB; clear HO_5; have HB := n0_; have HO616 := n1_; clear n0_ n1_; clear ho hb hg hat))
     (try simp only [← hji3])
     go_roundg k1
     case measure => have := HK1.out; omega
     case rel => exact ⟨(y614), (1), (wrap64 (x7_1 + 1)), zi, zi, (by first | exact H' | (simp only [hji3]; exact H') | (simp only [hji3] at H' ⊢; exact H')), ⟨by have := HK1.out; omega⟩, ⟨ru HO616.out⟩, ⟨bq⟩⟩
    rw [if_neg c7] at H
    have c7b0 := decide_eq_false c7
    clear c7
    by_cases c10 : t612 = t613
    ·rw [if_pos c10] at H
     have c10b0 := beq_iff_eq.mpr c10
     have c10b1 := bne_eq_false_iff_eq.mpr c10
     clear c10
     by_cases c11 : x6_1 = 1
     ·rw [if_pos c11] at H
      have c11b0 := beq_iff_eq.mpr c11
      have c11b1 := bne_eq_false_iff_eq.mpr c11
      clear c11
      replace H := dn H
      obtain ⟨c12, H⟩ := H
      have LMc12 := zA c12
      clear c12
      obtain ⟨y617, hy617⟩ : ∃ y_ : List Int, y_ = (x5_1 ++ [IntKind.u64.wrap ((IntKind.u64.wrap (t612 - t613)) - x6_1)]) := ⟨_, rfl⟩
      replace H : (ulpref03_Sub.l0 k1 l0 l1 y617 1 (wrap64 (x7_1 + 1))) = some r := zR hy617 H
      have Ny617 := zA hy617
      clear hy617
      have H' := zA H
      clear H
      go_wp2_with (first | ((with_reducible refine zG 137 rfl ?_); refine zL (some 22) rfl rfl Tryd.func137 #[.slice A0 l0.length c0, .int .i64 x7_1] rfl ?_; (with_reducible refine (ulpref03_word.calls _ _ l0 x7_1 t612 _ ?side1 ?side2 A5.out).mono ?_); (case side1 => exact zk (C_below HR0.out HB.out)); (case side2 => exact HC0.out); rintro e w' ⟨rfl, ⟨nd, rfl⟩⟩; refine ⟨_, rfl, ?_⟩) | ((with_reducible refine zG 137 rfl ?_); refine zL (some 25) rfl rfl Tryd.func137 #[.slice A1 l1.length c1, .int .i64 x7_1] rfl ?_; (with_reducible refine (ulpref03_word.calls _ _ l1 x7_1 t613 _ ?side1 ?side2 A6.out).mono ?_); (case side1 => exact zk (C_below HR1.out bq)); (case side2 => exact HC1.out); rintro e w' ⟨rfl, ⟨nd, rfl⟩⟩; refine ⟨_, rfl, ?_⟩) | ((with_reducible refine gate_builtin (b := .append) (xs := #[.tmp 43, .tmp 45]) rfl ?_); at_builtin; refine R_append (Kd.int .u64) (w0 := w) w.heap.size rfl (.tmp 43) (.tmp 45) 23 43 (.int .u64 0) 8 rfl Tryd.underlying23 info43 rfl (by decide) (by omega) u5 x5_1 (IntKind.u64.wrap ((IntKind.u64.wrap (t612 - t613)) - x6_1)) [.int .u64 (IntKind.u64.wrap ((IntKind.u64.wrap (t612 - t613)) - x6_1))] (fun _ => True) (fun _ => False) rfl rfl ?aP (fun _ hk => hk.elim) ?aF ?aO ?aB ?aS ?aL ?_; (case aP => exact rfl); (case aB => exact bq); (case aF => exact (fun _ _ => trivial)); (case aO => exact (ru HO_5.out)); (case aS => exact (below_size bq)); (case aL => have := LMc12.out; omega); intro v618 w13 ho hb hg hat; rw [← Ny617.out] at ho; have n0_ := zA (hb); have n1_ := zA (ho); clear HB; clear HO_5; have HB := n0_; have HO619 := n1_; clear n0_ n1_; clear ho hb hg hat))
      (try simp only [← hji3])
      go_roundg k1
      case measure => have := HK1.out; omega
      case rel => exact ⟨(y617), (1), (wrap64 (x7_1 + 1)), zi, zi, (by first | exact H' | (simp only [hji3]; exact H') | (simp only [hji3] at H' ⊢; exact H')), ⟨by have := HK1.out; omega⟩, ⟨ru HO619.out⟩, ⟨bq⟩⟩
     rw [if_neg c11] at H
     have c11b0 := beq_eq_false_iff_ne.mpr c11
     have c11b1 := bne_iff_ne.mpr c11
     replace H := dn H
     obtain ⟨c14, H⟩ := H
     have LMc14 := zA c14
     clear c14
     obtain ⟨y620, hy620⟩ : ∃ y_ : List Int, y_ = (x5_1 ++ [IntKind.u64.wrap ((IntKind.u64.wrap (t612 - t613)) - x6_1)]) := ⟨_, rfl⟩
     replace H : (ulpref03_Sub.l0 k1 l0 l1 y620 0 (wrap64 (x7_1 + 1))) = some r := zR hy620 H
     have Ny620 := zA hy620
     clear hy620
     have H' := zA H
     clear H
     go_wp2_with (first | ((with_reducible refine zG 137 rfl ?_); refine zL (some 22) rfl rfl Tryd.func137 #[.slice A0 l0.length c0, .int .i64 x7_1] rfl ?_; (with_reducible refine (ulpref03_word.calls _ _ l0 x7_1 t612 _ ?side1 ?side2 A5.out).mono ?_); (case side1 => exact zk (C_below HR0.out HB.out)); (case side2 => exact HC0.out); rintro e w' ⟨rfl, ⟨nd, rfl⟩⟩; refine ⟨_, rfl, ?_⟩) | ((with_reducible refine zG 137 rfl ?_); refine zL (some 25) rfl rfl Tryd.func137 #[.slice A1 l1.length c1, .int .i64 x7_1] rfl ?_; (with_reducible refine (ulpref03_word.calls _ _ l1 x7_1 t613 _ ?side1 ?side2 A6.out).mono ?_); (case side1 => exact zk (C_below HR1.out bq)); (case side2 => exact HC1.out); rintro e w' ⟨rfl, ⟨nd, rfl⟩⟩; refine ⟨_, rfl, ?_⟩) | ((with_reducible refine gate_builtin (b := .append) (xs := #[.tmp 43, .tmp 45]) rfl ?_); at_builtin; refine R_append (Kd.int .u64) (w0 := w) w.heap.size rfl (.tmp 43) (.tmp 45) 23 43 (.int .u64 0) 8 rfl Tryd.underlying23 info43 rfl (by decide) (by omega) u5 x5_1 (IntKind.u64.wrap ((IntKind.u64.wrap (t612 - t613)) - x6_1)) [.int .u64 (IntKind.u64.wrap ((IntKind.u64.wrap (t612 - t613)) - x6_1))] (fun _ => True) (fun _ => False) rfl rfl ?aP (fun _ hk => hk.elim) ?aF ?aO ?aB ?aS ?aL ?_; (case aP => exact rfl); (case aB => exact bq); (case aF => exact (fun _ _ => trivial)); (case aO => exact (ru HO_5.out)); (case aS => exact (below_size bq)); (case aL => have := LMc14.out; omega); intro v621 w15 ho hb hg hat; rw [← Ny620.out] at ho; have n0_ := zA (hb); have n1_ := zA (ho); clear HB; clear HO_5; have HB := n0_; have HO622 := n1_; clear n0_ n1_; clear ho hb hg hat))
     (try simp only [← hji3])
     go_roundg k1
     case measure => have := HK1.out; omega
     case rel => exact ⟨(y620), (0), (wrap64 (x7_1 + 1)), zi, zi, (by first | exact H' | (simp only [hji3]; exact H') | (simp only [hji3] at H' ⊢; exact H')), ⟨by have := HK1.out; omega⟩, ⟨ru HO622.out⟩, ⟨bq⟩⟩
    rw [if_neg c10] at H
    have c10b0 := beq_eq_false_iff_ne.mpr c10
    have c10b1 := bne_iff_ne.mpr c10
    replace H := dn H
    obtain ⟨c16, H⟩ := H
    have LMc16 := zA c16
    clear c16
    obtain ⟨y623, hy623⟩ : ∃ y_ : List Int, y_ = (x5_1 ++ [IntKind.u64.wrap ((IntKind.u64.wrap (t612 - t613)) - x6_1)]) := ⟨_, rfl⟩
    replace H : (ulpref03_Sub.l0 k1 l0 l1 y623 0 (wrap64 (x7_1 + 1))) = some r := zR hy623 H
    have Ny623 := zA hy623
    clear hy623
    have H' := zA H
    clear H
    go_wp2_with (first | ((with_reducible refine zG 137 rfl ?_); refine zL (some 22) rfl rfl Tryd.func137 #[.slice A0 l0.length c0, .int .i64 x7_1] rfl ?_; (with_reducible refine (ulpref03_word.calls _ _ l0 x7_1 t612 _ ?side1 ?side2 A5.out).mono ?_); (case side1 => exact zk (C_below HR0.out HB.out)); (case side2 => exact HC0.out); rintro e w' ⟨rfl, ⟨nd, rfl⟩⟩; refine ⟨_, rfl, ?_⟩) | ((with_reducible refine zG 137 rfl ?_); refine zL (some 25) rfl rfl Tryd.func137 #[.slice A1 l1.length c1, .int .i64 x7_1] rfl ?_; (with_reducible refine (ulpref03_word.calls _ _ l1 x7_1 t613 _ ?side1 ?side2 A6.out).mono ?_); (case side1 => exact zk (C_below HR1.out bq)); (case side2 => exact HC1.out); rintro e w' ⟨rfl, ⟨nd, rfl⟩⟩; refine ⟨_, rfl, ?_⟩) | ((with_reducible refine gate_builtin (b := .append) (xs := #[.tmp 43, .tmp 45]) rfl ?_); at_builtin; refine R_append (Kd.int .u64) (w0 := w) w.heap.size rfl (.tmp 43) (.tmp 45) 23 43 (.int .u64 0) 8 rfl Tryd.underlying23 info43 rfl (by decide) (by omega) u5 x5_1 (IntKind.u64.wrap ((IntKind.u64.wrap (t612 - t613)) - x6_1)) [.int .u64 (IntKind.u64.wrap ((IntKind.u64.wrap (t612 - t613)) - x6_1))] (fun _ => True) (fun _ => False) rfl rfl ?aP (fun _ hk => hk.elim) ?aF ?aO ?aB ?aS ?aL ?_; (case aP => exact rfl); (case aB => exact bq); (case aF => exact (fun _ _ => trivial)); (case aO => exact (ru HO_5.out)); (case aS => exact (below_size bq)); (case aL => have := LMc16.out; omega); intro v624 w17 ho hb hg hat; rw [← Ny623.out] at ho; have n0_ := zA (hb); have n1_ := zA (ho); clear HB; clear HO_5; have HB := n0_; have HO625 := n1_; clear n0_ n1_; clear ho hb hg hat))
    (try simp only [← hji3])
    go_roundg k1
    case measure => have := HK1.out; omega
    case rel => exact ⟨(y623), (0), (wrap64 (x7_1 + 1)), zi, zi, (by first | exact H' | (simp only [hji3]; exact H') | (simp only [hji3] at H' ⊢; exact H')), ⟨by have := HK1.out; omega⟩, ⟨ru HO625.out⟩, ⟨bq⟩⟩
   rw [if_neg c4] at H
   have c4b0 := decide_eq_false c4
   clear c4
   obtain ⟨t609, A18, H⟩ := zh H
   obtain rfl := Option.some.inj H
   obtain ⟨Ao19, co19, eo19⟩ := R_slice HO_5.out
   subst eo19
   go_wp2_with (first | ((with_reducible refine zG 74 rfl ?_); refine zL (some 48) rfl rfl Tryd.func74 #[.slice Ao19 x5_1.length co19] rfl ?_; (with_reducible refine (ulpref03_Norm.calls k1 _ _ x5_1 t609 _ ?side1 ?side2 A18.out).mono ?_); (case side1 => exact zk (R_reads' HO_5.out).2.2); (case side2 => exact (R_reads' HO_5.out).2.1); rintro e w20 ⟨v610, rfl, ho0, hb⟩; refine ⟨_, rfl, ?_⟩; have HO611 := zA (R_lower (R_new' ho0 (R_lt (ru HO_5.out))) (below_size bq)); replace HO_5 := zA (R_elder' (ru HO_5.out) (R_base ho0) hb); replace HB := ze hb; (try clear ho0)))
   go_ret
   exact ⟨_, by first | rfl | (simp [errW_none, errW_some] <;> rfl) | (simp only [← hji3]; first | rfl | (simp [errW_none, errW_some] <;> rfl)) | (simp [*, errW_none, errW_some] <;> rfl), ru (R_mono HO611.out (fun _ hk => trivial)), bq⟩
end Go.Proofs.YtemfckibdojbbaaDoor.PAll
