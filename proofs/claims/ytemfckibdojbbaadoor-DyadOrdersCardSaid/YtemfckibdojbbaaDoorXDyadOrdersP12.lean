/- Printed functions, merged by a program of this session. -/
import Derived.Test.YtemfckibdojbbaaDoorXDyadOrdersP0
import Derived.Test.YtemfckibdojbbaaDoorXDyadOrdersP1
import Derived.Test.YtemfckibdojbbaaDoorXDyadOrdersP9
import Derived.Laws.StructEq
import Derived.Test.YtemfckibdojbbaaDoorXDyadOrdersSh
namespace Go.Proofs.YtemfckibdojbbaaDoor.PAll
open Go.RowKit Go.Proofs.YtemfckibdojbbaaDoorW.PrintWords Go.Proofs.YtemfckibdojbbaaDoorW.PrintLast Go.Proofs.YtemfckibdojbbaaDoorW.PrintMore Go.Proofs.YtemfckibdojbbaaDoorW.PrintWords.Kd
attribute [local go_sem] max2_int min2_int max_two min_two max_three min_three max_four min_four   -- for this text's walks alone
set_option linter.unusedVariables false
set_option linter.unusedSimpArgs false
attribute [local go_sem] ext135 ext136
def raw_Int.f (k : Nat) (a0 : Int) : Option (Bool × List Int × Int) := if a0 < 0 then ((limbs_Of.f (IntKind.u64.wrap (-(IntKind.u64.wrap (a0))))).bind fun t398 => ((raw_Form.f k (decide (a0 < 0)) t398 0).bind fun bt401 => (some (bt401.1, bt401.2.1, bt401.2.2)))) else ((limbs_Of.f (IntKind.u64.wrap (a0))).bind fun t406 => ((raw_Form.f k (decide (a0 < 0)) t406 0).bind fun bt409 => (some (bt409.1, bt409.2.1, bt409.2.2))))
theorem raw_Int.mono : ∀ a0 k, LeO (raw_Int.f k a0) (raw_Int.f (k + 1) a0) := by
 intro a0 k
 unfold raw_Int.f
 repeat' first
   | (with_reducible exact raw_Form.mono _ _ _ _)
   | (with_reducible exact LeO.refl _)
   | (with_reducible exact LeO.none _)
   | (with_reducible refine LeO.ite ?_ ?_)
   | (with_reducible refine LeO.bind ?_ (fun _ => ?_))
   | exact raw_Form.mono _ _ _ _
   | exact LeO.none _
   | refine LeO.ite ?_ ?_
   | refine LeO.bind ?_ (fun _ => ?_)
set_option maxHeartbeats 8000000 in
set_option maxRecDepth 100000 in
theorem raw_Int.calls (k : Nat) (a0 : Int) (r1 : Bool) (r2 : List Int) (r3 : Int) (w : World) (hT : Laid w) (h : raw_Int.f k a0 = some (r1, r2, r3)) :
  Calls Tryd.prog 98 #[.int .i64 a0] w fun e w' => ∃ v1_ : Value, e = .returned (.agg #[.bool r1, v1_, .int .i64 r3]) ∧ Kd.V (Kd.int .u64) 43 w' w.heap.size (fun k_ => (w.heap.size ≤ k_)) v1_ r2 ∧ Below w.heap.size w w' := by
 have hu25 := Tryd.underlying25
 have HB := zA (Below.refl w.heap.size w)
 have H : (if a0 < 0 then ((limbs_Of.f (IntKind.u64.wrap (-(IntKind.u64.wrap (a0))))).bind fun t398 => ((raw_Form.f k (decide (a0 < 0)) t398 0).bind fun bt401 => (some (bt401.1, bt401.2.1, bt401.2.2)))) else ((limbs_Of.f (IntKind.u64.wrap (a0))).bind fun t406 => ((raw_Form.f k (decide (a0 < 0)) t406 0).bind fun bt409 => (some (bt409.1, bt409.2.1, bt409.2.2))))) = some (r1, r2, r3) := h
 clear h
 by_cases c2 : a0 < 0
 ·rw [if_pos c2] at H
  have c2b0 := decide_eq_true c2
  clear c2
  obtain ⟨t398, A3, H⟩ := zh H
  obtain ⟨⟨t401, t402, t405⟩, A4, H⟩ := zh H
  (try dsimp only at H)
  simp only [Option.some.injEq, Prod.mk.injEq] at H
  obtain ⟨rfl, rfl, rfl⟩ := H
  rw [c2b0] at A4
  go_enter Tryd.func98, Tryd.ntmps98
  go_wp2_with (first | ((with_reducible refine zD 2 rfl ?_); refine zn (N := 2) (cs := #[.bool false, .slice none 0 0, .int .i64 0]) (t := 25) rfl rfl ?_; intro gb397 hg w5 hbox hb; have BK397 := zA (hbox); have GW397 := zw hg; replace HB := ze hb; clear hb hbox hg) | ((with_reducible refine zG 117 rfl ?_); refine zL (some 13) rfl rfl Tryd.func117 #[.int .u64 (IntKind.u64.wrap (-(IntKind.u64.wrap (a0))))] rfl ?_; (with_reducible refine (limbs_Of.calls (IntKind.u64.wrap (-(IntKind.u64.wrap (a0)))) t398 _ A3.out).mono ?_); rintro e w6 ⟨v399, rfl, ho0, hb⟩; refine ⟨_, rfl, ?_⟩; have HO400 := zA (R_lower (R_newM (M := fun k_ => (w.heap.size ≤ k_)) ho0 (below_size zs) (fun k_ h_ => h_)) (below_size zs)); replace BK397 := zb BK397 hb; replace HB := zf hb; (try clear ho0); obtain ⟨Ao7, co7, eo7⟩ := R_slice HO400.out; subst eo7) | ((with_reducible refine zG 91 rfl ?_); refine zL (some 14) rfl rfl Tryd.func91 #[.bool true, .slice Ao7 t398.length co7, .int .i64 0] rfl ?_; (with_reducible refine (raw_Form.calls k true (fun k_ => some k_ = (.slice Ao7 t398.length co7 : Value).ownBlock) _ _ t398 0 t401 t402 t405 _ ?side1 (laid_below hT zs) A4.out).mono ?_); (case side1 => exact R_V (R_tight rfl (R_types (HO400.out) BK397.out (by decide)))); rintro e w8 ⟨v403, rfl, ho0, hb⟩; refine ⟨_, rfl, ?_⟩; have HO404 := zA (V_lower (V_mono (ok' := fun k_ => (w.heap.size ≤ k_) ∧ k_ ≠ gb397) ho0 (fun k_ hk_ => ⟨Or.elim hk_ (fun hs_ => ((R_types (HO400.out) BK397.out (by decide)).1 k_ hs_.symm).1.1) (fun hn_ => (Nat.le_trans (below_size zs) hn_)), Or.elim hk_ (fun hs_ => ((R_types (HO400.out) BK397.out (by decide)).1 k_ hs_.symm).2) (fun hn_ => (zj BK397 k_ hn_))⟩)) (below_size zs)); replace HO400 := zA (R_below (ru HO400.out) hb); replace BK397 := zb BK397 hb; replace HB := zf hb; (try clear ho0); obtain ⟨hcz9_0, hcz9_1, hcz9_2, hfz9_0, hfz9_1, hfz9_2⟩ := zc BK397; obtain ⟨Ao10, co10, eo10⟩ := V_slice HO404.out; subst eo10))
  refine bodyPost_ret (results_cell_row rfl _ _ gb397 25 #[.bool t401, .slice Ao10 t402.length co10, .int .i64 t405] (0, 0) _ rfl (zy BK397) Tryd.underlying25 rfl (by kernel_rfl)) rfl ?_
  exact ⟨_, er, vu (V_mono (zv gb397 (V_mono HO404.out (fun k_ hk => (⟨hk, hk.2⟩ : _ ∧ k_ ≠ gb397))) (fun _ hk => hk.2) _ _ _) (fun _ hk => hk.1.1)), zs⟩
 rw [if_neg c2] at H
 have c2b0 := decide_eq_false c2
 clear c2
 obtain ⟨t406, A11, H⟩ := zh H
 obtain ⟨⟨t409, t410, t413⟩, A12, H⟩ := zh H
 (try dsimp only at H)
 simp only [Option.some.injEq, Prod.mk.injEq] at H
 obtain ⟨rfl, rfl, rfl⟩ := H
 rw [c2b0] at A12
 go_enter Tryd.func98, Tryd.ntmps98
 go_wp2_with (first | ((with_reducible refine zD 2 rfl ?_); refine zn (N := 2) (cs := #[.bool false, .slice none 0 0, .int .i64 0]) (t := 25) rfl rfl ?_; intro gb397 hg w13 hbox hb; have BK397 := zA (hbox); have GW397 := zw hg; replace HB := ze hb; clear hb hbox hg) | ((with_reducible refine zG 117 rfl ?_); refine zL (some 13) rfl rfl Tryd.func117 #[.int .u64 (IntKind.u64.wrap (a0))] rfl ?_; (with_reducible refine (limbs_Of.calls (IntKind.u64.wrap (a0)) t406 _ A11.out).mono ?_); rintro e w14 ⟨v407, rfl, ho0, hb⟩; refine ⟨_, rfl, ?_⟩; have HO408 := zA (R_lower (R_newM (M := fun k_ => (w.heap.size ≤ k_)) ho0 (below_size zs) (fun k_ h_ => h_)) (below_size zs)); replace BK397 := zb BK397 hb; replace HB := zf hb; (try clear ho0); obtain ⟨Ao15, co15, eo15⟩ := R_slice HO408.out; subst eo15) | ((with_reducible refine zG 91 rfl ?_); refine zL (some 14) rfl rfl Tryd.func91 #[.bool false, .slice Ao15 t406.length co15, .int .i64 0] rfl ?_; (with_reducible refine (raw_Form.calls k false (fun k_ => some k_ = (.slice Ao15 t406.length co15 : Value).ownBlock) _ _ t406 0 t409 t410 t413 _ ?side1 (laid_below hT zs) A12.out).mono ?_); (case side1 => exact R_V (R_tight rfl (R_types (HO408.out) BK397.out (by decide)))); rintro e w16 ⟨v411, rfl, ho0, hb⟩; refine ⟨_, rfl, ?_⟩; have HO412 := zA (V_lower (V_mono (ok' := fun k_ => (w.heap.size ≤ k_) ∧ k_ ≠ gb397) ho0 (fun k_ hk_ => ⟨Or.elim hk_ (fun hs_ => ((R_types (HO408.out) BK397.out (by decide)).1 k_ hs_.symm).1.1) (fun hn_ => (Nat.le_trans (below_size zs) hn_)), Or.elim hk_ (fun hs_ => ((R_types (HO408.out) BK397.out (by decide)).1 k_ hs_.symm).2) (fun hn_ => (zj BK397 k_ hn_))⟩)) (below_size zs)); replace HO408 := zA (R_below (ru HO408.out) hb); replace BK397 := zb BK397 hb; replace HB := zf hb; (try clear ho0); obtain ⟨hcz17_0, hcz17_1, hcz17_2, hfz17_0, hfz17_1, hfz17_2⟩ := zc BK397; obtain ⟨Ao18, co18, eo18⟩ := V_slice HO412.out; subst eo18))
 refine bodyPost_ret (results_cell_row rfl _ _ gb397 25 #[.bool t409, .slice Ao18 t410.length co18, .int .i64 t413] (0, 0) _ rfl (zy BK397) Tryd.underlying25 rfl (by kernel_rfl)) rfl ?_
 exact ⟨_, er, vu (V_mono (zv gb397 (V_mono HO412.out (fun k_ hk => (⟨hk, hk.2⟩ : _ ∧ k_ ≠ gb397))) (fun _ hk => hk.2) _ _ _) (fun _ hk => hk.1.1)), zs⟩
def dyad_Int.f (k : Nat) (a0 : Int) : Option (Bool × List Int × Int) := (raw_Int.f k a0).bind fun bt415 => (some (bt415.1, bt415.2.1, bt415.2.2))
theorem dyad_Int.mono : ∀ a0 k, LeO (dyad_Int.f k a0) (dyad_Int.f (k + 1) a0) := by
 intro a0 k
 unfold dyad_Int.f
 repeat' first
   | (with_reducible exact raw_Int.mono _ _)
   | (with_reducible exact LeO.refl _)
   | (with_reducible exact LeO.none _)
   | (with_reducible refine LeO.ite ?_ ?_)
   | (with_reducible refine LeO.bind ?_ (fun _ => ?_))
   | exact raw_Int.mono _ _
   | exact LeO.none _
   | refine LeO.ite ?_ ?_
   | refine LeO.bind ?_ (fun _ => ?_)
set_option maxHeartbeats 8000000 in
set_option maxRecDepth 100000 in
theorem dyad_Int.calls (k : Nat) (a0 : Int) (r1 : Bool) (r2 : List Int) (r3 : Int) (w : World) (hT : Laid w) (h : dyad_Int.f k a0 = some (r1, r2, r3)) :
  Calls Tryd.prog 45 #[.int .i64 a0] w fun e w' => ∃ v1_ : Value, e = .returned (.agg #[.bool r1, v1_, .int .i64 r3]) ∧ Kd.V (Kd.int .u64) 43 w' w.heap.size (fun k_ => (w.heap.size ≤ k_)) v1_ r2 ∧ Below w.heap.size w w' := by
 have hu25 := Tryd.underlying25
 have HB := zA (Below.refl w.heap.size w)
 have H : ((raw_Int.f k a0).bind fun bt415 => (some (bt415.1, bt415.2.1, bt415.2.2))) = some (r1, r2, r3) := h
 clear h
 obtain ⟨⟨t415, t416, t419⟩, A2, H⟩ := zh H
 (try dsimp only at H)
 simp only [Option.some.injEq, Prod.mk.injEq] at H
 obtain ⟨rfl, rfl, rfl⟩ := H
 go_enter Tryd.func45, Tryd.ntmps45
 go_wp2_with (first | ((with_reducible refine zD 2 rfl ?_); refine zn (N := 2) (cs := #[.bool false, .slice none 0 0, .int .i64 0]) (t := 25) rfl rfl ?_; intro gb414 hg w3 hbox hb; have BK414 := zA (hbox); have GW414 := zw hg; replace HB := ze hb; clear hb hbox hg) | ((with_reducible refine zG 98 rfl ?_); refine zL (some 4) rfl rfl Tryd.func98 #[.int .i64 a0] rfl ?_; (with_reducible refine (raw_Int.calls k a0 t415 t416 t419 _ (laid_below hT zs) A2.out).mono ?_); rintro e w4 ⟨v417, rfl, ho0, hb⟩; refine ⟨_, rfl, ?_⟩; have HO418 := zA (V_lower (V_mono (ok' := fun k_ => (w.heap.size ≤ k_) ∧ k_ ≠ gb414) ho0 (fun k_ hk_ => ⟨(Nat.le_trans (below_size zs) hk_), (zj BK414 k_ hk_)⟩)) (below_size zs)); replace BK414 := zb BK414 hb; replace HB := zf hb; (try clear ho0); obtain ⟨hcz5_0, hcz5_1, hcz5_2, hfz5_0, hfz5_1, hfz5_2⟩ := zc BK414; obtain ⟨Ao6, co6, eo6⟩ := V_slice HO418.out; subst eo6))
 refine bodyPost_ret (results_cell_row rfl _ _ gb414 25 #[.bool t415, .slice Ao6 t416.length co6, .int .i64 t419] (0, 0) _ rfl (zy BK414) Tryd.underlying25 rfl (by kernel_rfl)) rfl ?_
 exact ⟨_, er, vu (V_mono (zv gb414 (V_mono HO418.out (fun k_ hk => (⟨hk, hk.2⟩ : _ ∧ k_ ≠ gb414))) (fun _ hk => hk.2) _ _ _) (fun _ hk => hk.1.1)), zs⟩
end Go.Proofs.YtemfckibdojbbaaDoor.PAll
