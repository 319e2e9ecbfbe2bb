/- Printed functions, merged by a program of this session. -/
import Derived.Test.YtemfckibdojbbaaDoorXDyadCutP0
import Derived.Test.YtemfckibdojbbaaDoorXDyadCutP2
import Derived.Test.YtemfckibdojbbaaDoorXDyadCutP1
import Derived.Laws.StructEq
import Derived.Test.YtemfckibdojbbaaDoorXDyadCutSh
namespace Go.Proofs.YtemfckibdojbbaaDoor.PAll
open Go.RowKit Go.Proofs.YtemfckibdojbbaaDoorW.PrintWords Go.Proofs.YtemfckibdojbbaaDoorW.PrintLast Go.Proofs.YtemfckibdojbbaaDoorW.PrintMore Go.Proofs.YtemfckibdojbbaaDoorW.PrintWords.Kd
attribute [local go_sem] max2_int min2_int max_two min_two max_three min_three max_four min_four   -- for this text's walks alone
set_option linter.unusedVariables false
set_option linter.unusedSimpArgs false
attribute [local go_sem] ext135 ext136
def limbs_Len.f (k : Nat) (l0 : List Int) : Option (Int) := (limbs_Trim.f k l0).bind fun t292 => (if (t292.length : Int) = 0 then (some 0) else (if 0 ≤ (wrap64 ((t292.length : Int) - 1)) then (if (wrap64 ((t292.length : Int) - 1)) < (t292.length : Int) then ((bits_Len64.f k (rd t292 (wrap64 ((t292.length : Int) - 1)))).bind fun t296 => (some (wrap64 ((wrap64 (64 * (wrap64 ((t292.length : Int) - 1)))) + t296)))) else (none)) else (none)))
theorem limbs_Len.mono : ∀ a0 k, LeO (limbs_Len.f k a0) (limbs_Len.f (k + 1) a0) := by
 intro a0 k
 unfold limbs_Len.f
 repeat' first
   | (with_reducible exact bits_Len64.mono _ _)
   | (with_reducible exact limbs_Trim.mono _ _)
   | (with_reducible exact LeO.refl _)
   | (with_reducible exact LeO.none _)
   | (with_reducible refine LeO.ite ?_ ?_)
   | (with_reducible refine LeO.bind ?_ (fun _ => ?_))
   | exact bits_Len64.mono _ _
   | exact limbs_Trim.mono _ _
   | exact LeO.none _
   | refine LeO.ite ?_ ?_
   | refine LeO.bind ?_ (fun _ => ?_)
set_option maxHeartbeats 8000000 in
set_option maxRecDepth 100000 in
theorem limbs_Len.calls (k : Nat) (A0 : Option Addr) (c0 : Nat) (l0 : List Int) (r : Int) (w : World) (hr0 : Kd.C (Kd.int .u64) w A0 l0.length l0) (hc0 : l0.length ≤ c0) (h : limbs_Len.f k l0 = some r) :
  Calls Tryd.prog 84 #[.slice A0 l0.length c0] w fun e w' => e = .returned (.int .i64 r) ∧ Below w.heap.size w w' := by
 have HR0 := zA hr0
 have HC0 := zA hc0
 clear hr0 hc0
 have HB := zA (Below.refl w.heap.size w)
 have H : ((limbs_Trim.f k l0).bind fun t292 => (if (t292.length : Int) = 0 then (some 0) else (if 0 ≤ (wrap64 ((t292.length : Int) - 1)) then (if (wrap64 ((t292.length : Int) - 1)) < (t292.length : Int) then ((bits_Len64.f k (rd t292 (wrap64 ((t292.length : Int) - 1)))).bind fun t296 => (some (wrap64 ((wrap64 (64 * (wrap64 ((t292.length : Int) - 1)))) + t296)))) else (none)) else (none)))) = some r := h
 clear h
 obtain ⟨t292, A2, H⟩ := zh H
 by_cases c3 : (t292.length : Int) = 0
 ·rw [if_pos c3] at H
  have c3b0 := beq_iff_eq.mpr c3
  have c3b1 := bne_eq_false_iff_eq.mpr c3
  clear c3
  obtain rfl := Option.some.inj H
  go_enter Tryd.func84, Tryd.ntmps84
  go_wp2_with (first | ((with_reducible refine zG 122 rfl ?_); refine zL (some 4) rfl rfl Tryd.func122 #[.slice A0 l0.length c0] rfl ?_; (with_reducible refine (limbs_Trim.calls k (fun k_ => k_ < w.heap.size) _ _ l0 t292 _ ?side1 A2.out).mono ?_); (case side1 => exact V_mk HC0.out (Kd.F_below (C_F (Kd.heap_int .u64) HR0.out) bq)); rintro e w4 ⟨v293, rfl, ho0, hb⟩; refine ⟨_, rfl, ?_⟩; have HO294 := zA (V_lower (V_mono (ok' := fun k_ => True) ho0 (fun k_ hk_ => trivial)) (below_size bq)); replace HB := ze hb; (try clear ho0); obtain ⟨Ao5, co5, eo5⟩ := V_slice HO294.out; subst eo5))
  go_ret
  exact ⟨er, bq⟩
 rw [if_neg c3] at H
 have c3b0 := beq_eq_false_iff_ne.mpr c3
 have c3b1 := bne_iff_ne.mpr c3
 have c3b2 : ¬ (t292 = []) := fun h_ => c3 (by rw [h_]; rfl)
 obtain ⟨ji6, hji6⟩ : ∃ j_ : Int, (wrap64 ((t292.length : Int) - 1)) = j_ := ⟨_, rfl⟩
 replace H : (if 0 ≤ (ji6) then (if (ji6) < (t292.length : Int) then ((bits_Len64.f k (rd t292 (ji6))).bind fun t296 => (some (wrap64 ((wrap64 (64 * (ji6))) + t296)))) else (none)) else (none)) = some r := zQ hji6 H
 (try rw [hji6] at A2)
 have hji6w : (IntKind.i64.wrap ((t292.length : Int) - 1)) = ji6 := (i64_w _).trans hji6
 replace H := dn H
 obtain ⟨c7, H⟩ := H
 have c7b0 := decide_eq_true c7
 clear c7
 replace H := dn H
 obtain ⟨c8, H⟩ := H
 have c8b0 := decide_eq_true c8
 clear c8
 obtain ⟨t296, A9, H⟩ := zh H
 obtain rfl := Option.some.inj H
 go_enter Tryd.func84, Tryd.ntmps84
 go_wp2_with (first | ((with_reducible refine zG 122 rfl ?_); refine zL (some 4) rfl rfl Tryd.func122 #[.slice A0 l0.length c0] rfl ?_; (with_reducible refine (limbs_Trim.calls k (fun k_ => k_ < w.heap.size) _ _ l0 t292 _ ?side1 A2.out).mono ?_); (case side1 => exact V_mk HC0.out (Kd.F_below (C_F (Kd.heap_int .u64) HR0.out) bq)); rintro e w10 ⟨v293, rfl, ho0, hb⟩; refine ⟨_, rfl, ?_⟩; have HO294 := zA (V_lower (V_mono (ok' := fun k_ => True) ho0 (fun k_ hk_ => trivial)) (below_size bq)); replace HB := ze hb; (try clear ho0); obtain ⟨Ao11, co11, eo11⟩ := V_slice HO294.out; subst eo11; have p295 : 0 ≤ ((ji6) : Int) := od; have q295 : (ji6) < (t292.length : Int) := od; obtain ⟨ad295, e295, hx295_0⟩ := Kd.at_int (V_reads' HO294.out).2.2 (ji6) p295 q295; cases e295; replace p295 := eq_true p295; replace q295 := eq_true q295) | ((with_reducible refine zG 128 rfl ?_); refine goesL_ (some 18) rfl rfl Tryd.func128 (by kernel_rfl) rfl #[.int .u64 (rd t292 (ji6))] rfl (by (try simp only [List.map_toArray, List.map_cons, List.map_nil]); first | done | (simp only [hji6]; rfl) | rfl | (simp only [List.length_drop, List.length_take]; rfl)) ?_; (with_reducible refine (bits_Len64.calls k (rd t292 (ji6)) t296 _ A9.out).mono ?_); rintro e w' ⟨rfl, ⟨nd, rfl⟩⟩; refine ⟨_, rfl, ?_⟩))
 go_ret
 exact ⟨by first | rfl | (simp [errW_none, errW_some] <;> rfl) | (simp only [← hji6]; first | rfl | (simp [errW_none, errW_some] <;> rfl)) | (simp [*, errW_none, errW_some] <;> rfl), bq⟩
def limbs_Of.f (a0 : Int) : Option (List Int) := if a0 = 0 then (some ([] : List Int)) else (some (([a0] : List Int)))
set_option maxHeartbeats 8000000 in
set_option maxRecDepth 100000 in
theorem limbs_Of.calls (a0 : Int) (r : List Int) (w : World) (h : limbs_Of.f a0 = some r) :
  Calls Tryd.prog 117 #[.int .u64 a0] w fun e w' => ∃ v0_ : Value, e = .returned (v0_) ∧ Kd.R (Kd.int .u64) 43 w' w.heap.size (fun _ => True) v0_ r ∧ Below w.heap.size w w' := by
 have HB := zA (Below.refl w.heap.size w)
 have H : (if a0 = 0 then (some ([] : List Int)) else (some (([a0] : List Int)))) = some r := h
 clear h
 by_cases c2 : a0 = 0
 ·rw [if_pos c2] at H
  have c2b0 := beq_iff_eq.mpr c2
  have c2b1 := bne_eq_false_iff_eq.mpr c2
  clear c2
  obtain rfl := Option.some.inj H
  go_enter Tryd.func117, Tryd.ntmps117
  go_wp2
  go_ret
  exact ⟨_, er, by first | exact R_nil _ _ _ _ _ | exact Kd.N_nil _ _ _ _ _ | exact V_nil _ _ _ _ _ | exact Kd.Q_nil _ _ _ _ _ | exact Kd.S_nil _ _ _ _ _, bq⟩
 rw [if_neg c2] at H
 have c2b0 := beq_eq_false_iff_ne.mpr c2
 have c2b1 := bne_iff_ne.mpr c2
 obtain ⟨y297, hy297⟩ : ∃ y_ : List Int, y_ = (([a0] : List Int)) := ⟨_, rfl⟩
 replace H : (some y297) = some r := zR hy297 H
 have Ny297 := zA hy297
 clear hy297
 obtain rfl := Option.some.inj H
 go_enter Tryd.func117, Tryd.ntmps117
 go_wp2_with (first | ((with_reducible refine zD 6 rfl ?_); refine R_lit (Kd.int .u64) _ 43 ?hg (N := 6) ?hd (xs := ([a0] : List Int)) (inner := [.int .u64 a0]) (ok := fun _ => True) (okp := fun _ => True) ?hr ?hp (fun _ hk => hk) trivial (Below.refl _ _) (Nat.le_refl _) (by simp) ?_; (case hd => rfl); (case hg => rfl); (case hr => first | (go_simp; done) | (go_simp; rfl)); (case hp => exact (Reps.one (show Kd.M (Kd.int .u64) _ _ _ a0 [.int .u64 a0] from rfl) (Reps.none _ _))); intro v298 w3 ho4 hb hg_ hnew_; clear hg_ hnew_; (first | rw [← Ny297.out] at ho4 | (simp only [Int.reduceToNat] at ho4; rw [← Ny297.out] at ho4)); have HO299 := zA (R_lower ho4 (below_size bq)); replace HB := ze hb; clear hb ho4))
 go_ret
 exact ⟨_, er, ru HO299.out, bq⟩
def raw_Cut.f (k : Nat) (a0_0 : Bool) (l0_1 : List Int) (a0_2 : Int) (a1 : Int) (a2 : Bool) : Option (Bool × List Int × Int) := (raw_One.f k a0_0 l0_1 a0_2).bind fun bt302 => ((limbs_Len.f k bt302.2.1).bind fun t307 => (if (wrap64 (t307 - a1)) ≤ 0 then (some (bt302.1, bt302.2.1, bt302.2.2)) else ((limbs_Shr.f k bt302.2.1 (wrap64 (t307 - a1))).bind fun bt308 => (if (a2 != bt302.1) = true then ((limbs_Of.f 1).bind fun t312 => ((limbs_Add.f k bt308.1 t312).bind fun t315 => ((raw_Form.f k bt302.1 t315 (wrap64 (bt302.2.2 + (wrap64 (t307 - a1))))).bind fun bt318 => (some (bt318.1, bt318.2.1, bt318.2.2))))) else ((raw_Form.f k bt302.1 bt308.1 (wrap64 (bt302.2.2 + (wrap64 (t307 - a1))))).bind fun bt323 => (some (bt323.1, bt323.2.1, bt323.2.2)))))))
theorem raw_Cut.mono : ∀ a0 a1 a2 a3 a4 k, LeO (raw_Cut.f k a0 a1 a2 a3 a4) (raw_Cut.f (k + 1) a0 a1 a2 a3 a4) := by
 intro a0 a1 a2 a3 a4 k
 unfold raw_Cut.f
 repeat' first
   | (with_reducible exact limbs_Add.mono _ _ _)
   | (with_reducible exact limbs_Len.mono _ _)
   | (with_reducible exact limbs_Shr.mono _ _ _)
   | (with_reducible exact raw_Form.mono _ _ _ _)
   | (with_reducible exact raw_One.mono _ _ _ _)
   | (with_reducible exact LeO.refl _)
   | (with_reducible exact LeO.none _)
   | (with_reducible refine LeO.ite ?_ ?_)
   | (with_reducible refine LeO.bind ?_ (fun _ => ?_))
   | exact limbs_Add.mono _ _ _
   | exact limbs_Len.mono _ _
   | exact limbs_Shr.mono _ _ _
   | exact raw_Form.mono _ _ _ _
   | exact raw_One.mono _ _ _ _
   | exact LeO.none _
   | refine LeO.ite ?_ ?_
   | refine LeO.bind ?_ (fun _ => ?_)
set_option maxHeartbeats 8000000 in
set_option maxRecDepth 100000 in
theorem raw_Cut.calls (k : Nat) (a0_0 : Bool) (P0_1_ : Nat → Prop) (A0_1 : Option Addr) (c0_1 : Nat) (l0_1 : List Int) (a0_2 : Int) (a1 : Int) (a2 : Bool) (r1 : Bool) (r2 : List Int) (r3 : Int) (w : World) (hs0_1 : Kd.V (Kd.int .u64) 43 w w.heap.size (fun k_ => P0_1_ k_) (.slice A0_1 l0_1.length c0_1) l0_1) (hT : Laid w) (h : raw_Cut.f k a0_0 l0_1 a0_2 a1 a2 = some (r1, r2, r3)) :
  Calls Tryd.prog 64 #[.agg #[.bool a0_0, .slice A0_1 l0_1.length c0_1, .int .i64 a0_2], .int .i64 a1, .bool a2] w fun e w' => ∃ v1_ : Value, e = .returned (.agg #[.bool r1, v1_, .int .i64 r3]) ∧ Kd.V (Kd.int .u64) 43 w' w.heap.size (fun k_ => (P0_1_ k_ ∨ w.heap.size ≤ k_)) v1_ r2 ∧ Below w.heap.size w w' := by
 have hu25 := Tryd.underlying25
 have HO0_1 := zA (show Kd.V (Kd.int .u64) 43 w w.heap.size (fun k_ => (P0_1_ k_ ∨ w.heap.size ≤ k_)) (.slice A0_1 l0_1.length c0_1) l0_1 from V_mono hs0_1 (fun k_ hk => .inl hk))
 have HB := zA (Below.refl w.heap.size w)
 have H : ((raw_One.f k a0_0 l0_1 a0_2).bind fun bt302 => ((limbs_Len.f k bt302.2.1).bind fun t307 => (if (wrap64 (t307 - a1)) ≤ 0 then (some (bt302.1, bt302.2.1, bt302.2.2)) else ((limbs_Shr.f k bt302.2.1 (wrap64 (t307 - a1))).bind fun bt308 => (if (a2 != bt302.1) = true then ((limbs_Of.f 1).bind fun t312 => ((limbs_Add.f k bt308.1 t312).bind fun t315 => ((raw_Form.f k bt302.1 t315 (wrap64 (bt302.2.2 + (wrap64 (t307 - a1))))).bind fun bt318 => (some (bt318.1, bt318.2.1, bt318.2.2))))) else ((raw_Form.f k bt302.1 bt308.1 (wrap64 (bt302.2.2 + (wrap64 (t307 - a1))))).bind fun bt323 => (some (bt323.1, bt323.2.1, bt323.2.2)))))))) = some (r1, r2, r3) := h
 clear h
 obtain ⟨⟨t302, t303, t306⟩, A4, H⟩ := zh H
 (try dsimp only at H)
 obtain ⟨t307, A5, H⟩ := zh H
 by_cases c6 : (wrap64 (t307 - a1)) ≤ 0
 ·rw [if_pos c6] at H
  have c6b0 := decide_eq_true c6
  clear c6
  simp only [Option.some.injEq, Prod.mk.injEq] at H
  obtain ⟨rfl, rfl, rfl⟩ := H
  go_enter Tryd.func64, Tryd.ntmps64
  go_wp2_with (first | ((with_reducible refine zD 3 rfl ?_); refine zn (N := 3) (cs := #[.bool a0_0, .slice A0_1 l0_1.length c0_1, .int .i64 a0_2]) (t := 25) rfl rfl ?_; intro gb300 hg w7 hbox hb; replace HO0_1 := zA (V_below (V_elderB (vu HO0_1.out) gb300 (Nat.le_of_eq hg.symm)) hb); have BK300 := zA (hbox); have GW300 := zw hg; replace HB := ze hb; clear hb hbox hg) | ((with_reducible refine zD 6 rfl ?_); refine zn (N := 6) (cs := #[.bool false, .slice none 0 0, .int .i64 0]) (t := 25) rfl rfl ?_; intro gb301 hg w8 hbox hb; replace HO0_1 := zA (V_below (V_elderB (vu HO0_1.out) gb301 (Nat.le_of_eq hg.symm)) hb); have BK301 := zA (hbox); have GW301 := zx hg; replace HB := zf hb; have NB300_301 := zl BK300 hg; have NB301_300 := zg BK300 hg; replace BK300 := zb BK300 hb; clear hb hbox hg; have hnb9 := NB300_301.out; have hnc9 := NB301_300.out; obtain ⟨_, _, _, _, _, _⟩ := zc BK300) | ((with_reducible refine zG 95 rfl ?_); refine zL (some 11) rfl rfl Tryd.func95 #[.agg #[.bool a0_0, .slice A0_1 l0_1.length c0_1, .int .i64 a0_2]] rfl ?_; (with_reducible refine (raw_One.calls k a0_0 (fun k_ => (((P0_1_ k_ ∨ w.heap.size ≤ k_) ∧ k_ ≠ gb300) ∧ k_ ≠ gb301)) _ _ l0_1 a0_2 t302 t303 t306 _ ?side1 (laid_below hT zs) A4.out).mono ?_); (case side1 => exact HO0_1.out); rintro e w11 ⟨v304, rfl, ho0, hb⟩; refine ⟨_, rfl, ?_⟩; replace HO0_1 := zA (V_below (vu HO0_1.out) hb); have HO305 := zA (V_lower (V_mono (ok' := fun k_ => (P0_1_ k_ ∨ w.heap.size ≤ k_) ∧ k_ ≠ gb300 ∧ k_ ≠ gb301) ho0 (fun k_ hk_ => ⟨Or.elim hk_ (fun hs_ => hs_.1.1) (fun hn_ => (.inr (Nat.le_trans (below_size zs) hn_))), Or.elim hk_ (fun hs_ => hs_.1.2) (fun hn_ => (zj BK300 k_ hn_)), Or.elim hk_ (fun hs_ => hs_.2) (fun hn_ => (zj BK301 k_ hn_))⟩)) (below_size zs)); replace BK300 := zb BK300 hb; replace BK301 := zb BK301 hb; replace HB := zf hb; (try clear ho0); obtain ⟨hcz12_0, hcz12_1, hcz12_2, hfz12_0, hfz12_1, hfz12_2⟩ := zc BK300; obtain ⟨Ao13, co13, eo13⟩ := V_slice HO305.out; subst eo13) | ((with_reducible refine zG 84 rfl ?_); refine zL (some 14) rfl rfl Tryd.func84 #[.slice Ao13 t303.length co13] rfl ?_; (with_reducible refine (limbs_Len.calls k _ _ t303 t307 _ ?side1 ?side2 A5.out).mono ?_); (case side1 => refine (V_reads' (e := 43) (base := w.heap.size) (ok := fun k_ => ((P0_1_ k_ ∨ w.heap.size ≤ k_) ∧ (k_ ≠ gb300 ∧ k_ ≠ gb301))) (n := t303.length) (c := co13) ?_).2.2; exact (vu (V_mono (zv gb300 (V_mono HO305.out (fun k_ hk => (⟨hk, hk.2.1⟩ : _ ∧ k_ ≠ gb300))) (fun _ hk => hk.2) _ _ _) (fun _ h_ => h_.1)))); (case side2 => exact (V_reads' HO305.out).2.1); rintro e w14 ⟨rfl, hb⟩; refine ⟨_, rfl, ?_⟩; replace HO0_1 := zA (V_below (vu (V_mono (zv gb300 (V_mono HO0_1.out (fun k_ hk => (⟨hk, hk.1.2⟩ : _ ∧ k_ ≠ gb300))) (fun _ hk => hk.2) _ _ _) (fun _ h_ => h_.1))) hb); replace HO305 := zA (V_below (vu (V_mono (zv gb300 (V_mono HO305.out (fun k_ hk => (⟨hk, hk.2.1⟩ : _ ∧ k_ ≠ gb300))) (fun _ hk => hk.2) _ _ _) (fun _ h_ => h_.1))) hb); replace BK300 := zt BK300 hb; replace BK301 := zF BK301 hb; replace HB := zf hb; (try clear hk); obtain ⟨hcz15_0, hcz15_1, hcz15_2, hfz15_0, hfz15_1, hfz15_2⟩ := zc BK300; obtain ⟨hcz16_0, hcz16_1, hcz16_2, hfz16_0, hfz16_1, hfz16_2⟩ := zc BK301))
  refine bodyPost_ret (results_cell_row rfl _ _ gb301 25 #[.bool t302, .slice Ao13 t303.length co13, .int .i64 t306] (0, 0) _ rfl (zy BK301) Tryd.underlying25 rfl (by kernel_rfl)) rfl ?_
  exact ⟨_, er, vu (V_mono (zv gb301 (V_mono HO305.out (fun k_ hk => (⟨hk, hk.2.2⟩ : _ ∧ k_ ≠ gb301))) (fun _ hk => hk.2) _ _ _) (fun _ hk => hk.1.1)), zs⟩
 rw [if_neg c6] at H
 have c6b0 := decide_eq_false c6
 clear c6
 obtain ⟨⟨t308, t311⟩, A17, H⟩ := zh H
 (try dsimp only at H)
 by_cases c18 : (a2 != t302) = true
 ·rw [if_pos c18] at H
  have c18b0 : (a2 != t302) = true := c18
  (try (have c18b1 : decide (a2 = t302) = false := by simpa using c18))
  (try (have c18b2 : (a2 == t302) = false := by simpa using c18))
  (try (have c18b3 : ¬ (a2 = t302) := by simpa using c18))
  clear c18
  obtain ⟨t312, A19, H⟩ := zh H
  obtain ⟨t315, A20, H⟩ := zh H
  obtain ⟨⟨t318, t319, t322⟩, A21, H⟩ := zh H
  (try dsimp only at H)
  simp only [Option.some.injEq, Prod.mk.injEq] at H
  obtain ⟨rfl, rfl, rfl⟩ := H
  go_enter Tryd.func64, Tryd.ntmps64
  go_wp2_with (first | ((with_reducible refine zD 3 rfl ?_); refine zn (N := 3) (cs := #[.bool a0_0, .slice A0_1 l0_1.length c0_1, .int .i64 a0_2]) (t := 25) rfl rfl ?_; intro gb300 hg w22 hbox hb; replace HO0_1 := zA (V_below (V_elderB (vu HO0_1.out) gb300 (Nat.le_of_eq hg.symm)) hb); have BK300 := zA (hbox); have GW300 := zw hg; replace HB := ze hb; clear hb hbox hg) | ((with_reducible refine zD 6 rfl ?_); refine zn (N := 6) (cs := #[.bool false, .slice none 0 0, .int .i64 0]) (t := 25) rfl rfl ?_; intro gb301 hg w23 hbox hb; replace HO0_1 := zA (V_below (V_elderB (vu HO0_1.out) gb301 (Nat.le_of_eq hg.symm)) hb); have BK301 := zA (hbox); have GW301 := zx hg; replace HB := zf hb; have NB300_301 := zl BK300 hg; have NB301_300 := zg BK300 hg; replace BK300 := zb BK300 hb; clear hb hbox hg; have hnb24 := NB300_301.out; have hnc24 := NB301_300.out; obtain ⟨_, _, _, _, _, _⟩ := zc BK300) | ((with_reducible refine zG 95 rfl ?_); refine zL (some 11) rfl rfl Tryd.func95 #[.agg #[.bool a0_0, .slice A0_1 l0_1.length c0_1, .int .i64 a0_2]] rfl ?_; (with_reducible refine (raw_One.calls k a0_0 (fun k_ => (((P0_1_ k_ ∨ w.heap.size ≤ k_) ∧ k_ ≠ gb300) ∧ k_ ≠ gb301)) _ _ l0_1 a0_2 t302 t303 t306 _ ?side1 (laid_below hT zs) A4.out).mono ?_); (case side1 => exact HO0_1.out); rintro e w26 ⟨v304, rfl, ho0, hb⟩; refine ⟨_, rfl, ?_⟩; replace HO0_1 := zA (V_below (vu HO0_1.out) hb); have HO305 := zA (V_lower (V_mono (ok' := fun k_ => (P0_1_ k_ ∨ w.heap.size ≤ k_) ∧ k_ ≠ gb300 ∧ k_ ≠ gb301) ho0 (fun k_ hk_ => ⟨Or.elim hk_ (fun hs_ => hs_.1.1) (fun hn_ => (.inr (Nat.le_trans (below_size zs) hn_))), Or.elim hk_ (fun hs_ => hs_.1.2) (fun hn_ => (zj BK300 k_ hn_)), Or.elim hk_ (fun hs_ => hs_.2) (fun hn_ => (zj BK301 k_ hn_))⟩)) (below_size zs)); replace BK300 := zb BK300 hb; replace BK301 := zb BK301 hb; replace HB := zf hb; (try clear ho0); obtain ⟨hcz27_0, hcz27_1, hcz27_2, hfz27_0, hfz27_1, hfz27_2⟩ := zc BK300; obtain ⟨Ao28, co28, eo28⟩ := V_slice HO305.out; subst eo28) | ((with_reducible refine zG 84 rfl ?_); refine zL (some 14) rfl rfl Tryd.func84 #[.slice Ao28 t303.length co28] rfl ?_; (with_reducible refine (limbs_Len.calls k _ _ t303 t307 _ ?side1 ?side2 A5.out).mono ?_); (case side1 => refine (V_reads' (e := 43) (base := w.heap.size) (ok := fun k_ => ((P0_1_ k_ ∨ w.heap.size ≤ k_) ∧ (k_ ≠ gb300 ∧ k_ ≠ gb301))) (n := t303.length) (c := co28) ?_).2.2; exact (vu (V_mono (zv gb300 (V_mono HO305.out (fun k_ hk => (⟨hk, hk.2.1⟩ : _ ∧ k_ ≠ gb300))) (fun _ hk => hk.2) _ _ _) (fun _ h_ => h_.1)))); (case side2 => exact (V_reads' HO305.out).2.1); rintro e w29 ⟨rfl, hb⟩; refine ⟨_, rfl, ?_⟩; replace HO0_1 := zA (V_below (vu (V_mono (zv gb300 (V_mono HO0_1.out (fun k_ hk => (⟨hk, hk.1.2⟩ : _ ∧ k_ ≠ gb300))) (fun _ hk => hk.2) _ _ _) (fun _ h_ => h_.1))) hb); replace HO305 := zA (V_below (vu (V_mono (zv gb300 (V_mono HO305.out (fun k_ hk => (⟨hk, hk.2.1⟩ : _ ∧ k_ ≠ gb300))) (fun _ hk => hk.2) _ _ _) (fun _ h_ => h_.1))) hb); replace BK300 := zt BK300 hb; replace BK301 := zF BK301 hb; replace HB := zf hb; (try clear hk); obtain ⟨hcz30_0, hcz30_1, hcz30_2, hfz30_0, hfz30_1, hfz30_2⟩ := zc BK300) | ((with_reducible refine zG 116 rfl ?_); refine zL (some 24) rfl rfl Tryd.func116 #[.slice Ao28 t303.length co28, .int .i64 (wrap64 (t307 - a1))] rfl ?_; (with_reducible refine (limbs_Shr.calls k (fun k_ => ((P0_1_ k_ ∨ w.heap.size ≤ k_) ∧ (k_ ≠ gb300 ∧ k_ ≠ gb301))) _ _ t303 (wrap64 (t307 - a1)) t308 t311 _ ?side1 (laid_below hT zs) A17.out).mono ?_); (case side1 => exact HO305.out); rintro e w31 ⟨v309, rfl, ho0, hb⟩; refine ⟨_, rfl, ?_⟩; replace HO0_1 := zA (V_below (vu HO0_1.out) hb); replace HO305 := zA (V_below (vu HO305.out) hb); have HO310 := zA (V_lower (V_mono (ok' := fun k_ => (P0_1_ k_ ∨ w.heap.size ≤ k_) ∧ k_ ≠ gb300 ∧ k_ ≠ gb301) ho0 (fun k_ hk_ => ⟨Or.elim hk_ (fun hs_ => hs_.1) (fun hn_ => (.inr (Nat.le_trans (below_size zs) hn_))), Or.elim hk_ (fun hs_ => hs_.2.1) (fun hn_ => (zj BK300 k_ hn_)), Or.elim hk_ (fun hs_ => hs_.2.2) (fun hn_ => (zj BK301 k_ hn_))⟩)) (below_size zs)); replace BK300 := zb BK300 hb; replace BK301 := zb BK301 hb; replace HB := zf hb; (try clear ho0); obtain ⟨hcz32_0, hcz32_1, hcz32_2, hfz32_0, hfz32_1, hfz32_2⟩ := zc BK300) | ((with_reducible refine zG 117 rfl ?_); refine zL (some 32) rfl rfl Tryd.func117 #[.int .u64 1] rfl ?_; (with_reducible refine (limbs_Of.calls 1 t312 _ A19.out).mono ?_); rintro e w33 ⟨v313, rfl, ho0, hb⟩; refine ⟨_, rfl, ?_⟩; replace HO0_1 := zA (V_elder' (vu HO0_1.out) (R_base ho0) hb); replace HO305 := zA (V_elder' (vu HO305.out) (R_base ho0) hb); replace HO310 := zA (V_elder' (vu HO310.out) (R_base ho0) hb); have HO314 := zA (R_lower (R_newM (M := fun k_ => (w.heap.size ≤ k_)) ho0 (below_size zs) (fun k_ h_ => h_)) (below_size zs)); replace BK300 := zb BK300 hb; replace BK301 := zb BK301 hb; replace HB := zf hb; (try clear ho0); obtain ⟨Ao34, co34, eo34⟩ := V_slice HO310.out; subst eo34; obtain ⟨Ao35, co35, eo35⟩ := R_slice HO314.out; subst eo35) | ((with_reducible refine zG 113 rfl ?_); refine zL (some 33) rfl rfl Tryd.func113 #[.slice Ao34 t308.length co34, .slice Ao35 t312.length co35] rfl ?_; (with_reducible refine (limbs_Add.calls k _ _ t308 _ _ t312 t315 _ ?side1 ?side2 ?side3 ?side4 A20.out).mono ?_); (case side1 => exact zk (V_reads' HO310.out).2.2); (case side2 => exact (V_reads' HO310.out).2.1); (case side3 => exact zk (R_reads' HO314.out).2.2); (case side4 => exact (R_reads' HO314.out).2.1); rintro e w36 ⟨v316, rfl, ho0, hb⟩; refine ⟨_, rfl, ?_⟩; replace HO0_1 := zA (V_below (vu HO0_1.out) hb); replace HO305 := zA (V_below (vu HO305.out) hb); replace HO310 := zA (V_below (vu HO310.out) hb); have HO317 := zA (V_lower (V_mono (ok' := fun k_ => (P0_1_ k_ ∨ w.heap.size ≤ k_) ∧ some k_ ≠ (.slice Ao35 t312.length co35 : Value).ownBlock ∧ k_ ≠ gb300 ∧ k_ ≠ gb301) ho0 (fun k_ hk_ => ⟨(.inr (Nat.le_trans (below_size zs) hk_)), (Kd.fresh' (R_lt (ru HO314.out)) k_ hk_), (zj BK300 k_ hk_), (zj BK301 k_ hk_)⟩)) (below_size zs)); replace HO314 := zA (R_below (ru HO314.out) hb); replace BK300 := zb BK300 hb; replace BK301 := zb BK301 hb; replace HB := zf hb; (try clear ho0); obtain ⟨hcz37_0, hcz37_1, hcz37_2, hfz37_0, hfz37_1, hfz37_2⟩ := zc BK300; obtain ⟨Ao38, co38, eo38⟩ := V_slice HO317.out; subst eo38) | ((with_reducible refine zG 91 rfl ?_); refine zL (some 41) rfl rfl Tryd.func91 #[.bool t302, .slice Ao38 t315.length co38, .int .i64 (wrap64 (t306 + (wrap64 (t307 - a1))))] rfl ?_; (with_reducible refine (raw_Form.calls k t302 (fun k_ => ((P0_1_ k_ ∨ w.heap.size ≤ k_) ∧ (some k_ ≠ (.slice Ao35 t312.length co35 : Value).ownBlock ∧ (k_ ≠ gb300 ∧ k_ ≠ gb301)))) _ _ t315 (wrap64 (t306 + (wrap64 (t307 - a1)))) t318 t319 t322 _ ?side1 (laid_below hT zs) A21.out).mono ?_); (case side1 => exact HO317.out); rintro e w39 ⟨v320, rfl, ho0, hb⟩; refine ⟨_, rfl, ?_⟩; replace HO0_1 := zA (V_below (vu HO0_1.out) hb); replace HO305 := zA (V_below (vu HO305.out) hb); replace HO310 := zA (V_below (vu HO310.out) hb); replace HO317 := zA (V_below (vu HO317.out) hb); have HO321 := zA (V_lower (V_mono (ok' := fun k_ => (P0_1_ k_ ∨ w.heap.size ≤ k_) ∧ some k_ ≠ (.slice Ao35 t312.length co35 : Value).ownBlock ∧ k_ ≠ gb300 ∧ k_ ≠ gb301) ho0 (fun k_ hk_ => ⟨Or.elim hk_ (fun hs_ => hs_.1) (fun hn_ => (.inr (Nat.le_trans (below_size zs) hn_))), Or.elim hk_ (fun hs_ => hs_.2.1) (fun hn_ => (Kd.fresh' (R_lt (ru HO314.out)) k_ hn_)), Or.elim hk_ (fun hs_ => hs_.2.2.1) (fun hn_ => (zj BK300 k_ hn_)), Or.elim hk_ (fun hs_ => hs_.2.2.2) (fun hn_ => (zj BK301 k_ hn_))⟩)) (below_size zs)); replace HO314 := zA (R_below (ru HO314.out) hb); replace BK300 := zb BK300 hb; replace BK301 := zb BK301 hb; replace HB := zf hb; (try clear ho0); obtain ⟨hcz40_0, hcz40_1, hcz40_2, hfz40_0, hfz40_1, hfz40_2⟩ := zc BK301; obtain ⟨Ao41, co41, eo41⟩ := V_slice HO321.out; subst eo41))
  refine bodyPost_ret (results_cell_row rfl _ _ gb301 25 #[.bool t318, .slice Ao41 t319.length co41, .int .i64 t322] (0, 0) _ rfl (zy BK301) Tryd.underlying25 rfl (by kernel_rfl)) rfl ?_
  exact ⟨_, er, vu (V_mono (zv gb301 (V_mono HO321.out (fun k_ hk => (⟨hk, hk.2.2.2⟩ : _ ∧ k_ ≠ gb301))) (fun _ hk => hk.2) _ _ _) (fun _ hk => hk.1.1)), zs⟩
 rw [if_neg c18] at H
 have c18b0 : (a2 != t302) = false := by simpa using c18
 (try (have c18b1 : decide (a2 = t302) = true := by simpa using c18))
 (try (have c18b2 : (a2 == t302) = true := by simpa using c18))
 clear c18
 obtain ⟨⟨t323, t324, t327⟩, A42, H⟩ := zh H
 (try dsimp only at H)
 simp only [Option.some.injEq, Prod.mk.injEq] at H
 obtain ⟨rfl, rfl, rfl⟩ := H
 go_enter Tryd.func64, Tryd.ntmps64
 go_wp2_with (first | ((with_reducible refine zD 3 rfl ?_); refine zn (N := 3) (cs := #[.bool a0_0, .slice A0_1 l0_1.length c0_1, .int .i64 a0_2]) (t := 25) rfl rfl ?_; intro gb300 hg w43 hbox hb; replace HO0_1 := zA (V_below (V_elderB (vu HO0_1.out) gb300 (Nat.le_of_eq hg.symm)) hb); have BK300 := zA (hbox); have GW300 := zw hg; replace HB := ze hb; clear hb hbox hg) | ((with_reducible refine zD 6 rfl ?_); refine zn (N := 6) (cs := #[.bool false, .slice none 0 0, .int .i64 0]) (t := 25) rfl rfl ?_; intro gb301 hg w44 hbox hb; replace HO0_1 := zA (V_below (V_elderB (vu HO0_1.out) gb301 (Nat.le_of_eq hg.symm)) hb); have BK301 := zA (hbox); have GW301 := zx hg; replace HB := zf hb; have NB300_301 := zl BK300 hg; have NB301_300 := zg BK300 hg; replace BK300 := zb BK300 hb; clear hb hbox hg; have hnb45 := NB300_301.out; have hnc45 := NB301_300.out; obtain ⟨_, _, _, _, _, _⟩ := zc BK300) | ((with_reducible refine zG 95 rfl ?_); refine zL (some 11) rfl rfl Tryd.func95 #[.agg #[.bool a0_0, .slice A0_1 l0_1.length c0_1, .int .i64 a0_2]] rfl ?_; (with_reducible refine (raw_One.calls k a0_0 (fun k_ => (((P0_1_ k_ ∨ w.heap.size ≤ k_) ∧ k_ ≠ gb300) ∧ k_ ≠ gb301)) _ _ l0_1 a0_2 t302 t303 t306 _ ?side1 (laid_below hT zs) A4.out).mono ?_); (case side1 => exact HO0_1.out); rintro e w47 ⟨v304, rfl, ho0, hb⟩; refine ⟨_, rfl, ?_⟩; replace HO0_1 := zA (V_below (vu HO0_1.out) hb); have HO305 := zA (V_lower (V_mono (ok' := fun k_ => (P0_1_ k_ ∨ w.heap.size ≤ k_) ∧ k_ ≠ gb300 ∧ k_ ≠ gb301) ho0 (fun k_ hk_ => ⟨Or.elim hk_ (fun hs_ => hs_.1.1) (fun hn_ => (.inr (Nat.le_trans (below_size zs) hn_))), Or.elim hk_ (fun hs_ => hs_.1.2) (fun hn_ => (zj BK300 k_ hn_)), Or.elim hk_ (fun hs_ => hs_.2) (fun hn_ => (zj BK301 k_ hn_))⟩)) (below_size zs)); replace BK300 := zb BK300 hb; replace BK301 := zb BK301 hb; replace HB := zf hb; (try clear ho0); obtain ⟨hcz48_0, hcz48_1, hcz48_2, hfz48_0, hfz48_1, hfz48_2⟩ := zc BK300; obtain ⟨Ao49, co49, eo49⟩ := V_slice HO305.out; subst eo49) | ((with_reducible refine zG 84 rfl ?_); refine zL (some 14) rfl rfl Tryd.func84 #[.slice Ao49 t303.length co49] rfl ?_; (with_reducible refine (limbs_Len.calls k _ _ t303 t307 _ ?side1 ?side2 A5.out).mono ?_); (case side1 => refine (V_reads' (e := 43) (base := w.heap.size) (ok := fun k_ => ((P0_1_ k_ ∨ w.heap.size ≤ k_) ∧ (k_ ≠ gb300 ∧ k_ ≠ gb301))) (n := t303.length) (c := co49) ?_).2.2; exact (vu (V_mono (zv gb300 (V_mono HO305.out (fun k_ hk => (⟨hk, hk.2.1⟩ : _ ∧ k_ ≠ gb300))) (fun _ hk => hk.2) _ _ _) (fun _ h_ => h_.1)))); (case side2 => exact (V_reads' HO305.out).2.1); rintro e w50 ⟨rfl, hb⟩; refine ⟨_, rfl, ?_⟩; replace HO0_1 := zA (V_below (vu (V_mono (zv gb300 (V_mono HO0_1.out (fun k_ hk => (⟨hk, hk.1.2⟩ : _ ∧ k_ ≠ gb300))) (fun _ hk => hk.2) _ _ _) (fun _ h_ => h_.1))) hb); replace HO305 := zA (V_below (vu (V_mono (zv gb300 (V_mono HO305.out (fun k_ hk => (⟨hk, hk.2.1⟩ : _ ∧ k_ ≠ gb300))) (fun _ hk => hk.2) _ _ _) (fun _ h_ => h_.1))) hb); replace BK300 := zt BK300 hb; replace BK301 := zF BK301 hb; replace HB := zf hb; (try clear hk); obtain ⟨hcz51_0, hcz51_1, hcz51_2, hfz51_0, hfz51_1, hfz51_2⟩ := zc BK300) | ((with_reducible refine zG 116 rfl ?_); refine zL (some 24) rfl rfl Tryd.func116 #[.slice Ao49 t303.length co49, .int .i64 (wrap64 (t307 - a1))] rfl ?_; (with_reducible refine (limbs_Shr.calls k (fun k_ => ((P0_1_ k_ ∨ w.heap.size ≤ k_) ∧ (k_ ≠ gb300 ∧ k_ ≠ gb301))) _ _ t303 (wrap64 (t307 - a1)) t308 t311 _ ?side1 (laid_below hT zs) A17.out).mono ?_); (case side1 => exact HO305.out); rintro e w52 ⟨v309, rfl, ho0, hb⟩; refine ⟨_, rfl, ?_⟩; replace HO0_1 := zA (V_below (vu HO0_1.out) hb); replace HO305 := zA (V_below (vu HO305.out) hb); have HO310 := zA (V_lower (V_mono (ok' := fun k_ => (P0_1_ k_ ∨ w.heap.size ≤ k_) ∧ k_ ≠ gb300 ∧ k_ ≠ gb301) ho0 (fun k_ hk_ => ⟨Or.elim hk_ (fun hs_ => hs_.1) (fun hn_ => (.inr (Nat.le_trans (below_size zs) hn_))), Or.elim hk_ (fun hs_ => hs_.2.1) (fun hn_ => (zj BK300 k_ hn_)), Or.elim hk_ (fun hs_ => hs_.2.2) (fun hn_ => (zj BK301 k_ hn_))⟩)) (below_size zs)); replace BK300 := zb BK300 hb; replace BK301 := zb BK301 hb; replace HB := zf hb; (try clear ho0); obtain ⟨hcz53_0, hcz53_1, hcz53_2, hfz53_0, hfz53_1, hfz53_2⟩ := zc BK300; obtain ⟨Ao54, co54, eo54⟩ := V_slice HO310.out; subst eo54) | ((with_reducible refine zG 91 rfl ?_); refine zL (some 41) rfl rfl Tryd.func91 #[.bool t302, .slice Ao54 t308.length co54, .int .i64 (wrap64 (t306 + (wrap64 (t307 - a1))))] rfl ?_; (with_reducible refine (raw_Form.calls k t302 (fun k_ => ((P0_1_ k_ ∨ w.heap.size ≤ k_) ∧ (k_ ≠ gb300 ∧ k_ ≠ gb301))) _ _ t308 (wrap64 (t306 + (wrap64 (t307 - a1)))) t323 t324 t327 _ ?side1 (laid_below hT zs) A42.out).mono ?_); (case side1 => exact HO310.out); rintro e w55 ⟨v325, rfl, ho0, hb⟩; refine ⟨_, rfl, ?_⟩; replace HO0_1 := zA (V_below (vu HO0_1.out) hb); replace HO305 := zA (V_below (vu HO305.out) hb); replace HO310 := zA (V_below (vu HO310.out) hb); have HO326 := zA (V_lower (V_mono (ok' := fun k_ => (P0_1_ k_ ∨ w.heap.size ≤ k_) ∧ k_ ≠ gb300 ∧ k_ ≠ gb301) ho0 (fun k_ hk_ => ⟨Or.elim hk_ (fun hs_ => hs_.1) (fun hn_ => (.inr (Nat.le_trans (below_size zs) hn_))), Or.elim hk_ (fun hs_ => hs_.2.1) (fun hn_ => (zj BK300 k_ hn_)), Or.elim hk_ (fun hs_ => hs_.2.2) (fun hn_ => (zj BK301 k_ hn_))⟩)) (below_size zs)); replace BK300 := zb BK300 hb; replace BK301 := zb BK301 hb; replace HB := zf hb; (try clear ho0); obtain ⟨hcz56_0, hcz56_1, hcz56_2, hfz56_0, hfz56_1, hfz56_2⟩ := zc BK301; obtain ⟨Ao57, co57, eo57⟩ := V_slice HO326.out; subst eo57))
 refine bodyPost_ret (results_cell_row rfl _ _ gb301 25 #[.bool t323, .slice Ao57 t324.length co57, .int .i64 t327] (0, 0) _ rfl (zy BK301) Tryd.underlying25 rfl (by kernel_rfl)) rfl ?_
 exact ⟨_, er, vu (V_mono (zv gb301 (V_mono HO326.out (fun k_ hk => (⟨hk, hk.2.2⟩ : _ ∧ k_ ≠ gb301))) (fun _ hk => hk.2) _ _ _) (fun _ hk => hk.1.1)), zs⟩
end Go.Proofs.YtemfckibdojbbaaDoor.PAll
