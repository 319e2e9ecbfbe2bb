-- written by a program of this session (a changed print)
import Derived.Test.YtcigeggdapjijaaPAllx0
import Derived.Test.YtcigeggdapjijaaPAllx2
import Derived.Test.YtcigeggdapjijaaPAllx3
import Derived.Test.YtcigeggdapjijaaPAllx5
namespace Go.Proofs.Ytcigeggdapjijaa.PAll
open Go.RowKit Go.Proofs.YtcigeggdapjijaaW.PrintWords Go.Proofs.YtcigeggdapjijaaW.PrintLast Go.Proofs.YtcigeggdapjijaaW.PrintMore
attribute [local go_sem] max2_int min2_int max_two min_two max_three min_three max_four min_four   -- for this text's walks alone
set_option linter.unusedVariables false
set_option linter.unusedSimpArgs false

attribute [local go_sem] fld37_0 fld37_1 fld37_2
/-! ### ulplaw01_BitsWhole: function 6 -/
def ulplaw01_BitsWhole.j0 : Nat → Int → Int → Int → Bool → Option (Bool)
  | 0, _, _, _, _ => none
  | k + 1, x0, x3, x4, x23 => if x23 = true then (some false) else (if x4 = 0 then (if x3 ≥ 0 then ((bits_Whole.f x0).bind fun t208 => (if t208 = true then (if x3 > 0 then ((bits_Odd.f x0).bind fun t209 => (if t209 = true then (some false) else ((bits_Odd.f x0).bind fun t210 => (if t210 = true then ((bits_Whole.f x0).bind fun t211 => (if t211 = true then ((bits_Whole.f x0).bind fun t212 => ((bits_Neg.f x0).bind fun t213 => ((bits_Whole.f t213).bind fun t214 => (if (t212 != t214) = true then (some false) else ((bits_Odd.f x0).bind fun t215 => ((bits_Neg.f x0).bind fun t216 => ((bits_Odd.f t216).bind fun t217 => (if (t215 != t217) = true then (some false) else (if x3 = 0 then ((bits_Odd.f x0).bind fun t218 => (some (t218 == ((Int.tmod x0 2) == 1)))) else (some true)))))))))) else (some false))) else ((bits_Whole.f x0).bind fun t219 => ((bits_Neg.f x0).bind fun t220 => ((bits_Whole.f t220).bind fun t221 => (if (t219 != t221) = true then (some false) else ((bits_Odd.f x0).bind fun t222 => ((bits_Neg.f x0).bind fun t223 => ((bits_Odd.f t223).bind fun t224 => (if (t222 != t224) = true then (some false) else (if x3 = 0 then ((bits_Odd.f x0).bind fun t225 => (some (t225 == ((Int.tmod x0 2) == 1)))) else (some true)))))))))))))) else ((bits_Odd.f x0).bind fun t226 => (if t226 = true then ((bits_Whole.f x0).bind fun t227 => (if t227 = true then ((bits_Whole.f x0).bind fun t228 => ((bits_Neg.f x0).bind fun t229 => ((bits_Whole.f t229).bind fun t230 => (if (t228 != t230) = true then (some false) else ((bits_Odd.f x0).bind fun t231 => ((bits_Neg.f x0).bind fun t232 => ((bits_Odd.f t232).bind fun t233 => (if (t231 != t233) = true then (some false) else (if x3 = 0 then ((bits_Odd.f x0).bind fun t234 => (some (t234 == ((Int.tmod x0 2) == 1)))) else (some true)))))))))) else (some false))) else ((bits_Whole.f x0).bind fun t235 => ((bits_Neg.f x0).bind fun t236 => ((bits_Whole.f t236).bind fun t237 => (if (t235 != t237) = true then (some false) else ((bits_Odd.f x0).bind fun t238 => ((bits_Neg.f x0).bind fun t239 => ((bits_Odd.f t239).bind fun t240 => (if (t238 != t240) = true then (some false) else (if x3 = 0 then ((bits_Odd.f x0).bind fun t241 => (some (t241 == ((Int.tmod x0 2) == 1)))) else (some true))))))))))))) else (some false))) else (if x3 > 0 then ((bits_Odd.f x0).bind fun t242 => (if t242 = true then (some false) else ((bits_Odd.f x0).bind fun t243 => (if t243 = true then ((bits_Whole.f x0).bind fun t244 => (if t244 = true then ((bits_Whole.f x0).bind fun t245 => ((bits_Neg.f x0).bind fun t246 => ((bits_Whole.f t246).bind fun t247 => (if (t245 != t247) = true then (some false) else ((bits_Odd.f x0).bind fun t248 => ((bits_Neg.f x0).bind fun t249 => ((bits_Odd.f t249).bind fun t250 => (if (t248 != t250) = true then (some false) else (if x3 = 0 then ((bits_Odd.f x0).bind fun t251 => (some (t251 == ((Int.tmod x0 2) == 1)))) else (some true)))))))))) else (some false))) else ((bits_Whole.f x0).bind fun t252 => ((bits_Neg.f x0).bind fun t253 => ((bits_Whole.f t253).bind fun t254 => (if (t252 != t254) = true then (some false) else ((bits_Odd.f x0).bind fun t255 => ((bits_Neg.f x0).bind fun t256 => ((bits_Odd.f t256).bind fun t257 => (if (t255 != t257) = true then (some false) else (if x3 = 0 then ((bits_Odd.f x0).bind fun t258 => (some (t258 == ((Int.tmod x0 2) == 1)))) else (some true)))))))))))))) else ((bits_Odd.f x0).bind fun t259 => (if t259 = true then ((bits_Whole.f x0).bind fun t260 => (if t260 = true then ((bits_Whole.f x0).bind fun t261 => ((bits_Neg.f x0).bind fun t262 => ((bits_Whole.f t262).bind fun t263 => (if (t261 != t263) = true then (some false) else ((bits_Odd.f x0).bind fun t264 => ((bits_Neg.f x0).bind fun t265 => ((bits_Odd.f t265).bind fun t266 => (if (t264 != t266) = true then (some false) else (if x3 = 0 then ((bits_Odd.f x0).bind fun t267 => (some (t267 == ((Int.tmod x0 2) == 1)))) else (some true)))))))))) else (some false))) else ((bits_Whole.f x0).bind fun t268 => ((bits_Neg.f x0).bind fun t269 => ((bits_Whole.f t269).bind fun t270 => (if (t268 != t270) = true then (some false) else ((bits_Odd.f x0).bind fun t271 => ((bits_Neg.f x0).bind fun t272 => ((bits_Odd.f t272).bind fun t273 => (if (t271 != t273) = true then (some false) else (if x3 = 0 then ((bits_Odd.f x0).bind fun t274 => (some (t274 == ((Int.tmod x0 2) == 1)))) else (some true)))))))))))))) else ((bits_Whole.f x0).bind fun t206 => (if t206 = true then (some false) else ((bits_Odd.f x0).bind fun t207 => (some (!t207))))))
def ulplaw01_BitsWhole.f (k : Nat) (a0 : Int) : Option (Bool) := (bits_Last.f a0).bind fun bt201 => ((ulplaw01_lives.f k).bind fun t203 => (if t203 = true then ((ulplaw01_isNumber.f k a0).bind fun t204 => (if t204 = true then ((bits_Class.f k a0).bind fun t205 => (ulplaw01_BitsWhole.j0 k a0 bt201.1 bt201.2 ((bt201.2 == 0) != (t205 != 4)))) else (ulplaw01_BitsWhole.j0 k a0 bt201.1 bt201.2 ((bt201.2 == 0) != false)))) else (ulplaw01_BitsWhole.j0 k a0 bt201.1 bt201.2 true)))
theorem ulplaw01_BitsWhole.mono_l : ∀ k, (∀ y0 y1 y2 y3, LeO (ulplaw01_BitsWhole.j0 k y0 y1 y2 y3) (ulplaw01_BitsWhole.j0 (k + 1) y0 y1 y2 y3))
  | 0 => fun _ _ _ _ r h => by simp [ulplaw01_BitsWhole.j0] at h
  | k + 1 => by
    have ih0 := ulplaw01_BitsWhole.mono_l k
    · intro y0 y1 y2 y3
      unfold ulplaw01_BitsWhole.j0
      repeat' first
      | (with_reducible exact ih0 _ _ _ _)
      | (with_reducible exact bits_Class.mono _ _)
      | (with_reducible exact ulplaw01_isNumber.mono _ _)
      | (with_reducible exact ulplaw01_lives.mono _)
      | (with_reducible exact LeO.refl _)
      | (with_reducible exact LeO.none _)
      | (with_reducible refine LeO.ite ?_ ?_)
      | (with_reducible refine LeO.bind ?_ (fun _ => ?_))
      | exact ih0 _ _ _ _
      | exact bits_Class.mono _ _
      | exact ulplaw01_isNumber.mono _ _
      | exact ulplaw01_lives.mono _
      | exact LeO.none _
      | refine LeO.ite ?_ ?_
      | refine LeO.bind ?_ (fun _ => ?_)
theorem ulplaw01_BitsWhole.mono : ∀ a0 k, LeO (ulplaw01_BitsWhole.f k a0) (ulplaw01_BitsWhole.f (k + 1) a0) := by
  intro a0 k
  have ih0 := ulplaw01_BitsWhole.mono_l k
  unfold ulplaw01_BitsWhole.f
  repeat' first
      | (with_reducible exact ih0 _ _ _ _)
      | (with_reducible exact bits_Class.mono _ _)
      | (with_reducible exact ulplaw01_isNumber.mono _ _)
      | (with_reducible exact ulplaw01_lives.mono _)
      | (with_reducible exact LeO.refl _)
      | (with_reducible exact LeO.none _)
      | (with_reducible refine LeO.ite ?_ ?_)
      | (with_reducible refine LeO.bind ?_ (fun _ => ?_))
      | exact ih0 _ _ _ _
      | exact bits_Class.mono _ _
      | exact ulplaw01_isNumber.mono _ _
      | exact ulplaw01_lives.mono _
      | exact LeO.none _
      | refine LeO.ite ?_ ?_
      | refine LeO.bind ?_ (fun _ => ?_)
set_option maxHeartbeats 8000000 in
set_option maxRecDepth 100000 in
theorem ulplaw01_BitsWhole.calls (k : Nat) (a0 : Int) (r : Bool) (w : World) (h : ulplaw01_BitsWhole.f k a0 = some r) :
    Calls Try.prog 6 #[.int .u64 a0] w fun e w' => e = .returned (.bool r) ∧ Below w.heap.size w w' := by
  have HB := Aside0.mk (Below.refl w.heap.size w)
  have H : ((bits_Last.f a0).bind fun bt201 => ((ulplaw01_lives.f k).bind fun t203 => (if t203 = true then ((ulplaw01_isNumber.f k a0).bind fun t204 => (if t204 = true then ((bits_Class.f k a0).bind fun t205 => (ulplaw01_BitsWhole.j0 k a0 bt201.1 bt201.2 ((bt201.2 == 0) != (t205 != 4)))) else (ulplaw01_BitsWhole.j0 k a0 bt201.1 bt201.2 ((bt201.2 == 0) != false)))) else (ulplaw01_BitsWhole.j0 k a0 bt201.1 bt201.2 true)))) = some r := h
  clear h
  replace H := Option.bind_eq_some_iff.mp H
  obtain ⟨⟨t201, t202⟩, A20, H⟩ := H
  replace H : ((ulplaw01_lives.f k).bind fun t203 => (if t203 = true then ((ulplaw01_isNumber.f k a0).bind fun t204 => (if t204 = true then ((bits_Class.f k a0).bind fun t205 => (ulplaw01_BitsWhole.j0 k a0 t201 t202 ((t202 == 0) != (t205 != 4)))) else (ulplaw01_BitsWhole.j0 k a0 t201 t202 ((t202 == 0) != false)))) else (ulplaw01_BitsWhole.j0 k a0 t201 t202 true))) = some r := H
  have A2 := Aside0.mk A20
  clear A20
  have HC3 := Aside0.mk H
  clear H
  go_enter Try.func6, Try.ntmps6
  go_upto_region 2 with (first | ((with_reducible refine gate_callee (f := 15) rfl ?_); refine goesL_ (some 7) rfl rfl Try.func15 (by kernel_rfl) rfl #[.int .u64 a0] rfl (by (try simp only [List.map_toArray, List.map_cons, List.map_nil]); first | done | rfl | (simp only [List.length_drop, List.length_take]; rfl)) ?_; (with_reducible refine (bits_Last.calls a0 t201 t202 _ A2.out).mono ?_); rintro e w4 ⟨rfl, hb⟩; refine ⟨_, rfl, ?_⟩; have n0_ := Aside0.mk (below_step (by repeat (first | (with_reducible first | exact HB.out | apply below_alloc | apply pw_below_drewN | apply below_drew1) | exact HB.out)) hb); clear HB; have HB := n0_; clear n0_; (try clear hb); (try clear hb2); (try clear hk); (try clear hi)))
  (try simp only [Act.put, List.setIfInBounds_toArray, List.set_cons_zero, List.set_cons_succ])
  go_cut [23] (fun v23 wc => ∃ (kq : Nat) (x23_2 : Bool), v23 = .bool x23_2 ∧ Aside0 (ulplaw01_BitsWhole.j0 kq a0 t201 t202 x23_2 = some r) ∧ Aside0 (kq ≤ k) ∧ Aside0 (Below w.heap.size w wc))
  case first =>
    have H := HC3.out
    clear HC3
    replace H := Option.bind_eq_some_iff.mp H
    obtain ⟨t203, A50, H⟩ := H
    replace H : (if t203 = true then ((ulplaw01_isNumber.f k a0).bind fun t204 => (if t204 = true then ((bits_Class.f k a0).bind fun t205 => (ulplaw01_BitsWhole.j0 k a0 t201 t202 ((t202 == 0) != (t205 != 4)))) else (ulplaw01_BitsWhole.j0 k a0 t201 t202 ((t202 == 0) != false)))) else (ulplaw01_BitsWhole.j0 k a0 t201 t202 true)) = some r := H
    have A5 := Aside0.mk A50
    clear A50
    by_cases c6 : t203 = true
    · subst c6
      have H1 : ((ulplaw01_isNumber.f k a0).bind fun t204 => (if t204 = true then ((bits_Class.f k a0).bind fun t205 => (ulplaw01_BitsWhole.j0 k a0 t201 t202 ((t202 == 0) != (t205 != 4)))) else (ulplaw01_BitsWhole.j0 k a0 t201 t202 ((t202 == 0) != false)))) = some r := by rw [if_pos rfl] at H; exact H
      clear H
      have H := H1
      clear H1
      replace H := Option.bind_eq_some_iff.mp H
      obtain ⟨t204, A70, H⟩ := H
      replace H : (if t204 = true then ((bits_Class.f k a0).bind fun t205 => (ulplaw01_BitsWhole.j0 k a0 t201 t202 ((t202 == 0) != (t205 != 4)))) else (ulplaw01_BitsWhole.j0 k a0 t201 t202 ((t202 == 0) != false))) = some r := H
      have A7 := Aside0.mk A70
      clear A70
      by_cases c8 : t204 = true
      · subst c8
        have H1 : ((bits_Class.f k a0).bind fun t205 => (ulplaw01_BitsWhole.j0 k a0 t201 t202 ((t202 == 0) != (t205 != 4)))) = some r := by rw [if_pos rfl] at H; exact H
        clear H
        have H := H1
        clear H1
        replace H := Option.bind_eq_some_iff.mp H
        obtain ⟨t205, A90, H⟩ := H
        replace H : (ulplaw01_BitsWhole.j0 k a0 t201 t202 ((t202 == 0) != (t205 != 4))) = some r := H
        have A9 := Aside0.mk A90
        clear A90
        have H' := Aside0.mk H
        clear H
        go_wp2_with (first | ((with_reducible refine gate_callee (f := 12) rfl ?_); refine goesL_ (some 10) rfl rfl Try.func12 (by kernel_rfl) rfl #[] rfl (by (try simp only [List.map_toArray, List.map_cons, List.map_nil]); first | done | rfl | (simp only [List.length_drop, List.length_take]; rfl)) ?_; (with_reducible refine (ulplaw01_lives.calls k  true _ A5.out).mono ?_); rintro e w10 ⟨rfl, hb⟩; refine ⟨_, rfl, ?_⟩; have n0_ := Aside0.mk (below_step (by repeat (first | (with_reducible first | exact HB.out | apply below_alloc | apply pw_below_drewN | apply below_drew1) | exact HB.out)) hb); clear HB; have HB := n0_; clear n0_; (try clear hb); (try clear hb2); (try clear hk); (try clear hi)) | (go_at_call 13; (with_reducible refine (ulplaw01_isNumber.calls k a0 true _ A7.out).mono ?_); rintro e w11 ⟨rfl, hb⟩; have n0_ := Aside0.mk (below_step (by repeat (first | (with_reducible first | exact HB.out | apply below_alloc | apply pw_below_drewN | apply below_drew1) | exact HB.out)) hb); clear HB; have HB := n0_; clear n0_; (try clear hb); (try clear hb2); (try clear hk); (try clear hi)) | (go_at_call 25; (with_reducible refine (bits_Class.calls k a0 t205 _ A9.out).mono ?_); rintro e w12 ⟨rfl, hb⟩; have n0_ := Aside0.mk (below_step (by repeat (first | (with_reducible first | exact HB.out | apply below_alloc | apply pw_below_drewN | apply below_drew1) | exact HB.out)) hb); clear HB; have HB := n0_; clear n0_; (try clear hb); (try clear hb2); (try clear hk); (try clear hi)))
        go_meet
        case rel => exact ⟨_, (((t202 == 0) != (t205 != 4))), (by first | rfl | (simp; done) | (simp [*]; done)), H', ⟨by first | omega | exact Nat.le_refl _⟩, ⟨by repeat (first | (with_reducible first | exact HB.out | apply below_alloc | apply pw_below_drewN | apply below_drew1) | exact HB.out)⟩⟩
      · replace c8 := Bool.eq_false_iff.mpr c8
        subst c8
        have H1 : (ulplaw01_BitsWhole.j0 k a0 t201 t202 ((t202 == 0) != false)) = some r := by rw [if_neg (show ¬ (false = true) by decide)] at H; exact H
        clear H
        have H := H1
        clear H1
        have H' := Aside0.mk H
        clear H
        go_wp2_with (first | ((with_reducible refine gate_callee (f := 12) rfl ?_); refine goesL_ (some 10) rfl rfl Try.func12 (by kernel_rfl) rfl #[] rfl (by (try simp only [List.map_toArray, List.map_cons, List.map_nil]); first | done | rfl | (simp only [List.length_drop, List.length_take]; rfl)) ?_; (with_reducible refine (ulplaw01_lives.calls k  true _ A5.out).mono ?_); rintro e w13 ⟨rfl, hb⟩; refine ⟨_, rfl, ?_⟩; have n0_ := Aside0.mk (below_step (by repeat (first | (with_reducible first | exact HB.out | apply below_alloc | apply pw_below_drewN | apply below_drew1) | exact HB.out)) hb); clear HB; have HB := n0_; clear n0_; (try clear hb); (try clear hb2); (try clear hk); (try clear hi)) | (go_at_call 13; (with_reducible refine (ulplaw01_isNumber.calls k a0 false _ A7.out).mono ?_); rintro e w14 ⟨rfl, hb⟩; have n0_ := Aside0.mk (below_step (by repeat (first | (with_reducible first | exact HB.out | apply below_alloc | apply pw_below_drewN | apply below_drew1) | exact HB.out)) hb); clear HB; have HB := n0_; clear n0_; (try clear hb); (try clear hb2); (try clear hk); (try clear hi)))
        go_meet
        case rel => exact ⟨_, (((t202 == 0) != false)), (by first | rfl | (simp; done) | (simp [*]; done)), H', ⟨by first | omega | exact Nat.le_refl _⟩, ⟨by repeat (first | (with_reducible first | exact HB.out | apply below_alloc | apply pw_below_drewN | apply below_drew1) | exact HB.out)⟩⟩
    · replace c6 := Bool.eq_false_iff.mpr c6
      subst c6
      have H1 : (ulplaw01_BitsWhole.j0 k a0 t201 t202 true) = some r := by rw [if_neg (show ¬ (false = true) by decide)] at H; exact H
      clear H
      have H := H1
      clear H1
      have H' := Aside0.mk H
      clear H
      go_wp2_with (first | ((with_reducible refine gate_callee (f := 12) rfl ?_); refine goesL_ (some 10) rfl rfl Try.func12 (by kernel_rfl) rfl #[] rfl (by (try simp only [List.map_toArray, List.map_cons, List.map_nil]); first | done | rfl | (simp only [List.length_drop, List.length_take]; rfl)) ?_; (with_reducible refine (ulplaw01_lives.calls k  false _ A5.out).mono ?_); rintro e w15 ⟨rfl, hb⟩; refine ⟨_, rfl, ?_⟩; have n0_ := Aside0.mk (below_step (by repeat (first | (with_reducible first | exact HB.out | apply below_alloc | apply pw_below_drewN | apply below_drew1) | exact HB.out)) hb); clear HB; have HB := n0_; clear n0_; (try clear hb); (try clear hb2); (try clear hk); (try clear hi)))
      go_meet
      case rel => exact ⟨_, (true), (by first | rfl | (simp; done) | (simp [*]; done)), H', ⟨by first | omega | exact Nat.le_refl _⟩, ⟨by repeat (first | (with_reducible first | exact HB.out | apply below_alloc | apply pw_below_drewN | apply below_drew1) | exact HB.out)⟩⟩
  case rest =>
    clear HC3
    try clear c1
    try clear p2
    try clear c6
    try clear c8
    try clear c12
    try clear c15
    obtain ⟨kq, x23_2, rfl, HA, HJ2, HB⟩ := hcut
    cases kq with
    | zero => exact absurd HA.out (by simp [ulplaw01_BitsWhole.j0])
    | succ kj2 =>
      have H := HA.out
      clear HA
      simp only [ulplaw01_BitsWhole.j0] at H
      by_cases c16 : x23_2 = true
      · subst c16
        have H1 : (some false) = some r := by rw [if_pos rfl] at H; exact H
        clear H
        have H := H1
        clear H1
        obtain rfl := Option.some.inj H
        go_wp2
        go_ret
        exact ⟨by first | rfl | (simp [errW_none, errW_some] <;> rfl) | (simp [*, errW_none, errW_some] <;> rfl), by repeat (first | (with_reducible first | exact HB.out | apply below_alloc | apply pw_below_drewN | apply below_drew1) | exact HB.out)⟩
      · replace c16 := Bool.eq_false_iff.mpr c16
        subst c16
        have H1 : (if t202 = 0 then (if t201 ≥ 0 then ((bits_Whole.f a0).bind fun t208 => (if t208 = true then (if t201 > 0 then ((bits_Odd.f a0).bind fun t209 => (if t209 = true then (some false) else ((bits_Odd.f a0).bind fun t210 => (if t210 = true then ((bits_Whole.f a0).bind fun t211 => (if t211 = true then ((bits_Whole.f a0).bind fun t212 => ((bits_Neg.f a0).bind fun t213 => ((bits_Whole.f t213).bind fun t214 => (if (t212 != t214) = true then (some false) else ((bits_Odd.f a0).bind fun t215 => ((bits_Neg.f a0).bind fun t216 => ((bits_Odd.f t216).bind fun t217 => (if (t215 != t217) = true then (some false) else (if t201 = 0 then ((bits_Odd.f a0).bind fun t218 => (some (t218 == ((Int.tmod a0 2) == 1)))) else (some true)))))))))) else (some false))) else ((bits_Whole.f a0).bind fun t219 => ((bits_Neg.f a0).bind fun t220 => ((bits_Whole.f t220).bind fun t221 => (if (t219 != t221) = true then (some false) else ((bits_Odd.f a0).bind fun t222 => ((bits_Neg.f a0).bind fun t223 => ((bits_Odd.f t223).bind fun t224 => (if (t222 != t224) = true then (some false) else (if t201 = 0 then ((bits_Odd.f a0).bind fun t225 => (some (t225 == ((Int.tmod a0 2) == 1)))) else (some true)))))))))))))) else ((bits_Odd.f a0).bind fun t226 => (if t226 = true then ((bits_Whole.f a0).bind fun t227 => (if t227 = true then ((bits_Whole.f a0).bind fun t228 => ((bits_Neg.f a0).bind fun t229 => ((bits_Whole.f t229).bind fun t230 => (if (t228 != t230) = true then (some false) else ((bits_Odd.f a0).bind fun t231 => ((bits_Neg.f a0).bind fun t232 => ((bits_Odd.f t232).bind fun t233 => (if (t231 != t233) = true then (some false) else (if t201 = 0 then ((bits_Odd.f a0).bind fun t234 => (some (t234 == ((Int.tmod a0 2) == 1)))) else (some true)))))))))) else (some false))) else ((bits_Whole.f a0).bind fun t235 => ((bits_Neg.f a0).bind fun t236 => ((bits_Whole.f t236).bind fun t237 => (if (t235 != t237) = true then (some false) else ((bits_Odd.f a0).bind fun t238 => ((bits_Neg.f a0).bind fun t239 => ((bits_Odd.f t239).bind fun t240 => (if (t238 != t240) = true then (some false) else (if t201 = 0 then ((bits_Odd.f a0).bind fun t241 => (some (t241 == ((Int.tmod a0 2) == 1)))) else (some true))))))))))))) else (some false))) else (if t201 > 0 then ((bits_Odd.f a0).bind fun t242 => (if t242 = true then (some false) else ((bits_Odd.f a0).bind fun t243 => (if t243 = true then ((bits_Whole.f a0).bind fun t244 => (if t244 = true then ((bits_Whole.f a0).bind fun t245 => ((bits_Neg.f a0).bind fun t246 => ((bits_Whole.f t246).bind fun t247 => (if (t245 != t247) = true then (some false) else ((bits_Odd.f a0).bind fun t248 => ((bits_Neg.f a0).bind fun t249 => ((bits_Odd.f t249).bind fun t250 => (if (t248 != t250) = true then (some false) else (if t201 = 0 then ((bits_Odd.f a0).bind fun t251 => (some (t251 == ((Int.tmod a0 2) == 1)))) else (some true)))))))))) else (some false))) else ((bits_Whole.f a0).bind fun t252 => ((bits_Neg.f a0).bind fun t253 => ((bits_Whole.f t253).bind fun t254 => (if (t252 != t254) = true then (some false) else ((bits_Odd.f a0).bind fun t255 => ((bits_Neg.f a0).bind fun t256 => ((bits_Odd.f t256).bind fun t257 => (if (t255 != t257) = true then (some false) else (if t201 = 0 then ((bits_Odd.f a0).bind fun t258 => (some (t258 == ((Int.tmod a0 2) == 1)))) else (some true)))))))))))))) else ((bits_Odd.f a0).bind fun t259 => (if t259 = true then ((bits_Whole.f a0).bind fun t260 => (if t260 = true then ((bits_Whole.f a0).bind fun t261 => ((bits_Neg.f a0).bind fun t262 => ((bits_Whole.f t262).bind fun t263 => (if (t261 != t263) = true then (some false) else ((bits_Odd.f a0).bind fun t264 => ((bits_Neg.f a0).bind fun t265 => ((bits_Odd.f t265).bind fun t266 => (if (t264 != t266) = true then (some false) else (if t201 = 0 then ((bits_Odd.f a0).bind fun t267 => (some (t267 == ((Int.tmod a0 2) == 1)))) else (some true)))))))))) else (some false))) else ((bits_Whole.f a0).bind fun t268 => ((bits_Neg.f a0).bind fun t269 => ((bits_Whole.f t269).bind fun t270 => (if (t268 != t270) = true then (some false) else ((bits_Odd.f a0).bind fun t271 => ((bits_Neg.f a0).bind fun t272 => ((bits_Odd.f t272).bind fun t273 => (if (t271 != t273) = true then (some false) else (if t201 = 0 then ((bits_Odd.f a0).bind fun t274 => (some (t274 == ((Int.tmod a0 2) == 1)))) else (some true)))))))))))))) else ((bits_Whole.f a0).bind fun t206 => (if t206 = true then (some false) else ((bits_Odd.f a0).bind fun t207 => (some (!t207)))))) = some r := by rw [if_neg (show ¬ (false = true) by decide)] at H; exact H
        clear H
        have H := H1
        clear H1
        by_cases c17 : t202 = 0
        · rw [if_pos c17] at H
          have c17b0 : (t202 == 0) = true := beq_iff_eq.mpr c17
          have c17b1 : (t202 != 0) = false := bne_eq_false_iff_eq.mpr c17
          clear c17
          by_cases c18 : t201 ≥ 0
          · rw [if_pos c18] at H
            have c18b0 : decide (0 ≤ t201) = true := decide_eq_true c18
            clear c18
            replace H := Option.bind_eq_some_iff.mp H
            obtain ⟨t208, A190, H⟩ := H
            replace H : (if t208 = true then (if t201 > 0 then ((bits_Odd.f a0).bind fun t209 => (if t209 = true then (some false) else ((bits_Odd.f a0).bind fun t210 => (if t210 = true then ((bits_Whole.f a0).bind fun t211 => (if t211 = true then ((bits_Whole.f a0).bind fun t212 => ((bits_Neg.f a0).bind fun t213 => ((bits_Whole.f t213).bind fun t214 => (if (t212 != t214) = true then (some false) else ((bits_Odd.f a0).bind fun t215 => ((bits_Neg.f a0).bind fun t216 => ((bits_Odd.f t216).bind fun t217 => (if (t215 != t217) = true then (some false) else (if t201 = 0 then ((bits_Odd.f a0).bind fun t218 => (some (t218 == ((Int.tmod a0 2) == 1)))) else (some true)))))))))) else (some false))) else ((bits_Whole.f a0).bind fun t219 => ((bits_Neg.f a0).bind fun t220 => ((bits_Whole.f t220).bind fun t221 => (if (t219 != t221) = true then (some false) else ((bits_Odd.f a0).bind fun t222 => ((bits_Neg.f a0).bind fun t223 => ((bits_Odd.f t223).bind fun t224 => (if (t222 != t224) = true then (some false) else (if t201 = 0 then ((bits_Odd.f a0).bind fun t225 => (some (t225 == ((Int.tmod a0 2) == 1)))) else (some true)))))))))))))) else ((bits_Odd.f a0).bind fun t226 => (if t226 = true then ((bits_Whole.f a0).bind fun t227 => (if t227 = true then ((bits_Whole.f a0).bind fun t228 => ((bits_Neg.f a0).bind fun t229 => ((bits_Whole.f t229).bind fun t230 => (if (t228 != t230) = true then (some false) else ((bits_Odd.f a0).bind fun t231 => ((bits_Neg.f a0).bind fun t232 => ((bits_Odd.f t232).bind fun t233 => (if (t231 != t233) = true then (some false) else (if t201 = 0 then ((bits_Odd.f a0).bind fun t234 => (some (t234 == ((Int.tmod a0 2) == 1)))) else (some true)))))))))) else (some false))) else ((bits_Whole.f a0).bind fun t235 => ((bits_Neg.f a0).bind fun t236 => ((bits_Whole.f t236).bind fun t237 => (if (t235 != t237) = true then (some false) else ((bits_Odd.f a0).bind fun t238 => ((bits_Neg.f a0).bind fun t239 => ((bits_Odd.f t239).bind fun t240 => (if (t238 != t240) = true then (some false) else (if t201 = 0 then ((bits_Odd.f a0).bind fun t241 => (some (t241 == ((Int.tmod a0 2) == 1)))) else (some true))))))))))))) else (some false)) = some r := H
            have A19 := Aside0.mk A190
            clear A190
            by_cases c20 : t208 = true
            · subst c20
              have H1 : (if t201 > 0 then ((bits_Odd.f a0).bind fun t209 => (if t209 = true then (some false) else ((bits_Odd.f a0).bind fun t210 => (if t210 = true then ((bits_Whole.f a0).bind fun t211 => (if t211 = true then ((bits_Whole.f a0).bind fun t212 => ((bits_Neg.f a0).bind fun t213 => ((bits_Whole.f t213).bind fun t214 => (if (t212 != t214) = true then (some false) else ((bits_Odd.f a0).bind fun t215 => ((bits_Neg.f a0).bind fun t216 => ((bits_Odd.f t216).bind fun t217 => (if (t215 != t217) = true then (some false) else (if t201 = 0 then ((bits_Odd.f a0).bind fun t218 => (some (t218 == ((Int.tmod a0 2) == 1)))) else (some true)))))))))) else (some false))) else ((bits_Whole.f a0).bind fun t219 => ((bits_Neg.f a0).bind fun t220 => ((bits_Whole.f t220).bind fun t221 => (if (t219 != t221) = true then (some false) else ((bits_Odd.f a0).bind fun t222 => ((bits_Neg.f a0).bind fun t223 => ((bits_Odd.f t223).bind fun t224 => (if (t222 != t224) = true then (some false) else (if t201 = 0 then ((bits_Odd.f a0).bind fun t225 => (some (t225 == ((Int.tmod a0 2) == 1)))) else (some true)))))))))))))) else ((bits_Odd.f a0).bind fun t226 => (if t226 = true then ((bits_Whole.f a0).bind fun t227 => (if t227 = true then ((bits_Whole.f a0).bind fun t228 => ((bits_Neg.f a0).bind fun t229 => ((bits_Whole.f t229).bind fun t230 => (if (t228 != t230) = true then (some false) else ((bits_Odd.f a0).bind fun t231 => ((bits_Neg.f a0).bind fun t232 => ((bits_Odd.f t232).bind fun t233 => (if (t231 != t233) = true then (some false) else (if t201 = 0 then ((bits_Odd.f a0).bind fun t234 => (some (t234 == ((Int.tmod a0 2) == 1)))) else (some true)))))))))) else (some false))) else ((bits_Whole.f a0).bind fun t235 => ((bits_Neg.f a0).bind fun t236 => ((bits_Whole.f t236).bind fun t237 => (if (t235 != t237) = true then (some false) else ((bits_Odd.f a0).bind fun t238 => ((bits_Neg.f a0).bind fun t239 => ((bits_Odd.f t239).bind fun t240 => (if (t238 != t240) = true then (some false) else (if t201 = 0 then ((bits_Odd.f a0).bind fun t241 => (some (t241 == ((Int.tmod a0 2) == 1)))) else (some true))))))))))))) = some r := by rw [if_pos rfl] at H; exact H
              clear H
              have H := H1
              clear H1
              by_cases c21 : t201 > 0
              · rw [if_pos c21] at H
                have c21b0 : decide (0 < t201) = true := decide_eq_true c21
                clear c21
                replace H := Option.bind_eq_some_iff.mp H
                obtain ⟨t209, A220, H⟩ := H
                replace H : (if t209 = true then (some false) else ((bits_Odd.f a0).bind fun t210 => (if t210 = true then ((bits_Whole.f a0).bind fun t211 => (if t211 = true then ((bits_Whole.f a0).bind fun t212 => ((bits_Neg.f a0).bind fun t213 => ((bits_Whole.f t213).bind fun t214 => (if (t212 != t214) = true then (some false) else ((bits_Odd.f a0).bind fun t215 => ((bits_Neg.f a0).bind fun t216 => ((bits_Odd.f t216).bind fun t217 => (if (t215 != t217) = true then (some false) else (if t201 = 0 then ((bits_Odd.f a0).bind fun t218 => (some (t218 == ((Int.tmod a0 2) == 1)))) else (some true)))))))))) else (some false))) else ((bits_Whole.f a0).bind fun t219 => ((bits_Neg.f a0).bind fun t220 => ((bits_Whole.f t220).bind fun t221 => (if (t219 != t221) = true then (some false) else ((bits_Odd.f a0).bind fun t222 => ((bits_Neg.f a0).bind fun t223 => ((bits_Odd.f t223).bind fun t224 => (if (t222 != t224) = true then (some false) else (if t201 = 0 then ((bits_Odd.f a0).bind fun t225 => (some (t225 == ((Int.tmod a0 2) == 1)))) else (some true))))))))))))) = some r := H
                have A22 := Aside0.mk A220
                clear A220
                by_cases c23 : t209 = true
                · subst c23
                  have H1 : (some false) = some r := by rw [if_pos rfl] at H; exact H
                  clear H
                  have H := H1
                  clear H1
                  obtain rfl := Option.some.inj H
                  go_wp2_with (first | (go_at_call 21; (with_reducible refine (bits_Whole.calls a0 true _ A19.out).mono ?_); rintro e w24 ⟨rfl, hb⟩; have n0_ := Aside0.mk (below_step (by repeat (first | (with_reducible first | exact HB.out | apply below_alloc | apply pw_below_drewN | apply below_drew1) | exact HB.out)) hb); clear HB; have HB := n0_; clear n0_; (try clear hb); (try clear hb2); (try clear hk); (try clear hi)) | (go_at_call 23; (with_reducible refine (bits_Odd.calls a0 true _ A22.out).mono ?_); rintro e w25 ⟨rfl, hb⟩; have n0_ := Aside0.mk (below_step (by repeat (first | (with_reducible first | exact HB.out | apply below_alloc | apply pw_below_drewN | apply below_drew1) | exact HB.out)) hb); clear HB; have HB := n0_; clear n0_; (try clear hb); (try clear hb2); (try clear hk); (try clear hi)))
                  go_ret
                  exact ⟨by first | rfl | (simp [errW_none, errW_some] <;> rfl) | (simp [*, errW_none, errW_some] <;> rfl), by repeat (first | (with_reducible first | exact HB.out | apply below_alloc | apply pw_below_drewN | apply below_drew1) | exact HB.out)⟩
                · replace c23 := Bool.eq_false_iff.mpr c23
                  subst c23
                  have H1 : ((bits_Odd.f a0).bind fun t210 => (if t210 = true then ((bits_Whole.f a0).bind fun t211 => (if t211 = true then ((bits_Whole.f a0).bind fun t212 => ((bits_Neg.f a0).bind fun t213 => ((bits_Whole.f t213).bind fun t214 => (if (t212 != t214) = true then (some false) else ((bits_Odd.f a0).bind fun t215 => ((bits_Neg.f a0).bind fun t216 => ((bits_Odd.f t216).bind fun t217 => (if (t215 != t217) = true then (some false) else (if t201 = 0 then ((bits_Odd.f a0).bind fun t218 => (some (t218 == ((Int.tmod a0 2) == 1)))) else (some true)))))))))) else (some false))) else ((bits_Whole.f a0).bind fun t219 => ((bits_Neg.f a0).bind fun t220 => ((bits_Whole.f t220).bind fun t221 => (if (t219 != t221) = true then (some false) else ((bits_Odd.f a0).bind fun t222 => ((bits_Neg.f a0).bind fun t223 => ((bits_Odd.f t223).bind fun t224 => (if (t222 != t224) = true then (some false) else (if t201 = 0 then ((bits_Odd.f a0).bind fun t225 => (some (t225 == ((Int.tmod a0 2) == 1)))) else (some true)))))))))))) = some r := by rw [if_neg (show ¬ (false = true) by decide)] at H; exact H
                  clear H
                  have H := H1
                  clear H1
                  replace H := Option.bind_eq_some_iff.mp H
                  obtain ⟨t210, A260, H⟩ := H
                  obtain rfl : t210 = false := Option.some.inj (A260.symm.trans A22.out)
                  replace H : (if false = true then ((bits_Whole.f a0).bind fun t211 => (if t211 = true then ((bits_Whole.f a0).bind fun t212 => ((bits_Neg.f a0).bind fun t213 => ((bits_Whole.f t213).bind fun t214 => (if (t212 != t214) = true then (some false) else ((bits_Odd.f a0).bind fun t215 => ((bits_Neg.f a0).bind fun t216 => ((bits_Odd.f t216).bind fun t217 => (if (t215 != t217) = true then (some false) else (if t201 = 0 then ((bits_Odd.f a0).bind fun t218 => (some (t218 == ((Int.tmod a0 2) == 1)))) else (some true)))))))))) else (some false))) else ((bits_Whole.f a0).bind fun t219 => ((bits_Neg.f a0).bind fun t220 => ((bits_Whole.f t220).bind fun t221 => (if (t219 != t221) = true then (some false) else ((bits_Odd.f a0).bind fun t222 => ((bits_Neg.f a0).bind fun t223 => ((bits_Odd.f t223).bind fun t224 => (if (t222 != t224) = true then (some false) else (if t201 = 0 then ((bits_Odd.f a0).bind fun t225 => (some (t225 == ((Int.tmod a0 2) == 1)))) else (some true))))))))))) = some r := H
                  have A26 := Aside0.mk A260
                  clear A260
                  by_cases c27 : false = true
                  · exact absurd c27 (by decide)
                  · replace c27 := Bool.eq_false_iff.mpr c27
                    clear c27
                    have H1 : ((bits_Whole.f a0).bind fun t219 => ((bits_Neg.f a0).bind fun t220 => ((bits_Whole.f t220).bind fun t221 => (if (t219 != t221) = true then (some false) else ((bits_Odd.f a0).bind fun t222 => ((bits_Neg.f a0).bind fun t223 => ((bits_Odd.f t223).bind fun t224 => (if (t222 != t224) = true then (some false) else (if t201 = 0 then ((bits_Odd.f a0).bind fun t225 => (some (t225 == ((Int.tmod a0 2) == 1)))) else (some true)))))))))) = some r := by rw [if_neg (show ¬ (false = true) by decide)] at H; exact H
                    clear H
                    have H := H1
                    clear H1
                    replace H := Option.bind_eq_some_iff.mp H
                    obtain ⟨t219, A750, H⟩ := H
                    obtain rfl : t219 = true := Option.some.inj (A750.symm.trans A19.out)
                    replace H : ((bits_Neg.f a0).bind fun t220 => ((bits_Whole.f t220).bind fun t221 => (if (true != t221) = true then (some false) else ((bits_Odd.f a0).bind fun t222 => ((bits_Neg.f a0).bind fun t223 => ((bits_Odd.f t223).bind fun t224 => (if (t222 != t224) = true then (some false) else (if t201 = 0 then ((bits_Odd.f a0).bind fun t225 => (some (t225 == ((Int.tmod a0 2) == 1)))) else (some true))))))))) = some r := H
                    have A75 := Aside0.mk A750
                    clear A750
                    replace H := Option.bind_eq_some_iff.mp H
                    obtain ⟨t220, A760, H⟩ := H
                    replace H : ((bits_Whole.f t220).bind fun t221 => (if (true != t221) = true then (some false) else ((bits_Odd.f a0).bind fun t222 => ((bits_Neg.f a0).bind fun t223 => ((bits_Odd.f t223).bind fun t224 => (if (t222 != t224) = true then (some false) else (if t201 = 0 then ((bits_Odd.f a0).bind fun t225 => (some (t225 == ((Int.tmod a0 2) == 1)))) else (some true)))))))) = some r := H
                    have A76 := Aside0.mk A760
                    clear A760
                    replace H := Option.bind_eq_some_iff.mp H
                    obtain ⟨t221, A770, H⟩ := H
                    replace H : (if (true != t221) = true then (some false) else ((bits_Odd.f a0).bind fun t222 => ((bits_Neg.f a0).bind fun t223 => ((bits_Odd.f t223).bind fun t224 => (if (t222 != t224) = true then (some false) else (if t201 = 0 then ((bits_Odd.f a0).bind fun t225 => (some (t225 == ((Int.tmod a0 2) == 1)))) else (some true))))))) = some r := H
                    have A77 := Aside0.mk A770
                    clear A770
                    by_cases c78 : (true != t221) = true
                    · rw [if_pos c78] at H
                      have c78b0 : (true != t221) = true := c78
                      (try (have c78b1 : decide (true = t221) = false := by simpa using c78))
                      (try (have c78b2 : (true == t221) = false := by simpa using c78))
                      (try (have c78b3 : ¬ (true = t221) := by simpa using c78))
                      clear c78
                      obtain rfl := Option.some.inj H
                      go_wp2_with (first | (go_at_call 21; (with_reducible refine (bits_Whole.calls a0 true _ A19.out).mono ?_); rintro e w79 ⟨rfl, hb⟩; have n0_ := Aside0.mk (below_step (by repeat (first | (with_reducible first | exact HB.out | apply below_alloc | apply pw_below_drewN | apply below_drew1) | exact HB.out)) hb); clear HB; have HB := n0_; clear n0_; (try clear hb); (try clear hb2); (try clear hk); (try clear hi)) | (go_at_call 23; (with_reducible refine (bits_Odd.calls a0 false _ A22.out).mono ?_); rintro e w80 ⟨rfl, hb⟩; have n0_ := Aside0.mk (below_step (by repeat (first | (with_reducible first | exact HB.out | apply below_alloc | apply pw_below_drewN | apply below_drew1) | exact HB.out)) hb); clear HB; have HB := n0_; clear n0_; (try clear hb); (try clear hb2); (try clear hk); (try clear hi)) | (go_at_call 23; (with_reducible refine (bits_Odd.calls a0 false _ A26.out).mono ?_); rintro e w81 ⟨rfl, hb⟩; have n0_ := Aside0.mk (below_step (by repeat (first | (with_reducible first | exact HB.out | apply below_alloc | apply pw_below_drewN | apply below_drew1) | exact HB.out)) hb); clear HB; have HB := n0_; clear n0_; (try clear hb); (try clear hb2); (try clear hk); (try clear hi)) | (go_at_call 21; (with_reducible refine (bits_Whole.calls a0 true _ A75.out).mono ?_); rintro e w82 ⟨rfl, hb⟩; have n0_ := Aside0.mk (below_step (by repeat (first | (with_reducible first | exact HB.out | apply below_alloc | apply pw_below_drewN | apply below_drew1) | exact HB.out)) hb); clear HB; have HB := n0_; clear n0_; (try clear hb); (try clear hb2); (try clear hk); (try clear hi)) | (go_at_call 26; (with_reducible refine (bits_Neg.calls a0 t220 _ A76.out).mono ?_); rintro e w' ⟨rfl, ⟨nd, rfl⟩⟩) | (go_at_call 21; (with_reducible refine (bits_Whole.calls t220 t221 _ A77.out).mono ?_); rintro e w83 ⟨rfl, hb⟩; have n0_ := Aside0.mk (below_step (by repeat (first | (with_reducible first | exact HB.out | apply below_alloc | apply pw_below_drewN | apply below_drew1) | exact HB.out)) hb); clear HB; have HB := n0_; clear n0_; (try clear hb); (try clear hb2); (try clear hk); (try clear hi)))
                      go_ret
                      exact ⟨by first | rfl | (simp [errW_none, errW_some] <;> rfl) | (simp [*, errW_none, errW_some] <;> rfl), by repeat (first | (with_reducible first | exact HB.out | apply below_alloc | apply pw_below_drewN | apply below_drew1) | exact HB.out)⟩
                    · rw [if_neg c78] at H
                      have c78b0 : (true != t221) = false := by simpa using c78
                      (try (have c78b1 : decide (true = t221) = true := by simpa using c78))
                      (try (have c78b2 : (true == t221) = true := by simpa using c78))
                      clear c78
                      replace H := Option.bind_eq_some_iff.mp H
                      obtain ⟨t222, A840, H⟩ := H
                      obtain rfl : t222 = false := Option.some.inj (A840.symm.trans A22.out)
                      replace H : ((bits_Neg.f a0).bind fun t223 => ((bits_Odd.f t223).bind fun t224 => (if (false != t224) = true then (some false) else (if t201 = 0 then ((bits_Odd.f a0).bind fun t225 => (some (t225 == ((Int.tmod a0 2) == 1)))) else (some true))))) = some r := H
                      have A84 := Aside0.mk A840
                      clear A840
                      replace H := Option.bind_eq_some_iff.mp H
                      obtain ⟨t223, A850, H⟩ := H
                      obtain rfl : t220 = t223 := Option.some.inj (A76.out.symm.trans A850)
                      replace H : ((bits_Odd.f t220).bind fun t224 => (if (false != t224) = true then (some false) else (if t201 = 0 then ((bits_Odd.f a0).bind fun t225 => (some (t225 == ((Int.tmod a0 2) == 1)))) else (some true)))) = some r := H
                      have A85 := Aside0.mk A850
                      clear A850
                      replace H := Option.bind_eq_some_iff.mp H
                      obtain ⟨t224, A860, H⟩ := H
                      replace H : (if (false != t224) = true then (some false) else (if t201 = 0 then ((bits_Odd.f a0).bind fun t225 => (some (t225 == ((Int.tmod a0 2) == 1)))) else (some true))) = some r := H
                      have A86 := Aside0.mk A860
                      clear A860
                      by_cases c87 : (false != t224) = true
                      · rw [if_pos c87] at H
                        have c87b0 : (false != t224) = true := c87
                        (try (have c87b1 : decide (false = t224) = false := by simpa using c87))
                        (try (have c87b2 : (false == t224) = false := by simpa using c87))
                        (try (have c87b3 : ¬ (false = t224) := by simpa using c87))
                        clear c87
                        obtain rfl := Option.some.inj H
                        go_wp2_with (first | (go_at_call 21; (with_reducible refine (bits_Whole.calls a0 true _ A19.out).mono ?_); rintro e w88 ⟨rfl, hb⟩; have n0_ := Aside0.mk (below_step (by repeat (first | (with_reducible first | exact HB.out | apply below_alloc | apply pw_below_drewN | apply below_drew1) | exact HB.out)) hb); clear HB; have HB := n0_; clear n0_; (try clear hb); (try clear hb2); (try clear hk); (try clear hi)) | (go_at_call 23; (with_reducible refine (bits_Odd.calls a0 false _ A22.out).mono ?_); rintro e w89 ⟨rfl, hb⟩; have n0_ := Aside0.mk (below_step (by repeat (first | (with_reducible first | exact HB.out | apply below_alloc | apply pw_below_drewN | apply below_drew1) | exact HB.out)) hb); clear HB; have HB := n0_; clear n0_; (try clear hb); (try clear hb2); (try clear hk); (try clear hi)) | (go_at_call 23; (with_reducible refine (bits_Odd.calls a0 false _ A26.out).mono ?_); rintro e w90 ⟨rfl, hb⟩; have n0_ := Aside0.mk (below_step (by repeat (first | (with_reducible first | exact HB.out | apply below_alloc | apply pw_below_drewN | apply below_drew1) | exact HB.out)) hb); clear HB; have HB := n0_; clear n0_; (try clear hb); (try clear hb2); (try clear hk); (try clear hi)) | (go_at_call 21; (with_reducible refine (bits_Whole.calls a0 true _ A75.out).mono ?_); rintro e w91 ⟨rfl, hb⟩; have n0_ := Aside0.mk (below_step (by repeat (first | (with_reducible first | exact HB.out | apply below_alloc | apply pw_below_drewN | apply below_drew1) | exact HB.out)) hb); clear HB; have HB := n0_; clear n0_; (try clear hb); (try clear hb2); (try clear hk); (try clear hi)) | (go_at_call 26; (with_reducible refine (bits_Neg.calls a0 t220 _ A76.out).mono ?_); rintro e w' ⟨rfl, ⟨nd, rfl⟩⟩) | (go_at_call 21; (with_reducible refine (bits_Whole.calls t220 t221 _ A77.out).mono ?_); rintro e w92 ⟨rfl, hb⟩; have n0_ := Aside0.mk (below_step (by repeat (first | (with_reducible first | exact HB.out | apply below_alloc | apply pw_below_drewN | apply below_drew1) | exact HB.out)) hb); clear HB; have HB := n0_; clear n0_; (try clear hb); (try clear hb2); (try clear hk); (try clear hi)) | (go_at_call 23; (with_reducible refine (bits_Odd.calls a0 false _ A84.out).mono ?_); rintro e w93 ⟨rfl, hb⟩; have n0_ := Aside0.mk (below_step (by repeat (first | (with_reducible first | exact HB.out | apply below_alloc | apply pw_below_drewN | apply below_drew1) | exact HB.out)) hb); clear HB; have HB := n0_; clear n0_; (try clear hb); (try clear hb2); (try clear hk); (try clear hi)) | (go_at_call 26; (with_reducible refine (bits_Neg.calls a0 t220 _ A85.out).mono ?_); rintro e w' ⟨rfl, ⟨nd, rfl⟩⟩) | (go_at_call 23; (with_reducible refine (bits_Odd.calls t220 t224 _ A86.out).mono ?_); rintro e w94 ⟨rfl, hb⟩; have n0_ := Aside0.mk (below_step (by repeat (first | (with_reducible first | exact HB.out | apply below_alloc | apply pw_below_drewN | apply below_drew1) | exact HB.out)) hb); clear HB; have HB := n0_; clear n0_; (try clear hb); (try clear hb2); (try clear hk); (try clear hi)))
                        go_ret
                        exact ⟨by first | rfl | (simp [errW_none, errW_some] <;> rfl) | (simp [*, errW_none, errW_some] <;> rfl), by repeat (first | (with_reducible first | exact HB.out | apply below_alloc | apply pw_below_drewN | apply below_drew1) | exact HB.out)⟩
                      · rw [if_neg c87] at H
                        have c87b0 : (false != t224) = false := by simpa using c87
                        (try (have c87b1 : decide (false = t224) = true := by simpa using c87))
                        (try (have c87b2 : (false == t224) = true := by simpa using c87))
                        clear c87
                        by_cases c95 : t201 = 0
                        · rw [if_pos c95] at H
                          have c95b0 : (t201 == 0) = true := beq_iff_eq.mpr c95
                          have c95b1 : (t201 != 0) = false := bne_eq_false_iff_eq.mpr c95
                          clear c95
                          replace H := Option.bind_eq_some_iff.mp H
                          obtain ⟨t225, A960, H⟩ := H
                          obtain rfl : t225 = false := Option.some.inj (A960.symm.trans A22.out)
                          replace H : (some (false == ((Int.tmod a0 2) == 1))) = some r := H
                          have A96 := Aside0.mk A960
                          clear A960
                          obtain rfl := Option.some.inj H
                          go_wp2_with (first | (go_at_call 21; (with_reducible refine (bits_Whole.calls a0 true _ A19.out).mono ?_); rintro e w97 ⟨rfl, hb⟩; have n0_ := Aside0.mk (below_step (by repeat (first | (with_reducible first | exact HB.out | apply below_alloc | apply pw_below_drewN | apply below_drew1) | exact HB.out)) hb); clear HB; have HB := n0_; clear n0_; (try clear hb); (try clear hb2); (try clear hk); (try clear hi)) | (go_at_call 23; (with_reducible refine (bits_Odd.calls a0 false _ A22.out).mono ?_); rintro e w98 ⟨rfl, hb⟩; have n0_ := Aside0.mk (below_step (by repeat (first | (with_reducible first | exact HB.out | apply below_alloc | apply pw_below_drewN | apply below_drew1) | exact HB.out)) hb); clear HB; have HB := n0_; clear n0_; (try clear hb); (try clear hb2); (try clear hk); (try clear hi)) | (go_at_call 23; (with_reducible refine (bits_Odd.calls a0 false _ A26.out).mono ?_); rintro e w99 ⟨rfl, hb⟩; have n0_ := Aside0.mk (below_step (by repeat (first | (with_reducible first | exact HB.out | apply below_alloc | apply pw_below_drewN | apply below_drew1) | exact HB.out)) hb); clear HB; have HB := n0_; clear n0_; (try clear hb); (try clear hb2); (try clear hk); (try clear hi)) | (go_at_call 21; (with_reducible refine (bits_Whole.calls a0 true _ A75.out).mono ?_); rintro e w100 ⟨rfl, hb⟩; have n0_ := Aside0.mk (below_step (by repeat (first | (with_reducible first | exact HB.out | apply below_alloc | apply pw_below_drewN | apply below_drew1) | exact HB.out)) hb); clear HB; have HB := n0_; clear n0_; (try clear hb); (try clear hb2); (try clear hk); (try clear hi)) | (go_at_call 26; (with_reducible refine (bits_Neg.calls a0 t220 _ A76.out).mono ?_); rintro e w' ⟨rfl, ⟨nd, rfl⟩⟩) | (go_at_call 21; (with_reducible refine (bits_Whole.calls t220 t221 _ A77.out).mono ?_); rintro e w101 ⟨rfl, hb⟩; have n0_ := Aside0.mk (below_step (by repeat (first | (with_reducible first | exact HB.out | apply below_alloc | apply pw_below_drewN | apply below_drew1) | exact HB.out)) hb); clear HB; have HB := n0_; clear n0_; (try clear hb); (try clear hb2); (try clear hk); (try clear hi)) | (go_at_call 23; (with_reducible refine (bits_Odd.calls a0 false _ A84.out).mono ?_); rintro e w102 ⟨rfl, hb⟩; have n0_ := Aside0.mk (below_step (by repeat (first | (with_reducible first | exact HB.out | apply below_alloc | apply pw_below_drewN | apply below_drew1) | exact HB.out)) hb); clear HB; have HB := n0_; clear n0_; (try clear hb); (try clear hb2); (try clear hk); (try clear hi)) | (go_at_call 26; (with_reducible refine (bits_Neg.calls a0 t220 _ A85.out).mono ?_); rintro e w' ⟨rfl, ⟨nd, rfl⟩⟩) | (go_at_call 23; (with_reducible refine (bits_Odd.calls t220 t224 _ A86.out).mono ?_); rintro e w103 ⟨rfl, hb⟩; have n0_ := Aside0.mk (below_step (by repeat (first | (with_reducible first | exact HB.out | apply below_alloc | apply pw_below_drewN | apply below_drew1) | exact HB.out)) hb); clear HB; have HB := n0_; clear n0_; (try clear hb); (try clear hb2); (try clear hk); (try clear hi)) | (go_at_call 23; (with_reducible refine (bits_Odd.calls a0 false _ A96.out).mono ?_); rintro e w104 ⟨rfl, hb⟩; have n0_ := Aside0.mk (below_step (by repeat (first | (with_reducible first | exact HB.out | apply below_alloc | apply pw_below_drewN | apply below_drew1) | exact HB.out)) hb); clear HB; have HB := n0_; clear n0_; (try clear hb); (try clear hb2); (try clear hk); (try clear hi)))
                          go_ret
                          exact ⟨by first | rfl | (simp [errW_none, errW_some] <;> rfl) | (simp [*, errW_none, errW_some] <;> rfl), by repeat (first | (with_reducible first | exact HB.out | apply below_alloc | apply pw_below_drewN | apply below_drew1) | exact HB.out)⟩
                        · rw [if_neg c95] at H
                          have c95b0 : (t201 == 0) = false := beq_eq_false_iff_ne.mpr c95
                          have c95b1 : (t201 != 0) = true := bne_iff_ne.mpr c95
                          obtain rfl := Option.some.inj H
                          go_wp2_with (first | (go_at_call 21; (with_reducible refine (bits_Whole.calls a0 true _ A19.out).mono ?_); rintro e w105 ⟨rfl, hb⟩; have n0_ := Aside0.mk (below_step (by repeat (first | (with_reducible first | exact HB.out | apply below_alloc | apply pw_below_drewN | apply below_drew1) | exact HB.out)) hb); clear HB; have HB := n0_; clear n0_; (try clear hb); (try clear hb2); (try clear hk); (try clear hi)) | (go_at_call 23; (with_reducible refine (bits_Odd.calls a0 false _ A22.out).mono ?_); rintro e w106 ⟨rfl, hb⟩; have n0_ := Aside0.mk (below_step (by repeat (first | (with_reducible first | exact HB.out | apply below_alloc | apply pw_below_drewN | apply below_drew1) | exact HB.out)) hb); clear HB; have HB := n0_; clear n0_; (try clear hb); (try clear hb2); (try clear hk); (try clear hi)) | (go_at_call 23; (with_reducible refine (bits_Odd.calls a0 false _ A26.out).mono ?_); rintro e w107 ⟨rfl, hb⟩; have n0_ := Aside0.mk (below_step (by repeat (first | (with_reducible first | exact HB.out | apply below_alloc | apply pw_below_drewN | apply below_drew1) | exact HB.out)) hb); clear HB; have HB := n0_; clear n0_; (try clear hb); (try clear hb2); (try clear hk); (try clear hi)) | (go_at_call 21; (with_reducible refine (bits_Whole.calls a0 true _ A75.out).mono ?_); rintro e w108 ⟨rfl, hb⟩; have n0_ := Aside0.mk (below_step (by repeat (first | (with_reducible first | exact HB.out | apply below_alloc | apply pw_below_drewN | apply below_drew1) | exact HB.out)) hb); clear HB; have HB := n0_; clear n0_; (try clear hb); (try clear hb2); (try clear hk); (try clear hi)) | (go_at_call 26; (with_reducible refine (bits_Neg.calls a0 t220 _ A76.out).mono ?_); rintro e w' ⟨rfl, ⟨nd, rfl⟩⟩) | (go_at_call 21; (with_reducible refine (bits_Whole.calls t220 t221 _ A77.out).mono ?_); rintro e w109 ⟨rfl, hb⟩; have n0_ := Aside0.mk (below_step (by repeat (first | (with_reducible first | exact HB.out | apply below_alloc | apply pw_below_drewN | apply below_drew1) | exact HB.out)) hb); clear HB; have HB := n0_; clear n0_; (try clear hb); (try clear hb2); (try clear hk); (try clear hi)) | (go_at_call 23; (with_reducible refine (bits_Odd.calls a0 false _ A84.out).mono ?_); rintro e w110 ⟨rfl, hb⟩; have n0_ := Aside0.mk (below_step (by repeat (first | (with_reducible first | exact HB.out | apply below_alloc | apply pw_below_drewN | apply below_drew1) | exact HB.out)) hb); clear HB; have HB := n0_; clear n0_; (try clear hb); (try clear hb2); (try clear hk); (try clear hi)) | (go_at_call 26; (with_reducible refine (bits_Neg.calls a0 t220 _ A85.out).mono ?_); rintro e w' ⟨rfl, ⟨nd, rfl⟩⟩) | (go_at_call 23; (with_reducible refine (bits_Odd.calls t220 t224 _ A86.out).mono ?_); rintro e w111 ⟨rfl, hb⟩; have n0_ := Aside0.mk (below_step (by repeat (first | (with_reducible first | exact HB.out | apply below_alloc | apply pw_below_drewN | apply below_drew1) | exact HB.out)) hb); clear HB; have HB := n0_; clear n0_; (try clear hb); (try clear hb2); (try clear hk); (try clear hi)))
                          go_ret
                          exact ⟨by first | rfl | (simp [errW_none, errW_some] <;> rfl) | (simp [*, errW_none, errW_some] <;> rfl), by repeat (first | (with_reducible first | exact HB.out | apply below_alloc | apply pw_below_drewN | apply below_drew1) | exact HB.out)⟩
              · rw [if_neg c21] at H
                have c21b0 : decide (0 < t201) = false := decide_eq_false c21
                clear c21
                replace H := Option.bind_eq_some_iff.mp H
                obtain ⟨t226, A1120, H⟩ := H
                replace H : (if t226 = true then ((bits_Whole.f a0).bind fun t227 => (if t227 = true then ((bits_Whole.f a0).bind fun t228 => ((bits_Neg.f a0).bind fun t229 => ((bits_Whole.f t229).bind fun t230 => (if (t228 != t230) = true then (some false) else ((bits_Odd.f a0).bind fun t231 => ((bits_Neg.f a0).bind fun t232 => ((bits_Odd.f t232).bind fun t233 => (if (t231 != t233) = true then (some false) else (if t201 = 0 then ((bits_Odd.f a0).bind fun t234 => (some (t234 == ((Int.tmod a0 2) == 1)))) else (some true)))))))))) else (some false))) else ((bits_Whole.f a0).bind fun t235 => ((bits_Neg.f a0).bind fun t236 => ((bits_Whole.f t236).bind fun t237 => (if (t235 != t237) = true then (some false) else ((bits_Odd.f a0).bind fun t238 => ((bits_Neg.f a0).bind fun t239 => ((bits_Odd.f t239).bind fun t240 => (if (t238 != t240) = true then (some false) else (if t201 = 0 then ((bits_Odd.f a0).bind fun t241 => (some (t241 == ((Int.tmod a0 2) == 1)))) else (some true))))))))))) = some r := H
                have A112 := Aside0.mk A1120
                clear A1120
                by_cases c113 : t226 = true
                · subst c113
                  have H1 : ((bits_Whole.f a0).bind fun t227 => (if t227 = true then ((bits_Whole.f a0).bind fun t228 => ((bits_Neg.f a0).bind fun t229 => ((bits_Whole.f t229).bind fun t230 => (if (t228 != t230) = true then (some false) else ((bits_Odd.f a0).bind fun t231 => ((bits_Neg.f a0).bind fun t232 => ((bits_Odd.f t232).bind fun t233 => (if (t231 != t233) = true then (some false) else (if t201 = 0 then ((bits_Odd.f a0).bind fun t234 => (some (t234 == ((Int.tmod a0 2) == 1)))) else (some true)))))))))) else (some false))) = some r := by rw [if_pos rfl] at H; exact H
                  clear H
                  have H := H1
                  clear H1
                  replace H := Option.bind_eq_some_iff.mp H
                  obtain ⟨t227, A1140, H⟩ := H
                  obtain rfl : t227 = true := Option.some.inj (A1140.symm.trans A19.out)
                  replace H : (if true = true then ((bits_Whole.f a0).bind fun t228 => ((bits_Neg.f a0).bind fun t229 => ((bits_Whole.f t229).bind fun t230 => (if (t228 != t230) = true then (some false) else ((bits_Odd.f a0).bind fun t231 => ((bits_Neg.f a0).bind fun t232 => ((bits_Odd.f t232).bind fun t233 => (if (t231 != t233) = true then (some false) else (if t201 = 0 then ((bits_Odd.f a0).bind fun t234 => (some (t234 == ((Int.tmod a0 2) == 1)))) else (some true)))))))))) else (some false)) = some r := H
                  have A114 := Aside0.mk A1140
                  clear A1140
                  by_cases c115 : true = true
                  · clear c115
                    have H1 : ((bits_Whole.f a0).bind fun t228 => ((bits_Neg.f a0).bind fun t229 => ((bits_Whole.f t229).bind fun t230 => (if (t228 != t230) = true then (some false) else ((bits_Odd.f a0).bind fun t231 => ((bits_Neg.f a0).bind fun t232 => ((bits_Odd.f t232).bind fun t233 => (if (t231 != t233) = true then (some false) else (if t201 = 0 then ((bits_Odd.f a0).bind fun t234 => (some (t234 == ((Int.tmod a0 2) == 1)))) else (some true)))))))))) = some r := by rw [if_pos rfl] at H; exact H
                    clear H
                    have H := H1
                    clear H1
                    replace H := Option.bind_eq_some_iff.mp H
                    obtain ⟨t228, A1160, H⟩ := H
                    obtain rfl : t228 = true := Option.some.inj (A1160.symm.trans A19.out)
                    replace H : ((bits_Neg.f a0).bind fun t229 => ((bits_Whole.f t229).bind fun t230 => (if (true != t230) = true then (some false) else ((bits_Odd.f a0).bind fun t231 => ((bits_Neg.f a0).bind fun t232 => ((bits_Odd.f t232).bind fun t233 => (if (t231 != t233) = true then (some false) else (if t201 = 0 then ((bits_Odd.f a0).bind fun t234 => (some (t234 == ((Int.tmod a0 2) == 1)))) else (some true))))))))) = some r := H
                    have A116 := Aside0.mk A1160
                    clear A1160
                    replace H := Option.bind_eq_some_iff.mp H
                    obtain ⟨t229, A1170, H⟩ := H
                    replace H : ((bits_Whole.f t229).bind fun t230 => (if (true != t230) = true then (some false) else ((bits_Odd.f a0).bind fun t231 => ((bits_Neg.f a0).bind fun t232 => ((bits_Odd.f t232).bind fun t233 => (if (t231 != t233) = true then (some false) else (if t201 = 0 then ((bits_Odd.f a0).bind fun t234 => (some (t234 == ((Int.tmod a0 2) == 1)))) else (some true)))))))) = some r := H
                    have A117 := Aside0.mk A1170
                    clear A1170
                    replace H := Option.bind_eq_some_iff.mp H
                    obtain ⟨t230, A1180, H⟩ := H
                    replace H : (if (true != t230) = true then (some false) else ((bits_Odd.f a0).bind fun t231 => ((bits_Neg.f a0).bind fun t232 => ((bits_Odd.f t232).bind fun t233 => (if (t231 != t233) = true then (some false) else (if t201 = 0 then ((bits_Odd.f a0).bind fun t234 => (some (t234 == ((Int.tmod a0 2) == 1)))) else (some true))))))) = some r := H
                    have A118 := Aside0.mk A1180
                    clear A1180
                    by_cases c119 : (true != t230) = true
                    · rw [if_pos c119] at H
                      have c119b0 : (true != t230) = true := c119
                      (try (have c119b1 : decide (true = t230) = false := by simpa using c119))
                      (try (have c119b2 : (true == t230) = false := by simpa using c119))
                      (try (have c119b3 : ¬ (true = t230) := by simpa using c119))
                      clear c119
                      obtain rfl := Option.some.inj H
                      go_wp2_with (first | (go_at_call 21; (with_reducible refine (bits_Whole.calls a0 true _ A19.out).mono ?_); rintro e w120 ⟨rfl, hb⟩; have n0_ := Aside0.mk (below_step (by repeat (first | (with_reducible first | exact HB.out | apply below_alloc | apply pw_below_drewN | apply below_drew1) | exact HB.out)) hb); clear HB; have HB := n0_; clear n0_; (try clear hb); (try clear hb2); (try clear hk); (try clear hi)) | (go_at_call 23; (with_reducible refine (bits_Odd.calls a0 true _ A112.out).mono ?_); rintro e w121 ⟨rfl, hb⟩; have n0_ := Aside0.mk (below_step (by repeat (first | (with_reducible first | exact HB.out | apply below_alloc | apply pw_below_drewN | apply below_drew1) | exact HB.out)) hb); clear HB; have HB := n0_; clear n0_; (try clear hb); (try clear hb2); (try clear hk); (try clear hi)) | (go_at_call 21; (with_reducible refine (bits_Whole.calls a0 true _ A114.out).mono ?_); rintro e w122 ⟨rfl, hb⟩; have n0_ := Aside0.mk (below_step (by repeat (first | (with_reducible first | exact HB.out | apply below_alloc | apply pw_below_drewN | apply below_drew1) | exact HB.out)) hb); clear HB; have HB := n0_; clear n0_; (try clear hb); (try clear hb2); (try clear hk); (try clear hi)) | (go_at_call 21; (with_reducible refine (bits_Whole.calls a0 true _ A116.out).mono ?_); rintro e w123 ⟨rfl, hb⟩; have n0_ := Aside0.mk (below_step (by repeat (first | (with_reducible first | exact HB.out | apply below_alloc | apply pw_below_drewN | apply below_drew1) | exact HB.out)) hb); clear HB; have HB := n0_; clear n0_; (try clear hb); (try clear hb2); (try clear hk); (try clear hi)) | (go_at_call 26; (with_reducible refine (bits_Neg.calls a0 t229 _ A117.out).mono ?_); rintro e w' ⟨rfl, ⟨nd, rfl⟩⟩) | (go_at_call 21; (with_reducible refine (bits_Whole.calls t229 t230 _ A118.out).mono ?_); rintro e w124 ⟨rfl, hb⟩; have n0_ := Aside0.mk (below_step (by repeat (first | (with_reducible first | exact HB.out | apply below_alloc | apply pw_below_drewN | apply below_drew1) | exact HB.out)) hb); clear HB; have HB := n0_; clear n0_; (try clear hb); (try clear hb2); (try clear hk); (try clear hi)))
                      go_ret
                      exact ⟨by first | rfl | (simp [errW_none, errW_some] <;> rfl) | (simp [*, errW_none, errW_some] <;> rfl), by repeat (first | (with_reducible first | exact HB.out | apply below_alloc | apply pw_below_drewN | apply below_drew1) | exact HB.out)⟩
                    · rw [if_neg c119] at H
                      have c119b0 : (true != t230) = false := by simpa using c119
                      (try (have c119b1 : decide (true = t230) = true := by simpa using c119))
                      (try (have c119b2 : (true == t230) = true := by simpa using c119))
                      clear c119
                      replace H := Option.bind_eq_some_iff.mp H
                      obtain ⟨t231, A1250, H⟩ := H
                      obtain rfl : t231 = true := Option.some.inj (A1250.symm.trans A112.out)
                      replace H : ((bits_Neg.f a0).bind fun t232 => ((bits_Odd.f t232).bind fun t233 => (if (true != t233) = true then (some false) else (if t201 = 0 then ((bits_Odd.f a0).bind fun t234 => (some (t234 == ((Int.tmod a0 2) == 1)))) else (some true))))) = some r := H
                      have A125 := Aside0.mk A1250
                      clear A1250
                      replace H := Option.bind_eq_some_iff.mp H
                      obtain ⟨t232, A1260, H⟩ := H
                      obtain rfl : t229 = t232 := Option.some.inj (A117.out.symm.trans A1260)
                      replace H : ((bits_Odd.f t229).bind fun t233 => (if (true != t233) = true then (some false) else (if t201 = 0 then ((bits_Odd.f a0).bind fun t234 => (some (t234 == ((Int.tmod a0 2) == 1)))) else (some true)))) = some r := H
                      have A126 := Aside0.mk A1260
                      clear A1260
                      replace H := Option.bind_eq_some_iff.mp H
                      obtain ⟨t233, A1270, H⟩ := H
                      replace H : (if (true != t233) = true then (some false) else (if t201 = 0 then ((bits_Odd.f a0).bind fun t234 => (some (t234 == ((Int.tmod a0 2) == 1)))) else (some true))) = some r := H
                      have A127 := Aside0.mk A1270
                      clear A1270
                      by_cases c128 : (true != t233) = true
                      · rw [if_pos c128] at H
                        have c128b0 : (true != t233) = true := c128
                        (try (have c128b1 : decide (true = t233) = false := by simpa using c128))
                        (try (have c128b2 : (true == t233) = false := by simpa using c128))
                        (try (have c128b3 : ¬ (true = t233) := by simpa using c128))
                        clear c128
                        obtain rfl := Option.some.inj H
                        go_wp2_with (first | (go_at_call 21; (with_reducible refine (bits_Whole.calls a0 true _ A19.out).mono ?_); rintro e w129 ⟨rfl, hb⟩; have n0_ := Aside0.mk (below_step (by repeat (first | (with_reducible first | exact HB.out | apply below_alloc | apply pw_below_drewN | apply below_drew1) | exact HB.out)) hb); clear HB; have HB := n0_; clear n0_; (try clear hb); (try clear hb2); (try clear hk); (try clear hi)) | (go_at_call 23; (with_reducible refine (bits_Odd.calls a0 true _ A112.out).mono ?_); rintro e w130 ⟨rfl, hb⟩; have n0_ := Aside0.mk (below_step (by repeat (first | (with_reducible first | exact HB.out | apply below_alloc | apply pw_below_drewN | apply below_drew1) | exact HB.out)) hb); clear HB; have HB := n0_; clear n0_; (try clear hb); (try clear hb2); (try clear hk); (try clear hi)) | (go_at_call 21; (with_reducible refine (bits_Whole.calls a0 true _ A114.out).mono ?_); rintro e w131 ⟨rfl, hb⟩; have n0_ := Aside0.mk (below_step (by repeat (first | (with_reducible first | exact HB.out | apply below_alloc | apply pw_below_drewN | apply below_drew1) | exact HB.out)) hb); clear HB; have HB := n0_; clear n0_; (try clear hb); (try clear hb2); (try clear hk); (try clear hi)) | (go_at_call 21; (with_reducible refine (bits_Whole.calls a0 true _ A116.out).mono ?_); rintro e w132 ⟨rfl, hb⟩; have n0_ := Aside0.mk (below_step (by repeat (first | (with_reducible first | exact HB.out | apply below_alloc | apply pw_below_drewN | apply below_drew1) | exact HB.out)) hb); clear HB; have HB := n0_; clear n0_; (try clear hb); (try clear hb2); (try clear hk); (try clear hi)) | (go_at_call 26; (with_reducible refine (bits_Neg.calls a0 t229 _ A117.out).mono ?_); rintro e w' ⟨rfl, ⟨nd, rfl⟩⟩) | (go_at_call 21; (with_reducible refine (bits_Whole.calls t229 t230 _ A118.out).mono ?_); rintro e w133 ⟨rfl, hb⟩; have n0_ := Aside0.mk (below_step (by repeat (first | (with_reducible first | exact HB.out | apply below_alloc | apply pw_below_drewN | apply below_drew1) | exact HB.out)) hb); clear HB; have HB := n0_; clear n0_; (try clear hb); (try clear hb2); (try clear hk); (try clear hi)) | (go_at_call 23; (with_reducible refine (bits_Odd.calls a0 true _ A125.out).mono ?_); rintro e w134 ⟨rfl, hb⟩; have n0_ := Aside0.mk (below_step (by repeat (first | (with_reducible first | exact HB.out | apply below_alloc | apply pw_below_drewN | apply below_drew1) | exact HB.out)) hb); clear HB; have HB := n0_; clear n0_; (try clear hb); (try clear hb2); (try clear hk); (try clear hi)) | (go_at_call 26; (with_reducible refine (bits_Neg.calls a0 t229 _ A126.out).mono ?_); rintro e w' ⟨rfl, ⟨nd, rfl⟩⟩) | (go_at_call 23; (with_reducible refine (bits_Odd.calls t229 t233 _ A127.out).mono ?_); rintro e w135 ⟨rfl, hb⟩; have n0_ := Aside0.mk (below_step (by repeat (first | (with_reducible first | exact HB.out | apply below_alloc | apply pw_below_drewN | apply below_drew1) | exact HB.out)) hb); clear HB; have HB := n0_; clear n0_; (try clear hb); (try clear hb2); (try clear hk); (try clear hi)))
                        go_ret
                        exact ⟨by first | rfl | (simp [errW_none, errW_some] <;> rfl) | (simp [*, errW_none, errW_some] <;> rfl), by repeat (first | (with_reducible first | exact HB.out | apply below_alloc | apply pw_below_drewN | apply below_drew1) | exact HB.out)⟩
                      · rw [if_neg c128] at H
                        have c128b0 : (true != t233) = false := by simpa using c128
                        (try (have c128b1 : decide (true = t233) = true := by simpa using c128))
                        (try (have c128b2 : (true == t233) = true := by simpa using c128))
                        clear c128
                        by_cases c136 : t201 = 0
                        · rw [if_pos c136] at H
                          have c136b0 : (t201 == 0) = true := beq_iff_eq.mpr c136
                          have c136b1 : (t201 != 0) = false := bne_eq_false_iff_eq.mpr c136
                          clear c136
                          replace H := Option.bind_eq_some_iff.mp H
                          obtain ⟨t234, A1370, H⟩ := H
                          obtain rfl : t234 = true := Option.some.inj (A1370.symm.trans A112.out)
                          replace H : (some (true == ((Int.tmod a0 2) == 1))) = some r := H
                          have A137 := Aside0.mk A1370
                          clear A1370
                          obtain rfl := Option.some.inj H
                          go_wp2_with (first | (go_at_call 21; (with_reducible refine (bits_Whole.calls a0 true _ A19.out).mono ?_); rintro e w138 ⟨rfl, hb⟩; have n0_ := Aside0.mk (below_step (by repeat (first | (with_reducible first | exact HB.out | apply below_alloc | apply pw_below_drewN | apply below_drew1) | exact HB.out)) hb); clear HB; have HB := n0_; clear n0_; (try clear hb); (try clear hb2); (try clear hk); (try clear hi)) | (go_at_call 23; (with_reducible refine (bits_Odd.calls a0 true _ A112.out).mono ?_); rintro e w139 ⟨rfl, hb⟩; have n0_ := Aside0.mk (below_step (by repeat (first | (with_reducible first | exact HB.out | apply below_alloc | apply pw_below_drewN | apply below_drew1) | exact HB.out)) hb); clear HB; have HB := n0_; clear n0_; (try clear hb); (try clear hb2); (try clear hk); (try clear hi)) | (go_at_call 21; (with_reducible refine (bits_Whole.calls a0 true _ A114.out).mono ?_); rintro e w140 ⟨rfl, hb⟩; have n0_ := Aside0.mk (below_step (by repeat (first | (with_reducible first | exact HB.out | apply below_alloc | apply pw_below_drewN | apply below_drew1) | exact HB.out)) hb); clear HB; have HB := n0_; clear n0_; (try clear hb); (try clear hb2); (try clear hk); (try clear hi)) | (go_at_call 21; (with_reducible refine (bits_Whole.calls a0 true _ A116.out).mono ?_); rintro e w141 ⟨rfl, hb⟩; have n0_ := Aside0.mk (below_step (by repeat (first | (with_reducible first | exact HB.out | apply below_alloc | apply pw_below_drewN | apply below_drew1) | exact HB.out)) hb); clear HB; have HB := n0_; clear n0_; (try clear hb); (try clear hb2); (try clear hk); (try clear hi)) | (go_at_call 26; (with_reducible refine (bits_Neg.calls a0 t229 _ A117.out).mono ?_); rintro e w' ⟨rfl, ⟨nd, rfl⟩⟩) | (go_at_call 21; (with_reducible refine (bits_Whole.calls t229 t230 _ A118.out).mono ?_); rintro e w142 ⟨rfl, hb⟩; have n0_ := Aside0.mk (below_step (by repeat (first | (with_reducible first | exact HB.out | apply below_alloc | apply pw_below_drewN | apply below_drew1) | exact HB.out)) hb); clear HB; have HB := n0_; clear n0_; (try clear hb); (try clear hb2); (try clear hk); (try clear hi)) | (go_at_call 23; (with_reducible refine (bits_Odd.calls a0 true _ A125.out).mono ?_); rintro e w143 ⟨rfl, hb⟩; have n0_ := Aside0.mk (below_step (by repeat (first | (with_reducible first | exact HB.out | apply below_alloc | apply pw_below_drewN | apply below_drew1) | exact HB.out)) hb); clear HB; have HB := n0_; clear n0_; (try clear hb); (try clear hb2); (try clear hk); (try clear hi)) | (go_at_call 26; (with_reducible refine (bits_Neg.calls a0 t229 _ A126.out).mono ?_); rintro e w' ⟨rfl, ⟨nd, rfl⟩⟩) | (go_at_call 23; (with_reducible refine (bits_Odd.calls t229 t233 _ A127.out).mono ?_); rintro e w144 ⟨rfl, hb⟩; have n0_ := Aside0.mk (below_step (by repeat (first | (with_reducible first | exact HB.out | apply below_alloc | apply pw_below_drewN | apply below_drew1) | exact HB.out)) hb); clear HB; have HB := n0_; clear n0_; (try clear hb); (try clear hb2); (try clear hk); (try clear hi)) | (go_at_call 23; (with_reducible refine (bits_Odd.calls a0 true _ A137.out).mono ?_); rintro e w145 ⟨rfl, hb⟩; have n0_ := Aside0.mk (below_step (by repeat (first | (with_reducible first | exact HB.out | apply below_alloc | apply pw_below_drewN | apply below_drew1) | exact HB.out)) hb); clear HB; have HB := n0_; clear n0_; (try clear hb); (try clear hb2); (try clear hk); (try clear hi)))
                          go_ret
                          exact ⟨by first | rfl | (simp [errW_none, errW_some] <;> rfl) | (simp [*, errW_none, errW_some] <;> rfl), by repeat (first | (with_reducible first | exact HB.out | apply below_alloc | apply pw_below_drewN | apply below_drew1) | exact HB.out)⟩
                        · rw [if_neg c136] at H
                          have c136b0 : (t201 == 0) = false := beq_eq_false_iff_ne.mpr c136
                          have c136b1 : (t201 != 0) = true := bne_iff_ne.mpr c136
                          obtain rfl := Option.some.inj H
                          go_wp2_with (first | (go_at_call 21; (with_reducible refine (bits_Whole.calls a0 true _ A19.out).mono ?_); rintro e w146 ⟨rfl, hb⟩; have n0_ := Aside0.mk (below_step (by repeat (first | (with_reducible first | exact HB.out | apply below_alloc | apply pw_below_drewN | apply below_drew1) | exact HB.out)) hb); clear HB; have HB := n0_; clear n0_; (try clear hb); (try clear hb2); (try clear hk); (try clear hi)) | (go_at_call 23; (with_reducible refine (bits_Odd.calls a0 true _ A112.out).mono ?_); rintro e w147 ⟨rfl, hb⟩; have n0_ := Aside0.mk (below_step (by repeat (first | (with_reducible first | exact HB.out | apply below_alloc | apply pw_below_drewN | apply below_drew1) | exact HB.out)) hb); clear HB; have HB := n0_; clear n0_; (try clear hb); (try clear hb2); (try clear hk); (try clear hi)) | (go_at_call 21; (with_reducible refine (bits_Whole.calls a0 true _ A114.out).mono ?_); rintro e w148 ⟨rfl, hb⟩; have n0_ := Aside0.mk (below_step (by repeat (first | (with_reducible first | exact HB.out | apply below_alloc | apply pw_below_drewN | apply below_drew1) | exact HB.out)) hb); clear HB; have HB := n0_; clear n0_; (try clear hb); (try clear hb2); (try clear hk); (try clear hi)) | (go_at_call 21; (with_reducible refine (bits_Whole.calls a0 true _ A116.out).mono ?_); rintro e w149 ⟨rfl, hb⟩; have n0_ := Aside0.mk (below_step (by repeat (first | (with_reducible first | exact HB.out | apply below_alloc | apply pw_below_drewN | apply below_drew1) | exact HB.out)) hb); clear HB; have HB := n0_; clear n0_; (try clear hb); (try clear hb2); (try clear hk); (try clear hi)) | (go_at_call 26; (with_reducible refine (bits_Neg.calls a0 t229 _ A117.out).mono ?_); rintro e w' ⟨rfl, ⟨nd, rfl⟩⟩) | (go_at_call 21; (with_reducible refine (bits_Whole.calls t229 t230 _ A118.out).mono ?_); rintro e w150 ⟨rfl, hb⟩; have n0_ := Aside0.mk (below_step (by repeat (first | (with_reducible first | exact HB.out | apply below_alloc | apply pw_below_drewN | apply below_drew1) | exact HB.out)) hb); clear HB; have HB := n0_; clear n0_; (try clear hb); (try clear hb2); (try clear hk); (try clear hi)) | (go_at_call 23; (with_reducible refine (bits_Odd.calls a0 true _ A125.out).mono ?_); rintro e w151 ⟨rfl, hb⟩; have n0_ := Aside0.mk (below_step (by repeat (first | (with_reducible first | exact HB.out | apply below_alloc | apply pw_below_drewN | apply below_drew1) | exact HB.out)) hb); clear HB; have HB := n0_; clear n0_; (try clear hb); (try clear hb2); (try clear hk); (try clear hi)) | (go_at_call 26; (with_reducible refine (bits_Neg.calls a0 t229 _ A126.out).mono ?_); rintro e w' ⟨rfl, ⟨nd, rfl⟩⟩) | (go_at_call 23; (with_reducible refine (bits_Odd.calls t229 t233 _ A127.out).mono ?_); rintro e w152 ⟨rfl, hb⟩; have n0_ := Aside0.mk (below_step (by repeat (first | (with_reducible first | exact HB.out | apply below_alloc | apply pw_below_drewN | apply below_drew1) | exact HB.out)) hb); clear HB; have HB := n0_; clear n0_; (try clear hb); (try clear hb2); (try clear hk); (try clear hi)))
                          go_ret
                          exact ⟨by first | rfl | (simp [errW_none, errW_some] <;> rfl) | (simp [*, errW_none, errW_some] <;> rfl), by repeat (first | (with_reducible first | exact HB.out | apply below_alloc | apply pw_below_drewN | apply below_drew1) | exact HB.out)⟩
                  · exact absurd rfl c115
                · replace c113 := Bool.eq_false_iff.mpr c113
                  subst c113
                  have H1 : ((bits_Whole.f a0).bind fun t235 => ((bits_Neg.f a0).bind fun t236 => ((bits_Whole.f t236).bind fun t237 => (if (t235 != t237) = true then (some false) else ((bits_Odd.f a0).bind fun t238 => ((bits_Neg.f a0).bind fun t239 => ((bits_Odd.f t239).bind fun t240 => (if (t238 != t240) = true then (some false) else (if t201 = 0 then ((bits_Odd.f a0).bind fun t241 => (some (t241 == ((Int.tmod a0 2) == 1)))) else (some true)))))))))) = some r := by rw [if_neg (show ¬ (false = true) by decide)] at H; exact H
                  clear H
                  have H := H1
                  clear H1
                  replace H := Option.bind_eq_some_iff.mp H
                  obtain ⟨t235, A1560, H⟩ := H
                  obtain rfl : t235 = true := Option.some.inj (A1560.symm.trans A19.out)
                  replace H : ((bits_Neg.f a0).bind fun t236 => ((bits_Whole.f t236).bind fun t237 => (if (true != t237) = true then (some false) else ((bits_Odd.f a0).bind fun t238 => ((bits_Neg.f a0).bind fun t239 => ((bits_Odd.f t239).bind fun t240 => (if (t238 != t240) = true then (some false) else (if t201 = 0 then ((bits_Odd.f a0).bind fun t241 => (some (t241 == ((Int.tmod a0 2) == 1)))) else (some true))))))))) = some r := H
                  have A156 := Aside0.mk A1560
                  clear A1560
                  replace H := Option.bind_eq_some_iff.mp H
                  obtain ⟨t236, A1570, H⟩ := H
                  replace H : ((bits_Whole.f t236).bind fun t237 => (if (true != t237) = true then (some false) else ((bits_Odd.f a0).bind fun t238 => ((bits_Neg.f a0).bind fun t239 => ((bits_Odd.f t239).bind fun t240 => (if (t238 != t240) = true then (some false) else (if t201 = 0 then ((bits_Odd.f a0).bind fun t241 => (some (t241 == ((Int.tmod a0 2) == 1)))) else (some true)))))))) = some r := H
                  have A157 := Aside0.mk A1570
                  clear A1570
                  replace H := Option.bind_eq_some_iff.mp H
                  obtain ⟨t237, A1580, H⟩ := H
                  replace H : (if (true != t237) = true then (some false) else ((bits_Odd.f a0).bind fun t238 => ((bits_Neg.f a0).bind fun t239 => ((bits_Odd.f t239).bind fun t240 => (if (t238 != t240) = true then (some false) else (if t201 = 0 then ((bits_Odd.f a0).bind fun t241 => (some (t241 == ((Int.tmod a0 2) == 1)))) else (some true))))))) = some r := H
                  have A158 := Aside0.mk A1580
                  clear A1580
                  by_cases c159 : (true != t237) = true
                  · rw [if_pos c159] at H
                    have c159b0 : (true != t237) = true := c159
                    (try (have c159b1 : decide (true = t237) = false := by simpa using c159))
                    (try (have c159b2 : (true == t237) = false := by simpa using c159))
                    (try (have c159b3 : ¬ (true = t237) := by simpa using c159))
                    clear c159
                    obtain rfl := Option.some.inj H
                    go_wp2_with (first | (go_at_call 21; (with_reducible refine (bits_Whole.calls a0 true _ A19.out).mono ?_); rintro e w160 ⟨rfl, hb⟩; have n0_ := Aside0.mk (below_step (by repeat (first | (with_reducible first | exact HB.out | apply below_alloc | apply pw_below_drewN | apply below_drew1) | exact HB.out)) hb); clear HB; have HB := n0_; clear n0_; (try clear hb); (try clear hb2); (try clear hk); (try clear hi)) | (go_at_call 23; (with_reducible refine (bits_Odd.calls a0 false _ A112.out).mono ?_); rintro e w161 ⟨rfl, hb⟩; have n0_ := Aside0.mk (below_step (by repeat (first | (with_reducible first | exact HB.out | apply below_alloc | apply pw_below_drewN | apply below_drew1) | exact HB.out)) hb); clear HB; have HB := n0_; clear n0_; (try clear hb); (try clear hb2); (try clear hk); (try clear hi)) | (go_at_call 21; (with_reducible refine (bits_Whole.calls a0 true _ A156.out).mono ?_); rintro e w162 ⟨rfl, hb⟩; have n0_ := Aside0.mk (below_step (by repeat (first | (with_reducible first | exact HB.out | apply below_alloc | apply pw_below_drewN | apply below_drew1) | exact HB.out)) hb); clear HB; have HB := n0_; clear n0_; (try clear hb); (try clear hb2); (try clear hk); (try clear hi)) | (go_at_call 26; (with_reducible refine (bits_Neg.calls a0 t236 _ A157.out).mono ?_); rintro e w' ⟨rfl, ⟨nd, rfl⟩⟩) | (go_at_call 21; (with_reducible refine (bits_Whole.calls t236 t237 _ A158.out).mono ?_); rintro e w163 ⟨rfl, hb⟩; have n0_ := Aside0.mk (below_step (by repeat (first | (with_reducible first | exact HB.out | apply below_alloc | apply pw_below_drewN | apply below_drew1) | exact HB.out)) hb); clear HB; have HB := n0_; clear n0_; (try clear hb); (try clear hb2); (try clear hk); (try clear hi)))
                    go_ret
                    exact ⟨by first | rfl | (simp [errW_none, errW_some] <;> rfl) | (simp [*, errW_none, errW_some] <;> rfl), by repeat (first | (with_reducible first | exact HB.out | apply below_alloc | apply pw_below_drewN | apply below_drew1) | exact HB.out)⟩
                  · rw [if_neg c159] at H
                    have c159b0 : (true != t237) = false := by simpa using c159
                    (try (have c159b1 : decide (true = t237) = true := by simpa using c159))
                    (try (have c159b2 : (true == t237) = true := by simpa using c159))
                    clear c159
                    replace H := Option.bind_eq_some_iff.mp H
                    obtain ⟨t238, A1640, H⟩ := H
                    obtain rfl : t238 = false := Option.some.inj (A1640.symm.trans A112.out)
                    replace H : ((bits_Neg.f a0).bind fun t239 => ((bits_Odd.f t239).bind fun t240 => (if (false != t240) = true then (some false) else (if t201 = 0 then ((bits_Odd.f a0).bind fun t241 => (some (t241 == ((Int.tmod a0 2) == 1)))) else (some true))))) = some r := H
                    have A164 := Aside0.mk A1640
                    clear A1640
                    replace H := Option.bind_eq_some_iff.mp H
                    obtain ⟨t239, A1650, H⟩ := H
                    obtain rfl : t236 = t239 := Option.some.inj (A157.out.symm.trans A1650)
                    replace H : ((bits_Odd.f t236).bind fun t240 => (if (false != t240) = true then (some false) else (if t201 = 0 then ((bits_Odd.f a0).bind fun t241 => (some (t241 == ((Int.tmod a0 2) == 1)))) else (some true)))) = some r := H
                    have A165 := Aside0.mk A1650
                    clear A1650
                    replace H := Option.bind_eq_some_iff.mp H
                    obtain ⟨t240, A1660, H⟩ := H
                    replace H : (if (false != t240) = true then (some false) else (if t201 = 0 then ((bits_Odd.f a0).bind fun t241 => (some (t241 == ((Int.tmod a0 2) == 1)))) else (some true))) = some r := H
                    have A166 := Aside0.mk A1660
                    clear A1660
                    by_cases c167 : (false != t240) = true
                    · rw [if_pos c167] at H
                      have c167b0 : (false != t240) = true := c167
                      (try (have c167b1 : decide (false = t240) = false := by simpa using c167))
                      (try (have c167b2 : (false == t240) = false := by simpa using c167))
                      (try (have c167b3 : ¬ (false = t240) := by simpa using c167))
                      clear c167
                      obtain rfl := Option.some.inj H
                      go_wp2_with (first | (go_at_call 21; (with_reducible refine (bits_Whole.calls a0 true _ A19.out).mono ?_); rintro e w168 ⟨rfl, hb⟩; have n0_ := Aside0.mk (below_step (by repeat (first | (with_reducible first | exact HB.out | apply below_alloc | apply pw_below_drewN | apply below_drew1) | exact HB.out)) hb); clear HB; have HB := n0_; clear n0_; (try clear hb); (try clear hb2); (try clear hk); (try clear hi)) | (go_at_call 23; (with_reducible refine (bits_Odd.calls a0 false _ A112.out).mono ?_); rintro e w169 ⟨rfl, hb⟩; have n0_ := Aside0.mk (below_step (by repeat (first | (with_reducible first | exact HB.out | apply below_alloc | apply pw_below_drewN | apply below_drew1) | exact HB.out)) hb); clear HB; have HB := n0_; clear n0_; (try clear hb); (try clear hb2); (try clear hk); (try clear hi)) | (go_at_call 21; (with_reducible refine (bits_Whole.calls a0 true _ A156.out).mono ?_); rintro e w170 ⟨rfl, hb⟩; have n0_ := Aside0.mk (below_step (by repeat (first | (with_reducible first | exact HB.out | apply below_alloc | apply pw_below_drewN | apply below_drew1) | exact HB.out)) hb); clear HB; have HB := n0_; clear n0_; (try clear hb); (try clear hb2); (try clear hk); (try clear hi)) | (go_at_call 26; (with_reducible refine (bits_Neg.calls a0 t236 _ A157.out).mono ?_); rintro e w' ⟨rfl, ⟨nd, rfl⟩⟩) | (go_at_call 21; (with_reducible refine (bits_Whole.calls t236 t237 _ A158.out).mono ?_); rintro e w171 ⟨rfl, hb⟩; have n0_ := Aside0.mk (below_step (by repeat (first | (with_reducible first | exact HB.out | apply below_alloc | apply pw_below_drewN | apply below_drew1) | exact HB.out)) hb); clear HB; have HB := n0_; clear n0_; (try clear hb); (try clear hb2); (try clear hk); (try clear hi)) | (go_at_call 23; (with_reducible refine (bits_Odd.calls a0 false _ A164.out).mono ?_); rintro e w172 ⟨rfl, hb⟩; have n0_ := Aside0.mk (below_step (by repeat (first | (with_reducible first | exact HB.out | apply below_alloc | apply pw_below_drewN | apply below_drew1) | exact HB.out)) hb); clear HB; have HB := n0_; clear n0_; (try clear hb); (try clear hb2); (try clear hk); (try clear hi)) | (go_at_call 26; (with_reducible refine (bits_Neg.calls a0 t236 _ A165.out).mono ?_); rintro e w' ⟨rfl, ⟨nd, rfl⟩⟩) | (go_at_call 23; (with_reducible refine (bits_Odd.calls t236 t240 _ A166.out).mono ?_); rintro e w173 ⟨rfl, hb⟩; have n0_ := Aside0.mk (below_step (by repeat (first | (with_reducible first | exact HB.out | apply below_alloc | apply pw_below_drewN | apply below_drew1) | exact HB.out)) hb); clear HB; have HB := n0_; clear n0_; (try clear hb); (try clear hb2); (try clear hk); (try clear hi)))
                      go_ret
                      exact ⟨by first | rfl | (simp [errW_none, errW_some] <;> rfl) | (simp [*, errW_none, errW_some] <;> rfl), by repeat (first | (with_reducible first | exact HB.out | apply below_alloc | apply pw_below_drewN | apply below_drew1) | exact HB.out)⟩
                    · rw [if_neg c167] at H
                      have c167b0 : (false != t240) = false := by simpa using c167
                      (try (have c167b1 : decide (false = t240) = true := by simpa using c167))
                      (try (have c167b2 : (false == t240) = true := by simpa using c167))
                      clear c167
                      by_cases c174 : t201 = 0
                      · rw [if_pos c174] at H
                        have c174b0 : (t201 == 0) = true := beq_iff_eq.mpr c174
                        have c174b1 : (t201 != 0) = false := bne_eq_false_iff_eq.mpr c174
                        clear c174
                        replace H := Option.bind_eq_some_iff.mp H
                        obtain ⟨t241, A1750, H⟩ := H
                        obtain rfl : t241 = false := Option.some.inj (A1750.symm.trans A112.out)
                        replace H : (some (false == ((Int.tmod a0 2) == 1))) = some r := H
                        have A175 := Aside0.mk A1750
                        clear A1750
                        obtain rfl := Option.some.inj H
                        go_wp2_with (first | (go_at_call 21; (with_reducible refine (bits_Whole.calls a0 true _ A19.out).mono ?_); rintro e w176 ⟨rfl, hb⟩; have n0_ := Aside0.mk (below_step (by repeat (first | (with_reducible first | exact HB.out | apply below_alloc | apply pw_below_drewN | apply below_drew1) | exact HB.out)) hb); clear HB; have HB := n0_; clear n0_; (try clear hb); (try clear hb2); (try clear hk); (try clear hi)) | (go_at_call 23; (with_reducible refine (bits_Odd.calls a0 false _ A112.out).mono ?_); rintro e w177 ⟨rfl, hb⟩; have n0_ := Aside0.mk (below_step (by repeat (first | (with_reducible first | exact HB.out | apply below_alloc | apply pw_below_drewN | apply below_drew1) | exact HB.out)) hb); clear HB; have HB := n0_; clear n0_; (try clear hb); (try clear hb2); (try clear hk); (try clear hi)) | (go_at_call 21; (with_reducible refine (bits_Whole.calls a0 true _ A156.out).mono ?_); rintro e w178 ⟨rfl, hb⟩; have n0_ := Aside0.mk (below_step (by repeat (first | (with_reducible first | exact HB.out | apply below_alloc | apply pw_below_drewN | apply below_drew1) | exact HB.out)) hb); clear HB; have HB := n0_; clear n0_; (try clear hb); (try clear hb2); (try clear hk); (try clear hi)) | (go_at_call 26; (with_reducible refine (bits_Neg.calls a0 t236 _ A157.out).mono ?_); rintro e w' ⟨rfl, ⟨nd, rfl⟩⟩) | (go_at_call 21; (with_reducible refine (bits_Whole.calls t236 t237 _ A158.out).mono ?_); rintro e w179 ⟨rfl, hb⟩; have n0_ := Aside0.mk (below_step (by repeat (first | (with_reducible first | exact HB.out | apply below_alloc | apply pw_below_drewN | apply below_drew1) | exact HB.out)) hb); clear HB; have HB := n0_; clear n0_; (try clear hb); (try clear hb2); (try clear hk); (try clear hi)) | (go_at_call 23; (with_reducible refine (bits_Odd.calls a0 false _ A164.out).mono ?_); rintro e w180 ⟨rfl, hb⟩; have n0_ := Aside0.mk (below_step (by repeat (first | (with_reducible first | exact HB.out | apply below_alloc | apply pw_below_drewN | apply below_drew1) | exact HB.out)) hb); clear HB; have HB := n0_; clear n0_; (try clear hb); (try clear hb2); (try clear hk); (try clear hi)) | (go_at_call 26; (with_reducible refine (bits_Neg.calls a0 t236 _ A165.out).mono ?_); rintro e w' ⟨rfl, ⟨nd, rfl⟩⟩) | (go_at_call 23; (with_reducible refine (bits_Odd.calls t236 t240 _ A166.out).mono ?_); rintro e w181 ⟨rfl, hb⟩; have n0_ := Aside0.mk (below_step (by repeat (first | (with_reducible first | exact HB.out | apply below_alloc | apply pw_below_drewN | apply below_drew1) | exact HB.out)) hb); clear HB; have HB := n0_; clear n0_; (try clear hb); (try clear hb2); (try clear hk); (try clear hi)) | (go_at_call 23; (with_reducible refine (bits_Odd.calls a0 false _ A175.out).mono ?_); rintro e w182 ⟨rfl, hb⟩; have n0_ := Aside0.mk (below_step (by repeat (first | (with_reducible first | exact HB.out | apply below_alloc | apply pw_below_drewN | apply below_drew1) | exact HB.out)) hb); clear HB; have HB := n0_; clear n0_; (try clear hb); (try clear hb2); (try clear hk); (try clear hi)))
                        go_ret
                        exact ⟨by first | rfl | (simp [errW_none, errW_some] <;> rfl) | (simp [*, errW_none, errW_some] <;> rfl), by repeat (first | (with_reducible first | exact HB.out | apply below_alloc | apply pw_below_drewN | apply below_drew1) | exact HB.out)⟩
                      · rw [if_neg c174] at H
                        have c174b0 : (t201 == 0) = false := beq_eq_false_iff_ne.mpr c174
                        have c174b1 : (t201 != 0) = true := bne_iff_ne.mpr c174
                        obtain rfl := Option.some.inj H
                        go_wp2_with (first | (go_at_call 21; (with_reducible refine (bits_Whole.calls a0 true _ A19.out).mono ?_); rintro e w183 ⟨rfl, hb⟩; have n0_ := Aside0.mk (below_step (by repeat (first | (with_reducible first | exact HB.out | apply below_alloc | apply pw_below_drewN | apply below_drew1) | exact HB.out)) hb); clear HB; have HB := n0_; clear n0_; (try clear hb); (try clear hb2); (try clear hk); (try clear hi)) | (go_at_call 23; (with_reducible refine (bits_Odd.calls a0 false _ A112.out).mono ?_); rintro e w184 ⟨rfl, hb⟩; have n0_ := Aside0.mk (below_step (by repeat (first | (with_reducible first | exact HB.out | apply below_alloc | apply pw_below_drewN | apply below_drew1) | exact HB.out)) hb); clear HB; have HB := n0_; clear n0_; (try clear hb); (try clear hb2); (try clear hk); (try clear hi)) | (go_at_call 21; (with_reducible refine (bits_Whole.calls a0 true _ A156.out).mono ?_); rintro e w185 ⟨rfl, hb⟩; have n0_ := Aside0.mk (below_step (by repeat (first | (with_reducible first | exact HB.out | apply below_alloc | apply pw_below_drewN | apply below_drew1) | exact HB.out)) hb); clear HB; have HB := n0_; clear n0_; (try clear hb); (try clear hb2); (try clear hk); (try clear hi)) | (go_at_call 26; (with_reducible refine (bits_Neg.calls a0 t236 _ A157.out).mono ?_); rintro e w' ⟨rfl, ⟨nd, rfl⟩⟩) | (go_at_call 21; (with_reducible refine (bits_Whole.calls t236 t237 _ A158.out).mono ?_); rintro e w186 ⟨rfl, hb⟩; have n0_ := Aside0.mk (below_step (by repeat (first | (with_reducible first | exact HB.out | apply below_alloc | apply pw_below_drewN | apply below_drew1) | exact HB.out)) hb); clear HB; have HB := n0_; clear n0_; (try clear hb); (try clear hb2); (try clear hk); (try clear hi)) | (go_at_call 23; (with_reducible refine (bits_Odd.calls a0 false _ A164.out).mono ?_); rintro e w187 ⟨rfl, hb⟩; have n0_ := Aside0.mk (below_step (by repeat (first | (with_reducible first | exact HB.out | apply below_alloc | apply pw_below_drewN | apply below_drew1) | exact HB.out)) hb); clear HB; have HB := n0_; clear n0_; (try clear hb); (try clear hb2); (try clear hk); (try clear hi)) | (go_at_call 26; (with_reducible refine (bits_Neg.calls a0 t236 _ A165.out).mono ?_); rintro e w' ⟨rfl, ⟨nd, rfl⟩⟩) | (go_at_call 23; (with_reducible refine (bits_Odd.calls t236 t240 _ A166.out).mono ?_); rintro e w188 ⟨rfl, hb⟩; have n0_ := Aside0.mk (below_step (by repeat (first | (with_reducible first | exact HB.out | apply below_alloc | apply pw_below_drewN | apply below_drew1) | exact HB.out)) hb); clear HB; have HB := n0_; clear n0_; (try clear hb); (try clear hb2); (try clear hk); (try clear hi)))
                        go_ret
                        exact ⟨by first | rfl | (simp [errW_none, errW_some] <;> rfl) | (simp [*, errW_none, errW_some] <;> rfl), by repeat (first | (with_reducible first | exact HB.out | apply below_alloc | apply pw_below_drewN | apply below_drew1) | exact HB.out)⟩
            · replace c20 := Bool.eq_false_iff.mpr c20
              subst c20
              have H1 : (some false) = some r := by rw [if_neg (show ¬ (false = true) by decide)] at H; exact H
              clear H
              have H := H1
              clear H1
              obtain rfl := Option.some.inj H
              go_wp2_with (first | (go_at_call 21; (with_reducible refine (bits_Whole.calls a0 false _ A19.out).mono ?_); rintro e w189 ⟨rfl, hb⟩; have n0_ := Aside0.mk (below_step (by repeat (first | (with_reducible first | exact HB.out | apply below_alloc | apply pw_below_drewN | apply below_drew1) | exact HB.out)) hb); clear HB; have HB := n0_; clear n0_; (try clear hb); (try clear hb2); (try clear hk); (try clear hi)))
              go_ret
              exact ⟨by first | rfl | (simp [errW_none, errW_some] <;> rfl) | (simp [*, errW_none, errW_some] <;> rfl), by repeat (first | (with_reducible first | exact HB.out | apply below_alloc | apply pw_below_drewN | apply below_drew1) | exact HB.out)⟩
          · rw [if_neg c18] at H
            have c18b0 : decide (0 ≤ t201) = false := decide_eq_false c18
            clear c18
            by_cases c190 : t201 > 0
            · rw [if_pos c190] at H
              have c190b0 : decide (0 < t201) = true := decide_eq_true c190
              clear c190
              replace H := Option.bind_eq_some_iff.mp H
              obtain ⟨t242, A1910, H⟩ := H
              replace H : (if t242 = true then (some false) else ((bits_Odd.f a0).bind fun t243 => (if t243 = true then ((bits_Whole.f a0).bind fun t244 => (if t244 = true then ((bits_Whole.f a0).bind fun t245 => ((bits_Neg.f a0).bind fun t246 => ((bits_Whole.f t246).bind fun t247 => (if (t245 != t247) = true then (some false) else ((bits_Odd.f a0).bind fun t248 => ((bits_Neg.f a0).bind fun t249 => ((bits_Odd.f t249).bind fun t250 => (if (t248 != t250) = true then (some false) else (if t201 = 0 then ((bits_Odd.f a0).bind fun t251 => (some (t251 == ((Int.tmod a0 2) == 1)))) else (some true)))))))))) else (some false))) else ((bits_Whole.f a0).bind fun t252 => ((bits_Neg.f a0).bind fun t253 => ((bits_Whole.f t253).bind fun t254 => (if (t252 != t254) = true then (some false) else ((bits_Odd.f a0).bind fun t255 => ((bits_Neg.f a0).bind fun t256 => ((bits_Odd.f t256).bind fun t257 => (if (t255 != t257) = true then (some false) else (if t201 = 0 then ((bits_Odd.f a0).bind fun t258 => (some (t258 == ((Int.tmod a0 2) == 1)))) else (some true))))))))))))) = some r := H
              have A191 := Aside0.mk A1910
              clear A1910
              by_cases c192 : t242 = true
              · subst c192
                have H1 : (some false) = some r := by rw [if_pos rfl] at H; exact H
                clear H
                have H := H1
                clear H1
                obtain rfl := Option.some.inj H
                go_wp2_with (first | (go_at_call 23; (with_reducible refine (bits_Odd.calls a0 true _ A191.out).mono ?_); rintro e w193 ⟨rfl, hb⟩; have n0_ := Aside0.mk (below_step (by repeat (first | (with_reducible first | exact HB.out | apply below_alloc | apply pw_below_drewN | apply below_drew1) | exact HB.out)) hb); clear HB; have HB := n0_; clear n0_; (try clear hb); (try clear hb2); (try clear hk); (try clear hi)))
                go_ret
                exact ⟨by first | rfl | (simp [errW_none, errW_some] <;> rfl) | (simp [*, errW_none, errW_some] <;> rfl), by repeat (first | (with_reducible first | exact HB.out | apply below_alloc | apply pw_below_drewN | apply below_drew1) | exact HB.out)⟩
              · replace c192 := Bool.eq_false_iff.mpr c192
                subst c192
                have H1 : ((bits_Odd.f a0).bind fun t243 => (if t243 = true then ((bits_Whole.f a0).bind fun t244 => (if t244 = true then ((bits_Whole.f a0).bind fun t245 => ((bits_Neg.f a0).bind fun t246 => ((bits_Whole.f t246).bind fun t247 => (if (t245 != t247) = true then (some false) else ((bits_Odd.f a0).bind fun t248 => ((bits_Neg.f a0).bind fun t249 => ((bits_Odd.f t249).bind fun t250 => (if (t248 != t250) = true then (some false) else (if t201 = 0 then ((bits_Odd.f a0).bind fun t251 => (some (t251 == ((Int.tmod a0 2) == 1)))) else (some true)))))))))) else (some false))) else ((bits_Whole.f a0).bind fun t252 => ((bits_Neg.f a0).bind fun t253 => ((bits_Whole.f t253).bind fun t254 => (if (t252 != t254) = true then (some false) else ((bits_Odd.f a0).bind fun t255 => ((bits_Neg.f a0).bind fun t256 => ((bits_Odd.f t256).bind fun t257 => (if (t255 != t257) = true then (some false) else (if t201 = 0 then ((bits_Odd.f a0).bind fun t258 => (some (t258 == ((Int.tmod a0 2) == 1)))) else (some true)))))))))))) = some r := by rw [if_neg (show ¬ (false = true) by decide)] at H; exact H
                clear H
                have H := H1
                clear H1
                replace H := Option.bind_eq_some_iff.mp H
                obtain ⟨t243, A1940, H⟩ := H
                obtain rfl : t243 = false := Option.some.inj (A1940.symm.trans A191.out)
                replace H : (if false = true then ((bits_Whole.f a0).bind fun t244 => (if t244 = true then ((bits_Whole.f a0).bind fun t245 => ((bits_Neg.f a0).bind fun t246 => ((bits_Whole.f t246).bind fun t247 => (if (t245 != t247) = true then (some false) else ((bits_Odd.f a0).bind fun t248 => ((bits_Neg.f a0).bind fun t249 => ((bits_Odd.f t249).bind fun t250 => (if (t248 != t250) = true then (some false) else (if t201 = 0 then ((bits_Odd.f a0).bind fun t251 => (some (t251 == ((Int.tmod a0 2) == 1)))) else (some true)))))))))) else (some false))) else ((bits_Whole.f a0).bind fun t252 => ((bits_Neg.f a0).bind fun t253 => ((bits_Whole.f t253).bind fun t254 => (if (t252 != t254) = true then (some false) else ((bits_Odd.f a0).bind fun t255 => ((bits_Neg.f a0).bind fun t256 => ((bits_Odd.f t256).bind fun t257 => (if (t255 != t257) = true then (some false) else (if t201 = 0 then ((bits_Odd.f a0).bind fun t258 => (some (t258 == ((Int.tmod a0 2) == 1)))) else (some true))))))))))) = some r := H
                have A194 := Aside0.mk A1940
                clear A1940
                by_cases c195 : false = true
                · exact absurd c195 (by decide)
                · replace c195 := Bool.eq_false_iff.mpr c195
                  clear c195
                  have H1 : ((bits_Whole.f a0).bind fun t252 => ((bits_Neg.f a0).bind fun t253 => ((bits_Whole.f t253).bind fun t254 => (if (t252 != t254) = true then (some false) else ((bits_Odd.f a0).bind fun t255 => ((bits_Neg.f a0).bind fun t256 => ((bits_Odd.f t256).bind fun t257 => (if (t255 != t257) = true then (some false) else (if t201 = 0 then ((bits_Odd.f a0).bind fun t258 => (some (t258 == ((Int.tmod a0 2) == 1)))) else (some true)))))))))) = some r := by rw [if_neg (show ¬ (false = true) by decide)] at H; exact H
                  clear H
                  have H := H1
                  clear H1
                  replace H := Option.bind_eq_some_iff.mp H
                  obtain ⟨t252, A2380, H⟩ := H
                  replace H : ((bits_Neg.f a0).bind fun t253 => ((bits_Whole.f t253).bind fun t254 => (if (t252 != t254) = true then (some false) else ((bits_Odd.f a0).bind fun t255 => ((bits_Neg.f a0).bind fun t256 => ((bits_Odd.f t256).bind fun t257 => (if (t255 != t257) = true then (some false) else (if t201 = 0 then ((bits_Odd.f a0).bind fun t258 => (some (t258 == ((Int.tmod a0 2) == 1)))) else (some true))))))))) = some r := H
                  have A238 := Aside0.mk A2380
                  clear A2380
                  replace H := Option.bind_eq_some_iff.mp H
                  obtain ⟨t253, A2390, H⟩ := H
                  replace H : ((bits_Whole.f t253).bind fun t254 => (if (t252 != t254) = true then (some false) else ((bits_Odd.f a0).bind fun t255 => ((bits_Neg.f a0).bind fun t256 => ((bits_Odd.f t256).bind fun t257 => (if (t255 != t257) = true then (some false) else (if t201 = 0 then ((bits_Odd.f a0).bind fun t258 => (some (t258 == ((Int.tmod a0 2) == 1)))) else (some true)))))))) = some r := H
                  have A239 := Aside0.mk A2390
                  clear A2390
                  replace H := Option.bind_eq_some_iff.mp H
                  obtain ⟨t254, A2400, H⟩ := H
                  replace H : (if (t252 != t254) = true then (some false) else ((bits_Odd.f a0).bind fun t255 => ((bits_Neg.f a0).bind fun t256 => ((bits_Odd.f t256).bind fun t257 => (if (t255 != t257) = true then (some false) else (if t201 = 0 then ((bits_Odd.f a0).bind fun t258 => (some (t258 == ((Int.tmod a0 2) == 1)))) else (some true))))))) = some r := H
                  have A240 := Aside0.mk A2400
                  clear A2400
                  by_cases c241 : (t252 != t254) = true
                  · rw [if_pos c241] at H
                    have c241b0 : (t252 != t254) = true := c241
                    (try (have c241b1 : decide (t252 = t254) = false := by simpa using c241))
                    (try (have c241b2 : (t252 == t254) = false := by simpa using c241))
                    (try (have c241b3 : ¬ (t252 = t254) := by simpa using c241))
                    clear c241
                    obtain rfl := Option.some.inj H
                    go_wp2_with (first | (go_at_call 23; (with_reducible refine (bits_Odd.calls a0 false _ A191.out).mono ?_); rintro e w242 ⟨rfl, hb⟩; have n0_ := Aside0.mk (below_step (by repeat (first | (with_reducible first | exact HB.out | apply below_alloc | apply pw_below_drewN | apply below_drew1) | exact HB.out)) hb); clear HB; have HB := n0_; clear n0_; (try clear hb); (try clear hb2); (try clear hk); (try clear hi)) | (go_at_call 23; (with_reducible refine (bits_Odd.calls a0 false _ A194.out).mono ?_); rintro e w243 ⟨rfl, hb⟩; have n0_ := Aside0.mk (below_step (by repeat (first | (with_reducible first | exact HB.out | apply below_alloc | apply pw_below_drewN | apply below_drew1) | exact HB.out)) hb); clear HB; have HB := n0_; clear n0_; (try clear hb); (try clear hb2); (try clear hk); (try clear hi)) | (go_at_call 21; (with_reducible refine (bits_Whole.calls a0 t252 _ A238.out).mono ?_); rintro e w244 ⟨rfl, hb⟩; have n0_ := Aside0.mk (below_step (by repeat (first | (with_reducible first | exact HB.out | apply below_alloc | apply pw_below_drewN | apply below_drew1) | exact HB.out)) hb); clear HB; have HB := n0_; clear n0_; (try clear hb); (try clear hb2); (try clear hk); (try clear hi)) | (go_at_call 26; (with_reducible refine (bits_Neg.calls a0 t253 _ A239.out).mono ?_); rintro e w' ⟨rfl, ⟨nd, rfl⟩⟩) | (go_at_call 21; (with_reducible refine (bits_Whole.calls t253 t254 _ A240.out).mono ?_); rintro e w245 ⟨rfl, hb⟩; have n0_ := Aside0.mk (below_step (by repeat (first | (with_reducible first | exact HB.out | apply below_alloc | apply pw_below_drewN | apply below_drew1) | exact HB.out)) hb); clear HB; have HB := n0_; clear n0_; (try clear hb); (try clear hb2); (try clear hk); (try clear hi)))
                    go_ret
                    exact ⟨by first | rfl | (simp [errW_none, errW_some] <;> rfl) | (simp [*, errW_none, errW_some] <;> rfl), by repeat (first | (with_reducible first | exact HB.out | apply below_alloc | apply pw_below_drewN | apply below_drew1) | exact HB.out)⟩
                  · rw [if_neg c241] at H
                    have c241b0 : (t252 != t254) = false := by simpa using c241
                    (try (have c241b1 : decide (t252 = t254) = true := by simpa using c241))
                    (try (have c241b2 : (t252 == t254) = true := by simpa using c241))
                    clear c241
                    replace H := Option.bind_eq_some_iff.mp H
                    obtain ⟨t255, A2460, H⟩ := H
                    obtain rfl : t255 = false := Option.some.inj (A2460.symm.trans A191.out)
                    replace H : ((bits_Neg.f a0).bind fun t256 => ((bits_Odd.f t256).bind fun t257 => (if (false != t257) = true then (some false) else (if t201 = 0 then ((bits_Odd.f a0).bind fun t258 => (some (t258 == ((Int.tmod a0 2) == 1)))) else (some true))))) = some r := H
                    have A246 := Aside0.mk A2460
                    clear A2460
                    replace H := Option.bind_eq_some_iff.mp H
                    obtain ⟨t256, A2470, H⟩ := H
                    obtain rfl : t253 = t256 := Option.some.inj (A239.out.symm.trans A2470)
                    replace H : ((bits_Odd.f t253).bind fun t257 => (if (false != t257) = true then (some false) else (if t201 = 0 then ((bits_Odd.f a0).bind fun t258 => (some (t258 == ((Int.tmod a0 2) == 1)))) else (some true)))) = some r := H
                    have A247 := Aside0.mk A2470
                    clear A2470
                    replace H := Option.bind_eq_some_iff.mp H
                    obtain ⟨t257, A2480, H⟩ := H
                    replace H : (if (false != t257) = true then (some false) else (if t201 = 0 then ((bits_Odd.f a0).bind fun t258 => (some (t258 == ((Int.tmod a0 2) == 1)))) else (some true))) = some r := H
                    have A248 := Aside0.mk A2480
                    clear A2480
                    by_cases c249 : (false != t257) = true
                    · rw [if_pos c249] at H
                      have c249b0 : (false != t257) = true := c249
                      (try (have c249b1 : decide (false = t257) = false := by simpa using c249))
                      (try (have c249b2 : (false == t257) = false := by simpa using c249))
                      (try (have c249b3 : ¬ (false = t257) := by simpa using c249))
                      clear c249
                      obtain rfl := Option.some.inj H
                      go_wp2_with (first | (go_at_call 23; (with_reducible refine (bits_Odd.calls a0 false _ A191.out).mono ?_); rintro e w250 ⟨rfl, hb⟩; have n0_ := Aside0.mk (below_step (by repeat (first | (with_reducible first | exact HB.out | apply below_alloc | apply pw_below_drewN | apply below_drew1) | exact HB.out)) hb); clear HB; have HB := n0_; clear n0_; (try clear hb); (try clear hb2); (try clear hk); (try clear hi)) | (go_at_call 23; (with_reducible refine (bits_Odd.calls a0 false _ A194.out).mono ?_); rintro e w251 ⟨rfl, hb⟩; have n0_ := Aside0.mk (below_step (by repeat (first | (with_reducible first | exact HB.out | apply below_alloc | apply pw_below_drewN | apply below_drew1) | exact HB.out)) hb); clear HB; have HB := n0_; clear n0_; (try clear hb); (try clear hb2); (try clear hk); (try clear hi)) | (go_at_call 21; (with_reducible refine (bits_Whole.calls a0 t252 _ A238.out).mono ?_); rintro e w252 ⟨rfl, hb⟩; have n0_ := Aside0.mk (below_step (by repeat (first | (with_reducible first | exact HB.out | apply below_alloc | apply pw_below_drewN | apply below_drew1) | exact HB.out)) hb); clear HB; have HB := n0_; clear n0_; (try clear hb); (try clear hb2); (try clear hk); (try clear hi)) | (go_at_call 26; (with_reducible refine (bits_Neg.calls a0 t253 _ A239.out).mono ?_); rintro e w' ⟨rfl, ⟨nd, rfl⟩⟩) | (go_at_call 21; (with_reducible refine (bits_Whole.calls t253 t254 _ A240.out).mono ?_); rintro e w253 ⟨rfl, hb⟩; have n0_ := Aside0.mk (below_step (by repeat (first | (with_reducible first | exact HB.out | apply below_alloc | apply pw_below_drewN | apply below_drew1) | exact HB.out)) hb); clear HB; have HB := n0_; clear n0_; (try clear hb); (try clear hb2); (try clear hk); (try clear hi)) | (go_at_call 23; (with_reducible refine (bits_Odd.calls a0 false _ A246.out).mono ?_); rintro e w254 ⟨rfl, hb⟩; have n0_ := Aside0.mk (below_step (by repeat (first | (with_reducible first | exact HB.out | apply below_alloc | apply pw_below_drewN | apply below_drew1) | exact HB.out)) hb); clear HB; have HB := n0_; clear n0_; (try clear hb); (try clear hb2); (try clear hk); (try clear hi)) | (go_at_call 26; (with_reducible refine (bits_Neg.calls a0 t253 _ A247.out).mono ?_); rintro e w' ⟨rfl, ⟨nd, rfl⟩⟩) | (go_at_call 23; (with_reducible refine (bits_Odd.calls t253 t257 _ A248.out).mono ?_); rintro e w255 ⟨rfl, hb⟩; have n0_ := Aside0.mk (below_step (by repeat (first | (with_reducible first | exact HB.out | apply below_alloc | apply pw_below_drewN | apply below_drew1) | exact HB.out)) hb); clear HB; have HB := n0_; clear n0_; (try clear hb); (try clear hb2); (try clear hk); (try clear hi)))
                      go_ret
                      exact ⟨by first | rfl | (simp [errW_none, errW_some] <;> rfl) | (simp [*, errW_none, errW_some] <;> rfl), by repeat (first | (with_reducible first | exact HB.out | apply below_alloc | apply pw_below_drewN | apply below_drew1) | exact HB.out)⟩
                    · rw [if_neg c249] at H
                      have c249b0 : (false != t257) = false := by simpa using c249
                      (try (have c249b1 : decide (false = t257) = true := by simpa using c249))
                      (try (have c249b2 : (false == t257) = true := by simpa using c249))
                      clear c249
                      by_cases c256 : t201 = 0
                      · rw [if_pos c256] at H
                        have c256b0 : (t201 == 0) = true := beq_iff_eq.mpr c256
                        have c256b1 : (t201 != 0) = false := bne_eq_false_iff_eq.mpr c256
                        clear c256
                        replace H := Option.bind_eq_some_iff.mp H
                        obtain ⟨t258, A2570, H⟩ := H
                        obtain rfl : t258 = false := Option.some.inj (A2570.symm.trans A191.out)
                        replace H : (some (false == ((Int.tmod a0 2) == 1))) = some r := H
                        have A257 := Aside0.mk A2570
                        clear A2570
                        obtain rfl := Option.some.inj H
                        go_wp2_with (first | (go_at_call 23; (with_reducible refine (bits_Odd.calls a0 false _ A191.out).mono ?_); rintro e w258 ⟨rfl, hb⟩; have n0_ := Aside0.mk (below_step (by repeat (first | (with_reducible first | exact HB.out | apply below_alloc | apply pw_below_drewN | apply below_drew1) | exact HB.out)) hb); clear HB; have HB := n0_; clear n0_; (try clear hb); (try clear hb2); (try clear hk); (try clear hi)) | (go_at_call 23; (with_reducible refine (bits_Odd.calls a0 false _ A194.out).mono ?_); rintro e w259 ⟨rfl, hb⟩; have n0_ := Aside0.mk (below_step (by repeat (first | (with_reducible first | exact HB.out | apply below_alloc | apply pw_below_drewN | apply below_drew1) | exact HB.out)) hb); clear HB; have HB := n0_; clear n0_; (try clear hb); (try clear hb2); (try clear hk); (try clear hi)) | (go_at_call 21; (with_reducible refine (bits_Whole.calls a0 t252 _ A238.out).mono ?_); rintro e w260 ⟨rfl, hb⟩; have n0_ := Aside0.mk (below_step (by repeat (first | (with_reducible first | exact HB.out | apply below_alloc | apply pw_below_drewN | apply below_drew1) | exact HB.out)) hb); clear HB; have HB := n0_; clear n0_; (try clear hb); (try clear hb2); (try clear hk); (try clear hi)) | (go_at_call 26; (with_reducible refine (bits_Neg.calls a0 t253 _ A239.out).mono ?_); rintro e w' ⟨rfl, ⟨nd, rfl⟩⟩) | (go_at_call 21; (with_reducible refine (bits_Whole.calls t253 t254 _ A240.out).mono ?_); rintro e w261 ⟨rfl, hb⟩; have n0_ := Aside0.mk (below_step (by repeat (first | (with_reducible first | exact HB.out | apply below_alloc | apply pw_below_drewN | apply below_drew1) | exact HB.out)) hb); clear HB; have HB := n0_; clear n0_; (try clear hb); (try clear hb2); (try clear hk); (try clear hi)) | (go_at_call 23; (with_reducible refine (bits_Odd.calls a0 false _ A246.out).mono ?_); rintro e w262 ⟨rfl, hb⟩; have n0_ := Aside0.mk (below_step (by repeat (first | (with_reducible first | exact HB.out | apply below_alloc | apply pw_below_drewN | apply below_drew1) | exact HB.out)) hb); clear HB; have HB := n0_; clear n0_; (try clear hb); (try clear hb2); (try clear hk); (try clear hi)) | (go_at_call 26; (with_reducible refine (bits_Neg.calls a0 t253 _ A247.out).mono ?_); rintro e w' ⟨rfl, ⟨nd, rfl⟩⟩) | (go_at_call 23; (with_reducible refine (bits_Odd.calls t253 t257 _ A248.out).mono ?_); rintro e w263 ⟨rfl, hb⟩; have n0_ := Aside0.mk (below_step (by repeat (first | (with_reducible first | exact HB.out | apply below_alloc | apply pw_below_drewN | apply below_drew1) | exact HB.out)) hb); clear HB; have HB := n0_; clear n0_; (try clear hb); (try clear hb2); (try clear hk); (try clear hi)) | (go_at_call 23; (with_reducible refine (bits_Odd.calls a0 false _ A257.out).mono ?_); rintro e w264 ⟨rfl, hb⟩; have n0_ := Aside0.mk (below_step (by repeat (first | (with_reducible first | exact HB.out | apply below_alloc | apply pw_below_drewN | apply below_drew1) | exact HB.out)) hb); clear HB; have HB := n0_; clear n0_; (try clear hb); (try clear hb2); (try clear hk); (try clear hi)))
                        go_ret
                        exact ⟨by first | rfl | (simp [errW_none, errW_some] <;> rfl) | (simp [*, errW_none, errW_some] <;> rfl), by repeat (first | (with_reducible first | exact HB.out | apply below_alloc | apply pw_below_drewN | apply below_drew1) | exact HB.out)⟩
                      · rw [if_neg c256] at H
                        have c256b0 : (t201 == 0) = false := beq_eq_false_iff_ne.mpr c256
                        have c256b1 : (t201 != 0) = true := bne_iff_ne.mpr c256
                        obtain rfl := Option.some.inj H
                        go_wp2_with (first | (go_at_call 23; (with_reducible refine (bits_Odd.calls a0 false _ A191.out).mono ?_); rintro e w265 ⟨rfl, hb⟩; have n0_ := Aside0.mk (below_step (by repeat (first | (with_reducible first | exact HB.out | apply below_alloc | apply pw_below_drewN | apply below_drew1) | exact HB.out)) hb); clear HB; have HB := n0_; clear n0_; (try clear hb); (try clear hb2); (try clear hk); (try clear hi)) | (go_at_call 23; (with_reducible refine (bits_Odd.calls a0 false _ A194.out).mono ?_); rintro e w266 ⟨rfl, hb⟩; have n0_ := Aside0.mk (below_step (by repeat (first | (with_reducible first | exact HB.out | apply below_alloc | apply pw_below_drewN | apply below_drew1) | exact HB.out)) hb); clear HB; have HB := n0_; clear n0_; (try clear hb); (try clear hb2); (try clear hk); (try clear hi)) | (go_at_call 21; (with_reducible refine (bits_Whole.calls a0 t252 _ A238.out).mono ?_); rintro e w267 ⟨rfl, hb⟩; have n0_ := Aside0.mk (below_step (by repeat (first | (with_reducible first | exact HB.out | apply below_alloc | apply pw_below_drewN | apply below_drew1) | exact HB.out)) hb); clear HB; have HB := n0_; clear n0_; (try clear hb); (try clear hb2); (try clear hk); (try clear hi)) | (go_at_call 26; (with_reducible refine (bits_Neg.calls a0 t253 _ A239.out).mono ?_); rintro e w' ⟨rfl, ⟨nd, rfl⟩⟩) | (go_at_call 21; (with_reducible refine (bits_Whole.calls t253 t254 _ A240.out).mono ?_); rintro e w268 ⟨rfl, hb⟩; have n0_ := Aside0.mk (below_step (by repeat (first | (with_reducible first | exact HB.out | apply below_alloc | apply pw_below_drewN | apply below_drew1) | exact HB.out)) hb); clear HB; have HB := n0_; clear n0_; (try clear hb); (try clear hb2); (try clear hk); (try clear hi)) | (go_at_call 23; (with_reducible refine (bits_Odd.calls a0 false _ A246.out).mono ?_); rintro e w269 ⟨rfl, hb⟩; have n0_ := Aside0.mk (below_step (by repeat (first | (with_reducible first | exact HB.out | apply below_alloc | apply pw_below_drewN | apply below_drew1) | exact HB.out)) hb); clear HB; have HB := n0_; clear n0_; (try clear hb); (try clear hb2); (try clear hk); (try clear hi)) | (go_at_call 26; (with_reducible refine (bits_Neg.calls a0 t253 _ A247.out).mono ?_); rintro e w' ⟨rfl, ⟨nd, rfl⟩⟩) | (go_at_call 23; (with_reducible refine (bits_Odd.calls t253 t257 _ A248.out).mono ?_); rintro e w270 ⟨rfl, hb⟩; have n0_ := Aside0.mk (below_step (by repeat (first | (with_reducible first | exact HB.out | apply below_alloc | apply pw_below_drewN | apply below_drew1) | exact HB.out)) hb); clear HB; have HB := n0_; clear n0_; (try clear hb); (try clear hb2); (try clear hk); (try clear hi)))
                        go_ret
                        exact ⟨by first | rfl | (simp [errW_none, errW_some] <;> rfl) | (simp [*, errW_none, errW_some] <;> rfl), by repeat (first | (with_reducible first | exact HB.out | apply below_alloc | apply pw_below_drewN | apply below_drew1) | exact HB.out)⟩
            · rw [if_neg c190] at H
              have c190b0 : decide (0 < t201) = false := decide_eq_false c190
              clear c190
              replace H := Option.bind_eq_some_iff.mp H
              obtain ⟨t259, A2710, H⟩ := H
              replace H : (if t259 = true then ((bits_Whole.f a0).bind fun t260 => (if t260 = true then ((bits_Whole.f a0).bind fun t261 => ((bits_Neg.f a0).bind fun t262 => ((bits_Whole.f t262).bind fun t263 => (if (t261 != t263) = true then (some false) else ((bits_Odd.f a0).bind fun t264 => ((bits_Neg.f a0).bind fun t265 => ((bits_Odd.f t265).bind fun t266 => (if (t264 != t266) = true then (some false) else (if t201 = 0 then ((bits_Odd.f a0).bind fun t267 => (some (t267 == ((Int.tmod a0 2) == 1)))) else (some true)))))))))) else (some false))) else ((bits_Whole.f a0).bind fun t268 => ((bits_Neg.f a0).bind fun t269 => ((bits_Whole.f t269).bind fun t270 => (if (t268 != t270) = true then (some false) else ((bits_Odd.f a0).bind fun t271 => ((bits_Neg.f a0).bind fun t272 => ((bits_Odd.f t272).bind fun t273 => (if (t271 != t273) = true then (some false) else (if t201 = 0 then ((bits_Odd.f a0).bind fun t274 => (some (t274 == ((Int.tmod a0 2) == 1)))) else (some true))))))))))) = some r := H
              have A271 := Aside0.mk A2710
              clear A2710
              by_cases c272 : t259 = true
              · subst c272
                have H1 : ((bits_Whole.f a0).bind fun t260 => (if t260 = true then ((bits_Whole.f a0).bind fun t261 => ((bits_Neg.f a0).bind fun t262 => ((bits_Whole.f t262).bind fun t263 => (if (t261 != t263) = true then (some false) else ((bits_Odd.f a0).bind fun t264 => ((bits_Neg.f a0).bind fun t265 => ((bits_Odd.f t265).bind fun t266 => (if (t264 != t266) = true then (some false) else (if t201 = 0 then ((bits_Odd.f a0).bind fun t267 => (some (t267 == ((Int.tmod a0 2) == 1)))) else (some true)))))))))) else (some false))) = some r := by rw [if_pos rfl] at H; exact H
                clear H
                have H := H1
                clear H1
                replace H := Option.bind_eq_some_iff.mp H
                obtain ⟨t260, A2730, H⟩ := H
                replace H : (if t260 = true then ((bits_Whole.f a0).bind fun t261 => ((bits_Neg.f a0).bind fun t262 => ((bits_Whole.f t262).bind fun t263 => (if (t261 != t263) = true then (some false) else ((bits_Odd.f a0).bind fun t264 => ((bits_Neg.f a0).bind fun t265 => ((bits_Odd.f t265).bind fun t266 => (if (t264 != t266) = true then (some false) else (if t201 = 0 then ((bits_Odd.f a0).bind fun t267 => (some (t267 == ((Int.tmod a0 2) == 1)))) else (some true)))))))))) else (some false)) = some r := H
                have A273 := Aside0.mk A2730
                clear A2730
                by_cases c274 : t260 = true
                · subst c274
                  have H1 : ((bits_Whole.f a0).bind fun t261 => ((bits_Neg.f a0).bind fun t262 => ((bits_Whole.f t262).bind fun t263 => (if (t261 != t263) = true then (some false) else ((bits_Odd.f a0).bind fun t264 => ((bits_Neg.f a0).bind fun t265 => ((bits_Odd.f t265).bind fun t266 => (if (t264 != t266) = true then (some false) else (if t201 = 0 then ((bits_Odd.f a0).bind fun t267 => (some (t267 == ((Int.tmod a0 2) == 1)))) else (some true)))))))))) = some r := by rw [if_pos rfl] at H; exact H
                  clear H
                  have H := H1
                  clear H1
                  replace H := Option.bind_eq_some_iff.mp H
                  obtain ⟨t261, A2750, H⟩ := H
                  obtain rfl : t261 = true := Option.some.inj (A2750.symm.trans A273.out)
                  replace H : ((bits_Neg.f a0).bind fun t262 => ((bits_Whole.f t262).bind fun t263 => (if (true != t263) = true then (some false) else ((bits_Odd.f a0).bind fun t264 => ((bits_Neg.f a0).bind fun t265 => ((bits_Odd.f t265).bind fun t266 => (if (t264 != t266) = true then (some false) else (if t201 = 0 then ((bits_Odd.f a0).bind fun t267 => (some (t267 == ((Int.tmod a0 2) == 1)))) else (some true))))))))) = some r := H
                  have A275 := Aside0.mk A2750
                  clear A2750
                  replace H := Option.bind_eq_some_iff.mp H
                  obtain ⟨t262, A2760, H⟩ := H
                  replace H : ((bits_Whole.f t262).bind fun t263 => (if (true != t263) = true then (some false) else ((bits_Odd.f a0).bind fun t264 => ((bits_Neg.f a0).bind fun t265 => ((bits_Odd.f t265).bind fun t266 => (if (t264 != t266) = true then (some false) else (if t201 = 0 then ((bits_Odd.f a0).bind fun t267 => (some (t267 == ((Int.tmod a0 2) == 1)))) else (some true)))))))) = some r := H
                  have A276 := Aside0.mk A2760
                  clear A2760
                  replace H := Option.bind_eq_some_iff.mp H
                  obtain ⟨t263, A2770, H⟩ := H
                  replace H : (if (true != t263) = true then (some false) else ((bits_Odd.f a0).bind fun t264 => ((bits_Neg.f a0).bind fun t265 => ((bits_Odd.f t265).bind fun t266 => (if (t264 != t266) = true then (some false) else (if t201 = 0 then ((bits_Odd.f a0).bind fun t267 => (some (t267 == ((Int.tmod a0 2) == 1)))) else (some true))))))) = some r := H
                  have A277 := Aside0.mk A2770
                  clear A2770
                  by_cases c278 : (true != t263) = true
                  · rw [if_pos c278] at H
                    have c278b0 : (true != t263) = true := c278
                    (try (have c278b1 : decide (true = t263) = false := by simpa using c278))
                    (try (have c278b2 : (true == t263) = false := by simpa using c278))
                    (try (have c278b3 : ¬ (true = t263) := by simpa using c278))
                    clear c278
                    obtain rfl := Option.some.inj H
                    go_wp2_with (first | (go_at_call 23; (with_reducible refine (bits_Odd.calls a0 true _ A271.out).mono ?_); rintro e w279 ⟨rfl, hb⟩; have n0_ := Aside0.mk (below_step (by repeat (first | (with_reducible first | exact HB.out | apply below_alloc | apply pw_below_drewN | apply below_drew1) | exact HB.out)) hb); clear HB; have HB := n0_; clear n0_; (try clear hb); (try clear hb2); (try clear hk); (try clear hi)) | (go_at_call 21; (with_reducible refine (bits_Whole.calls a0 true _ A273.out).mono ?_); rintro e w280 ⟨rfl, hb⟩; have n0_ := Aside0.mk (below_step (by repeat (first | (with_reducible first | exact HB.out | apply below_alloc | apply pw_below_drewN | apply below_drew1) | exact HB.out)) hb); clear HB; have HB := n0_; clear n0_; (try clear hb); (try clear hb2); (try clear hk); (try clear hi)) | (go_at_call 21; (with_reducible refine (bits_Whole.calls a0 true _ A275.out).mono ?_); rintro e w281 ⟨rfl, hb⟩; have n0_ := Aside0.mk (below_step (by repeat (first | (with_reducible first | exact HB.out | apply below_alloc | apply pw_below_drewN | apply below_drew1) | exact HB.out)) hb); clear HB; have HB := n0_; clear n0_; (try clear hb); (try clear hb2); (try clear hk); (try clear hi)) | (go_at_call 26; (with_reducible refine (bits_Neg.calls a0 t262 _ A276.out).mono ?_); rintro e w' ⟨rfl, ⟨nd, rfl⟩⟩) | (go_at_call 21; (with_reducible refine (bits_Whole.calls t262 t263 _ A277.out).mono ?_); rintro e w282 ⟨rfl, hb⟩; have n0_ := Aside0.mk (below_step (by repeat (first | (with_reducible first | exact HB.out | apply below_alloc | apply pw_below_drewN | apply below_drew1) | exact HB.out)) hb); clear HB; have HB := n0_; clear n0_; (try clear hb); (try clear hb2); (try clear hk); (try clear hi)))
                    go_ret
                    exact ⟨by first | rfl | (simp [errW_none, errW_some] <;> rfl) | (simp [*, errW_none, errW_some] <;> rfl), by repeat (first | (with_reducible first | exact HB.out | apply below_alloc | apply pw_below_drewN | apply below_drew1) | exact HB.out)⟩
                  · rw [if_neg c278] at H
                    have c278b0 : (true != t263) = false := by simpa using c278
                    (try (have c278b1 : decide (true = t263) = true := by simpa using c278))
                    (try (have c278b2 : (true == t263) = true := by simpa using c278))
                    clear c278
                    replace H := Option.bind_eq_some_iff.mp H
                    obtain ⟨t264, A2830, H⟩ := H
                    obtain rfl : t264 = true := Option.some.inj (A2830.symm.trans A271.out)
                    replace H : ((bits_Neg.f a0).bind fun t265 => ((bits_Odd.f t265).bind fun t266 => (if (true != t266) = true then (some false) else (if t201 = 0 then ((bits_Odd.f a0).bind fun t267 => (some (t267 == ((Int.tmod a0 2) == 1)))) else (some true))))) = some r := H
                    have A283 := Aside0.mk A2830
                    clear A2830
                    replace H := Option.bind_eq_some_iff.mp H
                    obtain ⟨t265, A2840, H⟩ := H
                    obtain rfl : t262 = t265 := Option.some.inj (A276.out.symm.trans A2840)
                    replace H : ((bits_Odd.f t262).bind fun t266 => (if (true != t266) = true then (some false) else (if t201 = 0 then ((bits_Odd.f a0).bind fun t267 => (some (t267 == ((Int.tmod a0 2) == 1)))) else (some true)))) = some r := H
                    have A284 := Aside0.mk A2840
                    clear A2840
                    replace H := Option.bind_eq_some_iff.mp H
                    obtain ⟨t266, A2850, H⟩ := H
                    replace H : (if (true != t266) = true then (some false) else (if t201 = 0 then ((bits_Odd.f a0).bind fun t267 => (some (t267 == ((Int.tmod a0 2) == 1)))) else (some true))) = some r := H
                    have A285 := Aside0.mk A2850
                    clear A2850
                    by_cases c286 : (true != t266) = true
                    · rw [if_pos c286] at H
                      have c286b0 : (true != t266) = true := c286
                      (try (have c286b1 : decide (true = t266) = false := by simpa using c286))
                      (try (have c286b2 : (true == t266) = false := by simpa using c286))
                      (try (have c286b3 : ¬ (true = t266) := by simpa using c286))
                      clear c286
                      obtain rfl := Option.some.inj H
                      go_wp2_with (first | (go_at_call 23; (with_reducible refine (bits_Odd.calls a0 true _ A271.out).mono ?_); rintro e w287 ⟨rfl, hb⟩; have n0_ := Aside0.mk (below_step (by repeat (first | (with_reducible first | exact HB.out | apply below_alloc | apply pw_below_drewN | apply below_drew1) | exact HB.out)) hb); clear HB; have HB := n0_; clear n0_; (try clear hb); (try clear hb2); (try clear hk); (try clear hi)) | (go_at_call 21; (with_reducible refine (bits_Whole.calls a0 true _ A273.out).mono ?_); rintro e w288 ⟨rfl, hb⟩; have n0_ := Aside0.mk (below_step (by repeat (first | (with_reducible first | exact HB.out | apply below_alloc | apply pw_below_drewN | apply below_drew1) | exact HB.out)) hb); clear HB; have HB := n0_; clear n0_; (try clear hb); (try clear hb2); (try clear hk); (try clear hi)) | (go_at_call 21; (with_reducible refine (bits_Whole.calls a0 true _ A275.out).mono ?_); rintro e w289 ⟨rfl, hb⟩; have n0_ := Aside0.mk (below_step (by repeat (first | (with_reducible first | exact HB.out | apply below_alloc | apply pw_below_drewN | apply below_drew1) | exact HB.out)) hb); clear HB; have HB := n0_; clear n0_; (try clear hb); (try clear hb2); (try clear hk); (try clear hi)) | (go_at_call 26; (with_reducible refine (bits_Neg.calls a0 t262 _ A276.out).mono ?_); rintro e w' ⟨rfl, ⟨nd, rfl⟩⟩) | (go_at_call 21; (with_reducible refine (bits_Whole.calls t262 t263 _ A277.out).mono ?_); rintro e w290 ⟨rfl, hb⟩; have n0_ := Aside0.mk (below_step (by repeat (first | (with_reducible first | exact HB.out | apply below_alloc | apply pw_below_drewN | apply below_drew1) | exact HB.out)) hb); clear HB; have HB := n0_; clear n0_; (try clear hb); (try clear hb2); (try clear hk); (try clear hi)) | (go_at_call 23; (with_reducible refine (bits_Odd.calls a0 true _ A283.out).mono ?_); rintro e w291 ⟨rfl, hb⟩; have n0_ := Aside0.mk (below_step (by repeat (first | (with_reducible first | exact HB.out | apply below_alloc | apply pw_below_drewN | apply below_drew1) | exact HB.out)) hb); clear HB; have HB := n0_; clear n0_; (try clear hb); (try clear hb2); (try clear hk); (try clear hi)) | (go_at_call 26; (with_reducible refine (bits_Neg.calls a0 t262 _ A284.out).mono ?_); rintro e w' ⟨rfl, ⟨nd, rfl⟩⟩) | (go_at_call 23; (with_reducible refine (bits_Odd.calls t262 t266 _ A285.out).mono ?_); rintro e w292 ⟨rfl, hb⟩; have n0_ := Aside0.mk (below_step (by repeat (first | (with_reducible first | exact HB.out | apply below_alloc | apply pw_below_drewN | apply below_drew1) | exact HB.out)) hb); clear HB; have HB := n0_; clear n0_; (try clear hb); (try clear hb2); (try clear hk); (try clear hi)))
                      go_ret
                      exact ⟨by first | rfl | (simp [errW_none, errW_some] <;> rfl) | (simp [*, errW_none, errW_some] <;> rfl), by repeat (first | (with_reducible first | exact HB.out | apply below_alloc | apply pw_below_drewN | apply below_drew1) | exact HB.out)⟩
                    · rw [if_neg c286] at H
                      have c286b0 : (true != t266) = false := by simpa using c286
                      (try (have c286b1 : decide (true = t266) = true := by simpa using c286))
                      (try (have c286b2 : (true == t266) = true := by simpa using c286))
                      clear c286
                      by_cases c293 : t201 = 0
                      · rw [if_pos c293] at H
                        have c293b0 : (t201 == 0) = true := beq_iff_eq.mpr c293
                        have c293b1 : (t201 != 0) = false := bne_eq_false_iff_eq.mpr c293
                        clear c293
                        replace H := Option.bind_eq_some_iff.mp H
                        obtain ⟨t267, A2940, H⟩ := H
                        obtain rfl : t267 = true := Option.some.inj (A2940.symm.trans A271.out)
                        replace H : (some (true == ((Int.tmod a0 2) == 1))) = some r := H
                        have A294 := Aside0.mk A2940
                        clear A2940
                        obtain rfl := Option.some.inj H
                        go_wp2_with (first | (go_at_call 23; (with_reducible refine (bits_Odd.calls a0 true _ A271.out).mono ?_); rintro e w295 ⟨rfl, hb⟩; have n0_ := Aside0.mk (below_step (by repeat (first | (with_reducible first | exact HB.out | apply below_alloc | apply pw_below_drewN | apply below_drew1) | exact HB.out)) hb); clear HB; have HB := n0_; clear n0_; (try clear hb); (try clear hb2); (try clear hk); (try clear hi)) | (go_at_call 21; (with_reducible refine (bits_Whole.calls a0 true _ A273.out).mono ?_); rintro e w296 ⟨rfl, hb⟩; have n0_ := Aside0.mk (below_step (by repeat (first | (with_reducible first | exact HB.out | apply below_alloc | apply pw_below_drewN | apply below_drew1) | exact HB.out)) hb); clear HB; have HB := n0_; clear n0_; (try clear hb); (try clear hb2); (try clear hk); (try clear hi)) | (go_at_call 21; (with_reducible refine (bits_Whole.calls a0 true _ A275.out).mono ?_); rintro e w297 ⟨rfl, hb⟩; have n0_ := Aside0.mk (below_step (by repeat (first | (with_reducible first | exact HB.out | apply below_alloc | apply pw_below_drewN | apply below_drew1) | exact HB.out)) hb); clear HB; have HB := n0_; clear n0_; (try clear hb); (try clear hb2); (try clear hk); (try clear hi)) | (go_at_call 26; (with_reducible refine (bits_Neg.calls a0 t262 _ A276.out).mono ?_); rintro e w' ⟨rfl, ⟨nd, rfl⟩⟩) | (go_at_call 21; (with_reducible refine (bits_Whole.calls t262 t263 _ A277.out).mono ?_); rintro e w298 ⟨rfl, hb⟩; have n0_ := Aside0.mk (below_step (by repeat (first | (with_reducible first | exact HB.out | apply below_alloc | apply pw_below_drewN | apply below_drew1) | exact HB.out)) hb); clear HB; have HB := n0_; clear n0_; (try clear hb); (try clear hb2); (try clear hk); (try clear hi)) | (go_at_call 23; (with_reducible refine (bits_Odd.calls a0 true _ A283.out).mono ?_); rintro e w299 ⟨rfl, hb⟩; have n0_ := Aside0.mk (below_step (by repeat (first | (with_reducible first | exact HB.out | apply below_alloc | apply pw_below_drewN | apply below_drew1) | exact HB.out)) hb); clear HB; have HB := n0_; clear n0_; (try clear hb); (try clear hb2); (try clear hk); (try clear hi)) | (go_at_call 26; (with_reducible refine (bits_Neg.calls a0 t262 _ A284.out).mono ?_); rintro e w' ⟨rfl, ⟨nd, rfl⟩⟩) | (go_at_call 23; (with_reducible refine (bits_Odd.calls t262 t266 _ A285.out).mono ?_); rintro e w300 ⟨rfl, hb⟩; have n0_ := Aside0.mk (below_step (by repeat (first | (with_reducible first | exact HB.out | apply below_alloc | apply pw_below_drewN | apply below_drew1) | exact HB.out)) hb); clear HB; have HB := n0_; clear n0_; (try clear hb); (try clear hb2); (try clear hk); (try clear hi)) | (go_at_call 23; (with_reducible refine (bits_Odd.calls a0 true _ A294.out).mono ?_); rintro e w301 ⟨rfl, hb⟩; have n0_ := Aside0.mk (below_step (by repeat (first | (with_reducible first | exact HB.out | apply below_alloc | apply pw_below_drewN | apply below_drew1) | exact HB.out)) hb); clear HB; have HB := n0_; clear n0_; (try clear hb); (try clear hb2); (try clear hk); (try clear hi)))
                        go_ret
                        exact ⟨by first | rfl | (simp [errW_none, errW_some] <;> rfl) | (simp [*, errW_none, errW_some] <;> rfl), by repeat (first | (with_reducible first | exact HB.out | apply below_alloc | apply pw_below_drewN | apply below_drew1) | exact HB.out)⟩
                      · rw [if_neg c293] at H
                        have c293b0 : (t201 == 0) = false := beq_eq_false_iff_ne.mpr c293
                        have c293b1 : (t201 != 0) = true := bne_iff_ne.mpr c293
                        obtain rfl := Option.some.inj H
                        go_wp2_with (first | (go_at_call 23; (with_reducible refine (bits_Odd.calls a0 true _ A271.out).mono ?_); rintro e w302 ⟨rfl, hb⟩; have n0_ := Aside0.mk (below_step (by repeat (first | (with_reducible first | exact HB.out | apply below_alloc | apply pw_below_drewN | apply below_drew1) | exact HB.out)) hb); clear HB; have HB := n0_; clear n0_; (try clear hb); (try clear hb2); (try clear hk); (try clear hi)) | (go_at_call 21; (with_reducible refine (bits_Whole.calls a0 true _ A273.out).mono ?_); rintro e w303 ⟨rfl, hb⟩; have n0_ := Aside0.mk (below_step (by repeat (first | (with_reducible first | exact HB.out | apply below_alloc | apply pw_below_drewN | apply below_drew1) | exact HB.out)) hb); clear HB; have HB := n0_; clear n0_; (try clear hb); (try clear hb2); (try clear hk); (try clear hi)) | (go_at_call 21; (with_reducible refine (bits_Whole.calls a0 true _ A275.out).mono ?_); rintro e w304 ⟨rfl, hb⟩; have n0_ := Aside0.mk (below_step (by repeat (first | (with_reducible first | exact HB.out | apply below_alloc | apply pw_below_drewN | apply below_drew1) | exact HB.out)) hb); clear HB; have HB := n0_; clear n0_; (try clear hb); (try clear hb2); (try clear hk); (try clear hi)) | (go_at_call 26; (with_reducible refine (bits_Neg.calls a0 t262 _ A276.out).mono ?_); rintro e w' ⟨rfl, ⟨nd, rfl⟩⟩) | (go_at_call 21; (with_reducible refine (bits_Whole.calls t262 t263 _ A277.out).mono ?_); rintro e w305 ⟨rfl, hb⟩; have n0_ := Aside0.mk (below_step (by repeat (first | (with_reducible first | exact HB.out | apply below_alloc | apply pw_below_drewN | apply below_drew1) | exact HB.out)) hb); clear HB; have HB := n0_; clear n0_; (try clear hb); (try clear hb2); (try clear hk); (try clear hi)) | (go_at_call 23; (with_reducible refine (bits_Odd.calls a0 true _ A283.out).mono ?_); rintro e w306 ⟨rfl, hb⟩; have n0_ := Aside0.mk (below_step (by repeat (first | (with_reducible first | exact HB.out | apply below_alloc | apply pw_below_drewN | apply below_drew1) | exact HB.out)) hb); clear HB; have HB := n0_; clear n0_; (try clear hb); (try clear hb2); (try clear hk); (try clear hi)) | (go_at_call 26; (with_reducible refine (bits_Neg.calls a0 t262 _ A284.out).mono ?_); rintro e w' ⟨rfl, ⟨nd, rfl⟩⟩) | (go_at_call 23; (with_reducible refine (bits_Odd.calls t262 t266 _ A285.out).mono ?_); rintro e w307 ⟨rfl, hb⟩; have n0_ := Aside0.mk (below_step (by repeat (first | (with_reducible first | exact HB.out | apply below_alloc | apply pw_below_drewN | apply below_drew1) | exact HB.out)) hb); clear HB; have HB := n0_; clear n0_; (try clear hb); (try clear hb2); (try clear hk); (try clear hi)))
                        go_ret
                        exact ⟨by first | rfl | (simp [errW_none, errW_some] <;> rfl) | (simp [*, errW_none, errW_some] <;> rfl), by repeat (first | (with_reducible first | exact HB.out | apply below_alloc | apply pw_below_drewN | apply below_drew1) | exact HB.out)⟩
                · replace c274 := Bool.eq_false_iff.mpr c274
                  subst c274
                  have H1 : (some false) = some r := by rw [if_neg (show ¬ (false = true) by decide)] at H; exact H
                  clear H
                  have H := H1
                  clear H1
                  obtain rfl := Option.some.inj H
                  go_wp2_with (first | (go_at_call 23; (with_reducible refine (bits_Odd.calls a0 true _ A271.out).mono ?_); rintro e w308 ⟨rfl, hb⟩; have n0_ := Aside0.mk (below_step (by repeat (first | (with_reducible first | exact HB.out | apply below_alloc | apply pw_below_drewN | apply below_drew1) | exact HB.out)) hb); clear HB; have HB := n0_; clear n0_; (try clear hb); (try clear hb2); (try clear hk); (try clear hi)) | (go_at_call 21; (with_reducible refine (bits_Whole.calls a0 false _ A273.out).mono ?_); rintro e w309 ⟨rfl, hb⟩; have n0_ := Aside0.mk (below_step (by repeat (first | (with_reducible first | exact HB.out | apply below_alloc | apply pw_below_drewN | apply below_drew1) | exact HB.out)) hb); clear HB; have HB := n0_; clear n0_; (try clear hb); (try clear hb2); (try clear hk); (try clear hi)))
                  go_ret
                  exact ⟨by first | rfl | (simp [errW_none, errW_some] <;> rfl) | (simp [*, errW_none, errW_some] <;> rfl), by repeat (first | (with_reducible first | exact HB.out | apply below_alloc | apply pw_below_drewN | apply below_drew1) | exact HB.out)⟩
              · replace c272 := Bool.eq_false_iff.mpr c272
                subst c272
                have H1 : ((bits_Whole.f a0).bind fun t268 => ((bits_Neg.f a0).bind fun t269 => ((bits_Whole.f t269).bind fun t270 => (if (t268 != t270) = true then (some false) else ((bits_Odd.f a0).bind fun t271 => ((bits_Neg.f a0).bind fun t272 => ((bits_Odd.f t272).bind fun t273 => (if (t271 != t273) = true then (some false) else (if t201 = 0 then ((bits_Odd.f a0).bind fun t274 => (some (t274 == ((Int.tmod a0 2) == 1)))) else (some true)))))))))) = some r := by rw [if_neg (show ¬ (false = true) by decide)] at H; exact H
                clear H
                have H := H1
                clear H1
                replace H := Option.bind_eq_some_iff.mp H
                obtain ⟨t268, A3100, H⟩ := H
                replace H : ((bits_Neg.f a0).bind fun t269 => ((bits_Whole.f t269).bind fun t270 => (if (t268 != t270) = true then (some false) else ((bits_Odd.f a0).bind fun t271 => ((bits_Neg.f a0).bind fun t272 => ((bits_Odd.f t272).bind fun t273 => (if (t271 != t273) = true then (some false) else (if t201 = 0 then ((bits_Odd.f a0).bind fun t274 => (some (t274 == ((Int.tmod a0 2) == 1)))) else (some true))))))))) = some r := H
                have A310 := Aside0.mk A3100
                clear A3100
                replace H := Option.bind_eq_some_iff.mp H
                obtain ⟨t269, A3110, H⟩ := H
                replace H : ((bits_Whole.f t269).bind fun t270 => (if (t268 != t270) = true then (some false) else ((bits_Odd.f a0).bind fun t271 => ((bits_Neg.f a0).bind fun t272 => ((bits_Odd.f t272).bind fun t273 => (if (t271 != t273) = true then (some false) else (if t201 = 0 then ((bits_Odd.f a0).bind fun t274 => (some (t274 == ((Int.tmod a0 2) == 1)))) else (some true)))))))) = some r := H
                have A311 := Aside0.mk A3110
                clear A3110
                replace H := Option.bind_eq_some_iff.mp H
                obtain ⟨t270, A3120, H⟩ := H
                replace H : (if (t268 != t270) = true then (some false) else ((bits_Odd.f a0).bind fun t271 => ((bits_Neg.f a0).bind fun t272 => ((bits_Odd.f t272).bind fun t273 => (if (t271 != t273) = true then (some false) else (if t201 = 0 then ((bits_Odd.f a0).bind fun t274 => (some (t274 == ((Int.tmod a0 2) == 1)))) else (some true))))))) = some r := H
                have A312 := Aside0.mk A3120
                clear A3120
                by_cases c313 : (t268 != t270) = true
                · rw [if_pos c313] at H
                  have c313b0 : (t268 != t270) = true := c313
                  (try (have c313b1 : decide (t268 = t270) = false := by simpa using c313))
                  (try (have c313b2 : (t268 == t270) = false := by simpa using c313))
                  (try (have c313b3 : ¬ (t268 = t270) := by simpa using c313))
                  clear c313
                  obtain rfl := Option.some.inj H
                  go_wp2_with (first | (go_at_call 23; (with_reducible refine (bits_Odd.calls a0 false _ A271.out).mono ?_); rintro e w314 ⟨rfl, hb⟩; have n0_ := Aside0.mk (below_step (by repeat (first | (with_reducible first | exact HB.out | apply below_alloc | apply pw_below_drewN | apply below_drew1) | exact HB.out)) hb); clear HB; have HB := n0_; clear n0_; (try clear hb); (try clear hb2); (try clear hk); (try clear hi)) | (go_at_call 21; (with_reducible refine (bits_Whole.calls a0 t268 _ A310.out).mono ?_); rintro e w315 ⟨rfl, hb⟩; have n0_ := Aside0.mk (below_step (by repeat (first | (with_reducible first | exact HB.out | apply below_alloc | apply pw_below_drewN | apply below_drew1) | exact HB.out)) hb); clear HB; have HB := n0_; clear n0_; (try clear hb); (try clear hb2); (try clear hk); (try clear hi)) | (go_at_call 26; (with_reducible refine (bits_Neg.calls a0 t269 _ A311.out).mono ?_); rintro e w' ⟨rfl, ⟨nd, rfl⟩⟩) | (go_at_call 21; (with_reducible refine (bits_Whole.calls t269 t270 _ A312.out).mono ?_); rintro e w316 ⟨rfl, hb⟩; have n0_ := Aside0.mk (below_step (by repeat (first | (with_reducible first | exact HB.out | apply below_alloc | apply pw_below_drewN | apply below_drew1) | exact HB.out)) hb); clear HB; have HB := n0_; clear n0_; (try clear hb); (try clear hb2); (try clear hk); (try clear hi)))
                  go_ret
                  exact ⟨by first | rfl | (simp [errW_none, errW_some] <;> rfl) | (simp [*, errW_none, errW_some] <;> rfl), by repeat (first | (with_reducible first | exact HB.out | apply below_alloc | apply pw_below_drewN | apply below_drew1) | exact HB.out)⟩
                · rw [if_neg c313] at H
                  have c313b0 : (t268 != t270) = false := by simpa using c313
                  (try (have c313b1 : decide (t268 = t270) = true := by simpa using c313))
                  (try (have c313b2 : (t268 == t270) = true := by simpa using c313))
                  clear c313
                  replace H := Option.bind_eq_some_iff.mp H
                  obtain ⟨t271, A3170, H⟩ := H
                  obtain rfl : t271 = false := Option.some.inj (A3170.symm.trans A271.out)
                  replace H : ((bits_Neg.f a0).bind fun t272 => ((bits_Odd.f t272).bind fun t273 => (if (false != t273) = true then (some false) else (if t201 = 0 then ((bits_Odd.f a0).bind fun t274 => (some (t274 == ((Int.tmod a0 2) == 1)))) else (some true))))) = some r := H
                  have A317 := Aside0.mk A3170
                  clear A3170
                  replace H := Option.bind_eq_some_iff.mp H
                  obtain ⟨t272, A3180, H⟩ := H
                  obtain rfl : t269 = t272 := Option.some.inj (A311.out.symm.trans A3180)
                  replace H : ((bits_Odd.f t269).bind fun t273 => (if (false != t273) = true then (some false) else (if t201 = 0 then ((bits_Odd.f a0).bind fun t274 => (some (t274 == ((Int.tmod a0 2) == 1)))) else (some true)))) = some r := H
                  have A318 := Aside0.mk A3180
                  clear A3180
                  replace H := Option.bind_eq_some_iff.mp H
                  obtain ⟨t273, A3190, H⟩ := H
                  replace H : (if (false != t273) = true then (some false) else (if t201 = 0 then ((bits_Odd.f a0).bind fun t274 => (some (t274 == ((Int.tmod a0 2) == 1)))) else (some true))) = some r := H
                  have A319 := Aside0.mk A3190
                  clear A3190
                  by_cases c320 : (false != t273) = true
                  · rw [if_pos c320] at H
                    have c320b0 : (false != t273) = true := c320
                    (try (have c320b1 : decide (false = t273) = false := by simpa using c320))
                    (try (have c320b2 : (false == t273) = false := by simpa using c320))
                    (try (have c320b3 : ¬ (false = t273) := by simpa using c320))
                    clear c320
                    obtain rfl := Option.some.inj H
                    go_wp2_with (first | (go_at_call 23; (with_reducible refine (bits_Odd.calls a0 false _ A271.out).mono ?_); rintro e w321 ⟨rfl, hb⟩; have n0_ := Aside0.mk (below_step (by repeat (first | (with_reducible first | exact HB.out | apply below_alloc | apply pw_below_drewN | apply below_drew1) | exact HB.out)) hb); clear HB; have HB := n0_; clear n0_; (try clear hb); (try clear hb2); (try clear hk); (try clear hi)) | (go_at_call 21; (with_reducible refine (bits_Whole.calls a0 t268 _ A310.out).mono ?_); rintro e w322 ⟨rfl, hb⟩; have n0_ := Aside0.mk (below_step (by repeat (first | (with_reducible first | exact HB.out | apply below_alloc | apply pw_below_drewN | apply below_drew1) | exact HB.out)) hb); clear HB; have HB := n0_; clear n0_; (try clear hb); (try clear hb2); (try clear hk); (try clear hi)) | (go_at_call 26; (with_reducible refine (bits_Neg.calls a0 t269 _ A311.out).mono ?_); rintro e w' ⟨rfl, ⟨nd, rfl⟩⟩) | (go_at_call 21; (with_reducible refine (bits_Whole.calls t269 t270 _ A312.out).mono ?_); rintro e w323 ⟨rfl, hb⟩; have n0_ := Aside0.mk (below_step (by repeat (first | (with_reducible first | exact HB.out | apply below_alloc | apply pw_below_drewN | apply below_drew1) | exact HB.out)) hb); clear HB; have HB := n0_; clear n0_; (try clear hb); (try clear hb2); (try clear hk); (try clear hi)) | (go_at_call 23; (with_reducible refine (bits_Odd.calls a0 false _ A317.out).mono ?_); rintro e w324 ⟨rfl, hb⟩; have n0_ := Aside0.mk (below_step (by repeat (first | (with_reducible first | exact HB.out | apply below_alloc | apply pw_below_drewN | apply below_drew1) | exact HB.out)) hb); clear HB; have HB := n0_; clear n0_; (try clear hb); (try clear hb2); (try clear hk); (try clear hi)) | (go_at_call 26; (with_reducible refine (bits_Neg.calls a0 t269 _ A318.out).mono ?_); rintro e w' ⟨rfl, ⟨nd, rfl⟩⟩) | (go_at_call 23; (with_reducible refine (bits_Odd.calls t269 t273 _ A319.out).mono ?_); rintro e w325 ⟨rfl, hb⟩; have n0_ := Aside0.mk (below_step (by repeat (first | (with_reducible first | exact HB.out | apply below_alloc | apply pw_below_drewN | apply below_drew1) | exact HB.out)) hb); clear HB; have HB := n0_; clear n0_; (try clear hb); (try clear hb2); (try clear hk); (try clear hi)))
                    go_ret
                    exact ⟨by first | rfl | (simp [errW_none, errW_some] <;> rfl) | (simp [*, errW_none, errW_some] <;> rfl), by repeat (first | (with_reducible first | exact HB.out | apply below_alloc | apply pw_below_drewN | apply below_drew1) | exact HB.out)⟩
                  · rw [if_neg c320] at H
                    have c320b0 : (false != t273) = false := by simpa using c320
                    (try (have c320b1 : decide (false = t273) = true := by simpa using c320))
                    (try (have c320b2 : (false == t273) = true := by simpa using c320))
                    clear c320
                    by_cases c326 : t201 = 0
                    · rw [if_pos c326] at H
                      have c326b0 : (t201 == 0) = true := beq_iff_eq.mpr c326
                      have c326b1 : (t201 != 0) = false := bne_eq_false_iff_eq.mpr c326
                      clear c326
                      replace H := Option.bind_eq_some_iff.mp H
                      obtain ⟨t274, A3270, H⟩ := H
                      obtain rfl : t274 = false := Option.some.inj (A3270.symm.trans A271.out)
                      replace H : (some (false == ((Int.tmod a0 2) == 1))) = some r := H
                      have A327 := Aside0.mk A3270
                      clear A3270
                      obtain rfl := Option.some.inj H
                      go_wp2_with (first | (go_at_call 23; (with_reducible refine (bits_Odd.calls a0 false _ A271.out).mono ?_); rintro e w328 ⟨rfl, hb⟩; have n0_ := Aside0.mk (below_step (by repeat (first | (with_reducible first | exact HB.out | apply below_alloc | apply pw_below_drewN | apply below_drew1) | exact HB.out)) hb); clear HB; have HB := n0_; clear n0_; (try clear hb); (try clear hb2); (try clear hk); (try clear hi)) | (go_at_call 21; (with_reducible refine (bits_Whole.calls a0 t268 _ A310.out).mono ?_); rintro e w329 ⟨rfl, hb⟩; have n0_ := Aside0.mk (below_step (by repeat (first | (with_reducible first | exact HB.out | apply below_alloc | apply pw_below_drewN | apply below_drew1) | exact HB.out)) hb); clear HB; have HB := n0_; clear n0_; (try clear hb); (try clear hb2); (try clear hk); (try clear hi)) | (go_at_call 26; (with_reducible refine (bits_Neg.calls a0 t269 _ A311.out).mono ?_); rintro e w' ⟨rfl, ⟨nd, rfl⟩⟩) | (go_at_call 21; (with_reducible refine (bits_Whole.calls t269 t270 _ A312.out).mono ?_); rintro e w330 ⟨rfl, hb⟩; have n0_ := Aside0.mk (below_step (by repeat (first | (with_reducible first | exact HB.out | apply below_alloc | apply pw_below_drewN | apply below_drew1) | exact HB.out)) hb); clear HB; have HB := n0_; clear n0_; (try clear hb); (try clear hb2); (try clear hk); (try clear hi)) | (go_at_call 23; (with_reducible refine (bits_Odd.calls a0 false _ A317.out).mono ?_); rintro e w331 ⟨rfl, hb⟩; have n0_ := Aside0.mk (below_step (by repeat (first | (with_reducible first | exact HB.out | apply below_alloc | apply pw_below_drewN | apply below_drew1) | exact HB.out)) hb); clear HB; have HB := n0_; clear n0_; (try clear hb); (try clear hb2); (try clear hk); (try clear hi)) | (go_at_call 26; (with_reducible refine (bits_Neg.calls a0 t269 _ A318.out).mono ?_); rintro e w' ⟨rfl, ⟨nd, rfl⟩⟩) | (go_at_call 23; (with_reducible refine (bits_Odd.calls t269 t273 _ A319.out).mono ?_); rintro e w332 ⟨rfl, hb⟩; have n0_ := Aside0.mk (below_step (by repeat (first | (with_reducible first | exact HB.out | apply below_alloc | apply pw_below_drewN | apply below_drew1) | exact HB.out)) hb); clear HB; have HB := n0_; clear n0_; (try clear hb); (try clear hb2); (try clear hk); (try clear hi)) | (go_at_call 23; (with_reducible refine (bits_Odd.calls a0 false _ A327.out).mono ?_); rintro e w333 ⟨rfl, hb⟩; have n0_ := Aside0.mk (below_step (by repeat (first | (with_reducible first | exact HB.out | apply below_alloc | apply pw_below_drewN | apply below_drew1) | exact HB.out)) hb); clear HB; have HB := n0_; clear n0_; (try clear hb); (try clear hb2); (try clear hk); (try clear hi)))
                      go_ret
                      exact ⟨by first | rfl | (simp [errW_none, errW_some] <;> rfl) | (simp [*, errW_none, errW_some] <;> rfl), by repeat (first | (with_reducible first | exact HB.out | apply below_alloc | apply pw_below_drewN | apply below_drew1) | exact HB.out)⟩
                    · rw [if_neg c326] at H
                      have c326b0 : (t201 == 0) = false := beq_eq_false_iff_ne.mpr c326
                      have c326b1 : (t201 != 0) = true := bne_iff_ne.mpr c326
                      obtain rfl := Option.some.inj H
                      go_wp2_with (first | (go_at_call 23; (with_reducible refine (bits_Odd.calls a0 false _ A271.out).mono ?_); rintro e w334 ⟨rfl, hb⟩; have n0_ := Aside0.mk (below_step (by repeat (first | (with_reducible first | exact HB.out | apply below_alloc | apply pw_below_drewN | apply below_drew1) | exact HB.out)) hb); clear HB; have HB := n0_; clear n0_; (try clear hb); (try clear hb2); (try clear hk); (try clear hi)) | (go_at_call 21; (with_reducible refine (bits_Whole.calls a0 t268 _ A310.out).mono ?_); rintro e w335 ⟨rfl, hb⟩; have n0_ := Aside0.mk (below_step (by repeat (first | (with_reducible first | exact HB.out | apply below_alloc | apply pw_below_drewN | apply below_drew1) | exact HB.out)) hb); clear HB; have HB := n0_; clear n0_; (try clear hb); (try clear hb2); (try clear hk); (try clear hi)) | (go_at_call 26; (with_reducible refine (bits_Neg.calls a0 t269 _ A311.out).mono ?_); rintro e w' ⟨rfl, ⟨nd, rfl⟩⟩) | (go_at_call 21; (with_reducible refine (bits_Whole.calls t269 t270 _ A312.out).mono ?_); rintro e w336 ⟨rfl, hb⟩; have n0_ := Aside0.mk (below_step (by repeat (first | (with_reducible first | exact HB.out | apply below_alloc | apply pw_below_drewN | apply below_drew1) | exact HB.out)) hb); clear HB; have HB := n0_; clear n0_; (try clear hb); (try clear hb2); (try clear hk); (try clear hi)) | (go_at_call 23; (with_reducible refine (bits_Odd.calls a0 false _ A317.out).mono ?_); rintro e w337 ⟨rfl, hb⟩; have n0_ := Aside0.mk (below_step (by repeat (first | (with_reducible first | exact HB.out | apply below_alloc | apply pw_below_drewN | apply below_drew1) | exact HB.out)) hb); clear HB; have HB := n0_; clear n0_; (try clear hb); (try clear hb2); (try clear hk); (try clear hi)) | (go_at_call 26; (with_reducible refine (bits_Neg.calls a0 t269 _ A318.out).mono ?_); rintro e w' ⟨rfl, ⟨nd, rfl⟩⟩) | (go_at_call 23; (with_reducible refine (bits_Odd.calls t269 t273 _ A319.out).mono ?_); rintro e w338 ⟨rfl, hb⟩; have n0_ := Aside0.mk (below_step (by repeat (first | (with_reducible first | exact HB.out | apply below_alloc | apply pw_below_drewN | apply below_drew1) | exact HB.out)) hb); clear HB; have HB := n0_; clear n0_; (try clear hb); (try clear hb2); (try clear hk); (try clear hi)))
                      go_ret
                      exact ⟨by first | rfl | (simp [errW_none, errW_some] <;> rfl) | (simp [*, errW_none, errW_some] <;> rfl), by repeat (first | (with_reducible first | exact HB.out | apply below_alloc | apply pw_below_drewN | apply below_drew1) | exact HB.out)⟩
        · rw [if_neg c17] at H
          have c17b0 : (t202 == 0) = false := beq_eq_false_iff_ne.mpr c17
          have c17b1 : (t202 != 0) = true := bne_iff_ne.mpr c17
          replace H := Option.bind_eq_some_iff.mp H
          obtain ⟨t206, A3390, H⟩ := H
          replace H : (if t206 = true then (some false) else ((bits_Odd.f a0).bind fun t207 => (some (!t207)))) = some r := H
          have A339 := Aside0.mk A3390
          clear A3390
          by_cases c340 : t206 = true
          · subst c340
            have H1 : (some false) = some r := by rw [if_pos rfl] at H; exact H
            clear H
            have H := H1
            clear H1
            obtain rfl := Option.some.inj H
            go_wp2_with (first | ((with_reducible refine gate_callee (f := 21) rfl ?_); refine goesL_ (some 27) rfl rfl Try.func21 (by kernel_rfl) rfl #[.int .u64 a0] rfl (by (try simp only [List.map_toArray, List.map_cons, List.map_nil]); first | done | rfl | (simp only [List.length_drop, List.length_take]; rfl)) ?_; (with_reducible refine (bits_Whole.calls a0 true _ A339.out).mono ?_); rintro e w341 ⟨rfl, hb⟩; refine ⟨_, rfl, ?_⟩; have n0_ := Aside0.mk (below_step (by repeat (first | (with_reducible first | exact HB.out | apply below_alloc | apply pw_below_drewN | apply below_drew1) | exact HB.out)) hb); clear HB; have HB := n0_; clear n0_; (try clear hb); (try clear hb2); (try clear hk); (try clear hi)))
            go_ret
            exact ⟨by first | rfl | (simp [errW_none, errW_some] <;> rfl) | (simp [*, errW_none, errW_some] <;> rfl), by repeat (first | (with_reducible first | exact HB.out | apply below_alloc | apply pw_below_drewN | apply below_drew1) | exact HB.out)⟩
          · replace c340 := Bool.eq_false_iff.mpr c340
            subst c340
            have H1 : ((bits_Odd.f a0).bind fun t207 => (some (!t207))) = some r := by rw [if_neg (show ¬ (false = true) by decide)] at H; exact H
            clear H
            have H := H1
            clear H1
            replace H := Option.bind_eq_some_iff.mp H
            obtain ⟨t207, A3420, H⟩ := H
            replace H : (some (!t207)) = some r := H
            have A342 := Aside0.mk A3420
            clear A3420
            obtain rfl := Option.some.inj H
            go_wp2_with (first | ((with_reducible refine gate_callee (f := 21) rfl ?_); refine goesL_ (some 27) rfl rfl Try.func21 (by kernel_rfl) rfl #[.int .u64 a0] rfl (by (try simp only [List.map_toArray, List.map_cons, List.map_nil]); first | done | rfl | (simp only [List.length_drop, List.length_take]; rfl)) ?_; (with_reducible refine (bits_Whole.calls a0 false _ A339.out).mono ?_); rintro e w343 ⟨rfl, hb⟩; refine ⟨_, rfl, ?_⟩; have n0_ := Aside0.mk (below_step (by repeat (first | (with_reducible first | exact HB.out | apply below_alloc | apply pw_below_drewN | apply below_drew1) | exact HB.out)) hb); clear HB; have HB := n0_; clear n0_; (try clear hb); (try clear hb2); (try clear hk); (try clear hi)) | (go_at_call 23; (with_reducible refine (bits_Odd.calls a0 t207 _ A342.out).mono ?_); rintro e w344 ⟨rfl, hb⟩; have n0_ := Aside0.mk (below_step (by repeat (first | (with_reducible first | exact HB.out | apply below_alloc | apply pw_below_drewN | apply below_drew1) | exact HB.out)) hb); clear HB; have HB := n0_; clear n0_; (try clear hb); (try clear hb2); (try clear hk); (try clear hi)))
            go_ret
            exact ⟨by first | rfl | (simp [errW_none, errW_some] <;> rfl) | (simp [*, errW_none, errW_some] <;> rfl), by repeat (first | (with_reducible first | exact HB.out | apply below_alloc | apply pw_below_drewN | apply below_drew1) | exact HB.out)⟩

/-- THE ONE PURE STATEMENT of ulplaw01_BitsWhole: yours. -/
def ulplaw01_BitsWhole.Pure : Prop := ∀ (a0 : Int), (Lit.int .u64 a0).wf = true → ∃ k, ulplaw01_BitsWhole.f k a0 = some true
theorem ulplaw01_BitsWhole.walk (P : ulplaw01_BitsWhole.Pure) (a0 : Int) (w : World) (w0 : (Lit.int .u64 a0).wf = true) :
    Calls Try.prog 6 #[.int .u64 a0] w fun e w' => e = .returned (.bool true) ∧ Below w.heap.size w w' := by
  obtain ⟨k, h⟩ := P a0 w0
  refine (ulplaw01_BitsWhole.calls k a0 true w h).mono ?_
  rintro e w' ⟨rfl, hd⟩
  exact ⟨rfl, hd⟩

end Go.Proofs.Ytcigeggdapjijaa.PAll
