-- written by a program of this session (a changed print)
import Derived.Test.YtcigeggdapjijaaPAllx0
import Derived.Test.YtcigeggdapjijaaPAllx2
import Derived.Test.YtcigeggdapjijaaPAllx3
import Derived.Test.YtcigeggdapjijaaPAllx4
namespace Go.Proofs.Ytcigeggdapjijaa.PAll
open Go.RowKit Go.Proofs.YtcigeggdapjijaaW.PrintWords Go.Proofs.YtcigeggdapjijaaW.PrintLast Go.Proofs.YtcigeggdapjijaaW.PrintMore
attribute [local go_sem] max2_int min2_int max_two min_two max_three min_three max_four min_four   -- for this text's walks alone
set_option linter.unusedVariables false
set_option linter.unusedSimpArgs false

attribute [local go_sem] fld37_0 fld37_1 fld37_2
/-! ### ulplaw01_BitsOrders: function 4 -/
def ulplaw01_BitsOrders.f (k : Nat) (a0 : Int) (a1 : Int) : Option (Bool) := (bits_Last.f a0).bind fun bt177 => ((ulpref01_Last.f a0).bind fun bt179 => ((ulplaw01_lives.f k).bind fun t181 => (if t181 = true then ((bits_Less.f a0 a1).bind fun t182 => ((ulpref01_Less.f k a0 a1).bind fun t183 => (if (t182 == t183) = true then ((bits_Order.f a0 a1).bind fun t184 => ((ulpref01_Order.f k a0 a1).bind fun t185 => (if t184 = t185 then (if bt177.1 = bt179.1 then (if bt177.2 = bt179.2 then ((bits_Whole.f a0).bind fun t186 => ((ulpref01_Whole.f k a0).bind fun t187 => (if (t186 == t187) = true then ((bits_Odd.f a0).bind fun t188 => ((ulpref01_Odd.f k a0).bind fun t189 => (some (t188 == t189)))) else (some false)))) else (some false)) else (some false)) else (some false)))) else (some false)))) else (some false))))
theorem ulplaw01_BitsOrders.mono : ∀ a0 a1 k, LeO (ulplaw01_BitsOrders.f k a0 a1) (ulplaw01_BitsOrders.f (k + 1) a0 a1) := by
  intro a0 a1 k
  unfold ulplaw01_BitsOrders.f
  repeat' first
      | (with_reducible exact ulplaw01_lives.mono _)
      | (with_reducible exact ulpref01_Less.mono _ _ _)
      | (with_reducible exact ulpref01_Odd.mono _ _)
      | (with_reducible exact ulpref01_Order.mono _ _ _)
      | (with_reducible exact ulpref01_Whole.mono _ _)
      | (with_reducible exact LeO.refl _)
      | (with_reducible exact LeO.none _)
      | (with_reducible refine LeO.ite ?_ ?_)
      | (with_reducible refine LeO.bind ?_ (fun _ => ?_))
      | exact ulplaw01_lives.mono _
      | exact ulpref01_Less.mono _ _ _
      | exact ulpref01_Odd.mono _ _
      | exact ulpref01_Order.mono _ _ _
      | exact ulpref01_Whole.mono _ _
      | exact LeO.none _
      | refine LeO.ite ?_ ?_
      | refine LeO.bind ?_ (fun _ => ?_)
set_option maxHeartbeats 8000000 in
set_option maxRecDepth 100000 in
theorem ulplaw01_BitsOrders.calls (k : Nat) (a0 : Int) (a1 : Int) (r : Bool) (w : World) (h : ulplaw01_BitsOrders.f k a0 a1 = some r) :
    Calls Try.prog 4 #[.int .u64 a0, .int .u64 a1] w fun e w' => e = .returned (.bool r) ∧ Below w.heap.size w w' := by
  have HB := Aside0.mk (Below.refl w.heap.size w)
  have H : ((bits_Last.f a0).bind fun bt177 => ((ulpref01_Last.f a0).bind fun bt179 => ((ulplaw01_lives.f k).bind fun t181 => (if t181 = true then ((bits_Less.f a0 a1).bind fun t182 => ((ulpref01_Less.f k a0 a1).bind fun t183 => (if (t182 == t183) = true then ((bits_Order.f a0 a1).bind fun t184 => ((ulpref01_Order.f k a0 a1).bind fun t185 => (if t184 = t185 then (if bt177.1 = bt179.1 then (if bt177.2 = bt179.2 then ((bits_Whole.f a0).bind fun t186 => ((ulpref01_Whole.f k a0).bind fun t187 => (if (t186 == t187) = true then ((bits_Odd.f a0).bind fun t188 => ((ulpref01_Odd.f k a0).bind fun t189 => (some (t188 == t189)))) else (some false)))) else (some false)) else (some false)) else (some false)))) else (some false)))) else (some false))))) = some r := h
  clear h
  replace H := Option.bind_eq_some_iff.mp H
  obtain ⟨⟨t177, t178⟩, A30, H⟩ := H
  replace H : ((ulpref01_Last.f a0).bind fun bt179 => ((ulplaw01_lives.f k).bind fun t181 => (if t181 = true then ((bits_Less.f a0 a1).bind fun t182 => ((ulpref01_Less.f k a0 a1).bind fun t183 => (if (t182 == t183) = true then ((bits_Order.f a0 a1).bind fun t184 => ((ulpref01_Order.f k a0 a1).bind fun t185 => (if t184 = t185 then (if t177 = bt179.1 then (if t178 = bt179.2 then ((bits_Whole.f a0).bind fun t186 => ((ulpref01_Whole.f k a0).bind fun t187 => (if (t186 == t187) = true then ((bits_Odd.f a0).bind fun t188 => ((ulpref01_Odd.f k a0).bind fun t189 => (some (t188 == t189)))) else (some false)))) else (some false)) else (some false)) else (some false)))) else (some false)))) else (some false)))) = some r := H
  have A3 := Aside0.mk A30
  clear A30
  replace H := Option.bind_eq_some_iff.mp H
  obtain ⟨⟨t179, t180⟩, A40, H⟩ := H
  replace H : ((ulplaw01_lives.f k).bind fun t181 => (if t181 = true then ((bits_Less.f a0 a1).bind fun t182 => ((ulpref01_Less.f k a0 a1).bind fun t183 => (if (t182 == t183) = true then ((bits_Order.f a0 a1).bind fun t184 => ((ulpref01_Order.f k a0 a1).bind fun t185 => (if t184 = t185 then (if t177 = t179 then (if t178 = t180 then ((bits_Whole.f a0).bind fun t186 => ((ulpref01_Whole.f k a0).bind fun t187 => (if (t186 == t187) = true then ((bits_Odd.f a0).bind fun t188 => ((ulpref01_Odd.f k a0).bind fun t189 => (some (t188 == t189)))) else (some false)))) else (some false)) else (some false)) else (some false)))) else (some false)))) else (some false))) = some r := H
  have A4 := Aside0.mk A40
  clear A40
  replace H := Option.bind_eq_some_iff.mp H
  obtain ⟨t181, A50, H⟩ := H
  replace H : (if t181 = true then ((bits_Less.f a0 a1).bind fun t182 => ((ulpref01_Less.f k a0 a1).bind fun t183 => (if (t182 == t183) = true then ((bits_Order.f a0 a1).bind fun t184 => ((ulpref01_Order.f k a0 a1).bind fun t185 => (if t184 = t185 then (if t177 = t179 then (if t178 = t180 then ((bits_Whole.f a0).bind fun t186 => ((ulpref01_Whole.f k a0).bind fun t187 => (if (t186 == t187) = true then ((bits_Odd.f a0).bind fun t188 => ((ulpref01_Odd.f k a0).bind fun t189 => (some (t188 == t189)))) else (some false)))) else (some false)) else (some false)) else (some false)))) else (some false)))) else (some false)) = some r := H
  have A5 := Aside0.mk A50
  clear A50
  by_cases c6 : t181 = true
  · subst c6
    have H1 : ((bits_Less.f a0 a1).bind fun t182 => ((ulpref01_Less.f k a0 a1).bind fun t183 => (if (t182 == t183) = true then ((bits_Order.f a0 a1).bind fun t184 => ((ulpref01_Order.f k a0 a1).bind fun t185 => (if t184 = t185 then (if t177 = t179 then (if t178 = t180 then ((bits_Whole.f a0).bind fun t186 => ((ulpref01_Whole.f k a0).bind fun t187 => (if (t186 == t187) = true then ((bits_Odd.f a0).bind fun t188 => ((ulpref01_Odd.f k a0).bind fun t189 => (some (t188 == t189)))) else (some false)))) else (some false)) else (some false)) else (some false)))) else (some false)))) = some r := by rw [if_pos rfl] at H; exact H
    clear H
    have H := H1
    clear H1
    replace H := Option.bind_eq_some_iff.mp H
    obtain ⟨t182, A70, H⟩ := H
    replace H : ((ulpref01_Less.f k a0 a1).bind fun t183 => (if (t182 == t183) = true then ((bits_Order.f a0 a1).bind fun t184 => ((ulpref01_Order.f k a0 a1).bind fun t185 => (if t184 = t185 then (if t177 = t179 then (if t178 = t180 then ((bits_Whole.f a0).bind fun t186 => ((ulpref01_Whole.f k a0).bind fun t187 => (if (t186 == t187) = true then ((bits_Odd.f a0).bind fun t188 => ((ulpref01_Odd.f k a0).bind fun t189 => (some (t188 == t189)))) else (some false)))) else (some false)) else (some false)) else (some false)))) else (some false))) = some r := H
    have A7 := Aside0.mk A70
    clear A70
    replace H := Option.bind_eq_some_iff.mp H
    obtain ⟨t183, A80, H⟩ := H
    replace H : (if (t182 == t183) = true then ((bits_Order.f a0 a1).bind fun t184 => ((ulpref01_Order.f k a0 a1).bind fun t185 => (if t184 = t185 then (if t177 = t179 then (if t178 = t180 then ((bits_Whole.f a0).bind fun t186 => ((ulpref01_Whole.f k a0).bind fun t187 => (if (t186 == t187) = true then ((bits_Odd.f a0).bind fun t188 => ((ulpref01_Odd.f k a0).bind fun t189 => (some (t188 == t189)))) else (some false)))) else (some false)) else (some false)) else (some false)))) else (some false)) = some r := H
    have A8 := Aside0.mk A80
    clear A80
    by_cases c9 : (t182 == t183) = true
    · rw [if_pos c9] at H
      have c9b0 : (t182 == t183) = true := c9
      (try (have c9b1 : decide (t182 = t183) = true := by simpa using c9))
      (try (have c9b2 : (t182 == t183) = true := by simpa using c9))
      clear c9
      replace H := Option.bind_eq_some_iff.mp H
      obtain ⟨t184, A100, H⟩ := H
      replace H : ((ulpref01_Order.f k a0 a1).bind fun t185 => (if t184 = t185 then (if t177 = t179 then (if t178 = t180 then ((bits_Whole.f a0).bind fun t186 => ((ulpref01_Whole.f k a0).bind fun t187 => (if (t186 == t187) = true then ((bits_Odd.f a0).bind fun t188 => ((ulpref01_Odd.f k a0).bind fun t189 => (some (t188 == t189)))) else (some false)))) else (some false)) else (some false)) else (some false))) = some r := H
      have A10 := Aside0.mk A100
      clear A100
      replace H := Option.bind_eq_some_iff.mp H
      obtain ⟨t185, A110, H⟩ := H
      replace H : (if t184 = t185 then (if t177 = t179 then (if t178 = t180 then ((bits_Whole.f a0).bind fun t186 => ((ulpref01_Whole.f k a0).bind fun t187 => (if (t186 == t187) = true then ((bits_Odd.f a0).bind fun t188 => ((ulpref01_Odd.f k a0).bind fun t189 => (some (t188 == t189)))) else (some false)))) else (some false)) else (some false)) else (some false)) = some r := H
      have A11 := Aside0.mk A110
      clear A110
      by_cases c12 : t184 = t185
      · rw [if_pos c12] at H
        have c12b0 : (t184 == t185) = true := beq_iff_eq.mpr c12
        have c12b1 : (t184 != t185) = false := bne_eq_false_iff_eq.mpr c12
        clear c12
        by_cases c13 : t177 = t179
        · rw [if_pos c13] at H
          have c13b0 : (t177 == t179) = true := beq_iff_eq.mpr c13
          have c13b1 : (t177 != t179) = false := bne_eq_false_iff_eq.mpr c13
          clear c13
          by_cases c14 : t178 = t180
          · rw [if_pos c14] at H
            have c14b0 : (t178 == t180) = true := beq_iff_eq.mpr c14
            have c14b1 : (t178 != t180) = false := bne_eq_false_iff_eq.mpr c14
            clear c14
            replace H := Option.bind_eq_some_iff.mp H
            obtain ⟨t186, A150, H⟩ := H
            replace H : ((ulpref01_Whole.f k a0).bind fun t187 => (if (t186 == t187) = true then ((bits_Odd.f a0).bind fun t188 => ((ulpref01_Odd.f k a0).bind fun t189 => (some (t188 == t189)))) else (some false))) = some r := H
            have A15 := Aside0.mk A150
            clear A150
            replace H := Option.bind_eq_some_iff.mp H
            obtain ⟨t187, A160, H⟩ := H
            replace H : (if (t186 == t187) = true then ((bits_Odd.f a0).bind fun t188 => ((ulpref01_Odd.f k a0).bind fun t189 => (some (t188 == t189)))) else (some false)) = some r := H
            have A16 := Aside0.mk A160
            clear A160
            by_cases c17 : (t186 == t187) = true
            · rw [if_pos c17] at H
              have c17b0 : (t186 == t187) = true := c17
              (try (have c17b1 : decide (t186 = t187) = true := by simpa using c17))
              (try (have c17b2 : (t186 == t187) = true := by simpa using c17))
              clear c17
              replace H := Option.bind_eq_some_iff.mp H
              obtain ⟨t188, A180, H⟩ := H
              replace H : ((ulpref01_Odd.f k a0).bind fun t189 => (some (t188 == t189))) = some r := H
              have A18 := Aside0.mk A180
              clear A180
              replace H := Option.bind_eq_some_iff.mp H
              obtain ⟨t189, A190, H⟩ := H
              replace H : (some (t188 == t189)) = some r := H
              have A19 := Aside0.mk A190
              clear A190
              obtain rfl := Option.some.inj H
              go_enter Try.func4, Try.ntmps4
              go_wp2_with (first | ((with_reducible refine gate_callee (f := 15) rfl ?_); refine goesL_ (some 11) rfl rfl Try.func15 (by kernel_rfl) rfl #[.int .u64 a0] rfl (by (try simp only [List.map_toArray, List.map_cons, List.map_nil]); first | done | rfl | (simp only [List.length_drop, List.length_take]; rfl)) ?_; (with_reducible refine (bits_Last.calls a0 t177 t178 _ A3.out).mono ?_); rintro e w20 ⟨rfl, hb⟩; refine ⟨_, rfl, ?_⟩; have n0_ := Aside0.mk (below_step (by repeat (first | (with_reducible first | exact HB.out | apply below_alloc | apply pw_below_drewN | apply below_drew1) | exact HB.out)) hb); clear HB; have HB := n0_; clear n0_; (try clear hb); (try clear hb2); (try clear hk); (try clear hi)) | ((with_reducible refine gate_callee (f := 16) rfl ?_); refine goesL_ (some 16) rfl rfl Try.func16 (by kernel_rfl) rfl #[.int .u64 a0] rfl (by (try simp only [List.map_toArray, List.map_cons, List.map_nil]); first | done | rfl | (simp only [List.length_drop, List.length_take]; rfl)) ?_; (with_reducible refine (ulpref01_Last.calls a0 t179 t180 _ A4.out).mono ?_); rintro e w21 ⟨rfl, hb⟩; refine ⟨_, rfl, ?_⟩; have n0_ := Aside0.mk (below_step (by repeat (first | (with_reducible first | exact HB.out | apply below_alloc | apply pw_below_drewN | apply below_drew1) | exact HB.out)) hb); clear HB; have HB := n0_; clear n0_; (try clear hb); (try clear hb2); (try clear hk); (try clear hi)) | ((with_reducible refine gate_callee (f := 12) rfl ?_); refine goesL_ (some 19) rfl rfl Try.func12 (by kernel_rfl) rfl #[] rfl (by (try simp only [List.map_toArray, List.map_cons, List.map_nil]); first | done | rfl | (simp only [List.length_drop, List.length_take]; rfl)) ?_; (with_reducible refine (ulplaw01_lives.calls k  true _ A5.out).mono ?_); rintro e w22 ⟨rfl, hb⟩; refine ⟨_, rfl, ?_⟩; have n0_ := Aside0.mk (below_step (by repeat (first | (with_reducible first | exact HB.out | apply below_alloc | apply pw_below_drewN | apply below_drew1) | exact HB.out)) hb); clear HB; have HB := n0_; clear n0_; (try clear hb); (try clear hb2); (try clear hk); (try clear hi)) | (go_at_call 17; (with_reducible refine (bits_Less.calls a0 a1 t182 _ A7.out).mono ?_); rintro e w' ⟨rfl, ⟨nd, rfl⟩⟩) | (go_at_call 18; (with_reducible refine (ulpref01_Less.calls k a0 a1 t183 _ A8.out).mono ?_); rintro e w' ⟨rfl, ⟨nd, rfl⟩⟩) | (go_at_call 19; (with_reducible refine (bits_Order.calls a0 a1 t184 _ A10.out).mono ?_); rintro e w' ⟨rfl, ⟨nd, rfl⟩⟩) | (go_at_call 20; (with_reducible refine (ulpref01_Order.calls k a0 a1 t185 _ A11.out).mono ?_); rintro e w' ⟨rfl, ⟨nd, rfl⟩⟩) | (go_at_call 21; (with_reducible refine (bits_Whole.calls a0 t186 _ A15.out).mono ?_); rintro e w23 ⟨rfl, hb⟩; have n0_ := Aside0.mk (below_step (by repeat (first | (with_reducible first | exact HB.out | apply below_alloc | apply pw_below_drewN | apply below_drew1) | exact HB.out)) hb); clear HB; have HB := n0_; clear n0_; (try clear hb); (try clear hb2); (try clear hk); (try clear hi)) | (go_at_call 22; (with_reducible refine (ulpref01_Whole.calls k a0 t187 _ A16.out).mono ?_); rintro e w24 ⟨rfl, hb⟩; have n0_ := Aside0.mk (below_step (by repeat (first | (with_reducible first | exact HB.out | apply below_alloc | apply pw_below_drewN | apply below_drew1) | exact HB.out)) hb); clear HB; have HB := n0_; clear n0_; (try clear hb); (try clear hb2); (try clear hk); (try clear hi)) | (go_at_call 23; (with_reducible refine (bits_Odd.calls a0 t188 _ A18.out).mono ?_); rintro e w25 ⟨rfl, hb⟩; have n0_ := Aside0.mk (below_step (by repeat (first | (with_reducible first | exact HB.out | apply below_alloc | apply pw_below_drewN | apply below_drew1) | exact HB.out)) hb); clear HB; have HB := n0_; clear n0_; (try clear hb); (try clear hb2); (try clear hk); (try clear hi)) | (go_at_call 24; (with_reducible refine (ulpref01_Odd.calls k a0 t189 _ A19.out).mono ?_); rintro e w26 ⟨rfl, hb⟩; have n0_ := Aside0.mk (below_step (by repeat (first | (with_reducible first | exact HB.out | apply below_alloc | apply pw_below_drewN | apply below_drew1) | exact HB.out)) hb); clear HB; have HB := n0_; clear n0_; (try clear hb); (try clear hb2); (try clear hk); (try clear hi)))
              go_ret
              exact ⟨by first | rfl | (simp [errW_none, errW_some] <;> rfl) | (simp [*, errW_none, errW_some] <;> rfl), by repeat (first | (with_reducible first | exact HB.out | apply below_alloc | apply pw_below_drewN | apply below_drew1) | exact HB.out)⟩
            · rw [if_neg c17] at H
              have c17b0 : (t186 == t187) = false := by simpa using c17
              (try (have c17b1 : decide (t186 = t187) = false := by simpa using c17))
              (try (have c17b2 : (t186 == t187) = false := by simpa using c17))
              (try (have c17b3 : ¬ (t186 = t187) := by simpa using c17))
              clear c17
              obtain rfl := Option.some.inj H
              go_enter Try.func4, Try.ntmps4
              go_wp2_with (first | ((with_reducible refine gate_callee (f := 15) rfl ?_); refine goesL_ (some 11) rfl rfl Try.func15 (by kernel_rfl) rfl #[.int .u64 a0] rfl (by (try simp only [List.map_toArray, List.map_cons, List.map_nil]); first | done | rfl | (simp only [List.length_drop, List.length_take]; rfl)) ?_; (with_reducible refine (bits_Last.calls a0 t177 t178 _ A3.out).mono ?_); rintro e w27 ⟨rfl, hb⟩; refine ⟨_, rfl, ?_⟩; have n0_ := Aside0.mk (below_step (by repeat (first | (with_reducible first | exact HB.out | apply below_alloc | apply pw_below_drewN | apply below_drew1) | exact HB.out)) hb); clear HB; have HB := n0_; clear n0_; (try clear hb); (try clear hb2); (try clear hk); (try clear hi)) | ((with_reducible refine gate_callee (f := 16) rfl ?_); refine goesL_ (some 16) rfl rfl Try.func16 (by kernel_rfl) rfl #[.int .u64 a0] rfl (by (try simp only [List.map_toArray, List.map_cons, List.map_nil]); first | done | rfl | (simp only [List.length_drop, List.length_take]; rfl)) ?_; (with_reducible refine (ulpref01_Last.calls a0 t179 t180 _ A4.out).mono ?_); rintro e w28 ⟨rfl, hb⟩; refine ⟨_, rfl, ?_⟩; have n0_ := Aside0.mk (below_step (by repeat (first | (with_reducible first | exact HB.out | apply below_alloc | apply pw_below_drewN | apply below_drew1) | exact HB.out)) hb); clear HB; have HB := n0_; clear n0_; (try clear hb); (try clear hb2); (try clear hk); (try clear hi)) | ((with_reducible refine gate_callee (f := 12) rfl ?_); refine goesL_ (some 19) rfl rfl Try.func12 (by kernel_rfl) rfl #[] rfl (by (try simp only [List.map_toArray, List.map_cons, List.map_nil]); first | done | rfl | (simp only [List.length_drop, List.length_take]; rfl)) ?_; (with_reducible refine (ulplaw01_lives.calls k  true _ A5.out).mono ?_); rintro e w29 ⟨rfl, hb⟩; refine ⟨_, rfl, ?_⟩; have n0_ := Aside0.mk (below_step (by repeat (first | (with_reducible first | exact HB.out | apply below_alloc | apply pw_below_drewN | apply below_drew1) | exact HB.out)) hb); clear HB; have HB := n0_; clear n0_; (try clear hb); (try clear hb2); (try clear hk); (try clear hi)) | (go_at_call 17; (with_reducible refine (bits_Less.calls a0 a1 t182 _ A7.out).mono ?_); rintro e w' ⟨rfl, ⟨nd, rfl⟩⟩) | (go_at_call 18; (with_reducible refine (ulpref01_Less.calls k a0 a1 t183 _ A8.out).mono ?_); rintro e w' ⟨rfl, ⟨nd, rfl⟩⟩) | (go_at_call 19; (with_reducible refine (bits_Order.calls a0 a1 t184 _ A10.out).mono ?_); rintro e w' ⟨rfl, ⟨nd, rfl⟩⟩) | (go_at_call 20; (with_reducible refine (ulpref01_Order.calls k a0 a1 t185 _ A11.out).mono ?_); rintro e w' ⟨rfl, ⟨nd, rfl⟩⟩) | (go_at_call 21; (with_reducible refine (bits_Whole.calls a0 t186 _ A15.out).mono ?_); rintro e w30 ⟨rfl, hb⟩; have n0_ := Aside0.mk (below_step (by repeat (first | (with_reducible first | exact HB.out | apply below_alloc | apply pw_below_drewN | apply below_drew1) | exact HB.out)) hb); clear HB; have HB := n0_; clear n0_; (try clear hb); (try clear hb2); (try clear hk); (try clear hi)) | (go_at_call 22; (with_reducible refine (ulpref01_Whole.calls k a0 t187 _ A16.out).mono ?_); rintro e w31 ⟨rfl, hb⟩; have n0_ := Aside0.mk (below_step (by repeat (first | (with_reducible first | exact HB.out | apply below_alloc | apply pw_below_drewN | apply below_drew1) | exact HB.out)) hb); clear HB; have HB := n0_; clear n0_; (try clear hb); (try clear hb2); (try clear hk); (try clear hi)))
              go_ret
              exact ⟨by first | rfl | (simp [errW_none, errW_some] <;> rfl) | (simp [*, errW_none, errW_some] <;> rfl), by repeat (first | (with_reducible first | exact HB.out | apply below_alloc | apply pw_below_drewN | apply below_drew1) | exact HB.out)⟩
          · rw [if_neg c14] at H
            have c14b0 : (t178 == t180) = false := beq_eq_false_iff_ne.mpr c14
            have c14b1 : (t178 != t180) = true := bne_iff_ne.mpr c14
            obtain rfl := Option.some.inj H
            go_enter Try.func4, Try.ntmps4
            go_wp2_with (first | ((with_reducible refine gate_callee (f := 15) rfl ?_); refine goesL_ (some 11) rfl rfl Try.func15 (by kernel_rfl) rfl #[.int .u64 a0] rfl (by (try simp only [List.map_toArray, List.map_cons, List.map_nil]); first | done | rfl | (simp only [List.length_drop, List.length_take]; rfl)) ?_; (with_reducible refine (bits_Last.calls a0 t177 t178 _ A3.out).mono ?_); rintro e w32 ⟨rfl, hb⟩; refine ⟨_, rfl, ?_⟩; have n0_ := Aside0.mk (below_step (by repeat (first | (with_reducible first | exact HB.out | apply below_alloc | apply pw_below_drewN | apply below_drew1) | exact HB.out)) hb); clear HB; have HB := n0_; clear n0_; (try clear hb); (try clear hb2); (try clear hk); (try clear hi)) | ((with_reducible refine gate_callee (f := 16) rfl ?_); refine goesL_ (some 16) rfl rfl Try.func16 (by kernel_rfl) rfl #[.int .u64 a0] rfl (by (try simp only [List.map_toArray, List.map_cons, List.map_nil]); first | done | rfl | (simp only [List.length_drop, List.length_take]; rfl)) ?_; (with_reducible refine (ulpref01_Last.calls a0 t179 t180 _ A4.out).mono ?_); rintro e w33 ⟨rfl, hb⟩; refine ⟨_, rfl, ?_⟩; have n0_ := Aside0.mk (below_step (by repeat (first | (with_reducible first | exact HB.out | apply below_alloc | apply pw_below_drewN | apply below_drew1) | exact HB.out)) hb); clear HB; have HB := n0_; clear n0_; (try clear hb); (try clear hb2); (try clear hk); (try clear hi)) | ((with_reducible refine gate_callee (f := 12) rfl ?_); refine goesL_ (some 19) rfl rfl Try.func12 (by kernel_rfl) rfl #[] rfl (by (try simp only [List.map_toArray, List.map_cons, List.map_nil]); first | done | rfl | (simp only [List.length_drop, List.length_take]; rfl)) ?_; (with_reducible refine (ulplaw01_lives.calls k  true _ A5.out).mono ?_); rintro e w34 ⟨rfl, hb⟩; refine ⟨_, rfl, ?_⟩; have n0_ := Aside0.mk (below_step (by repeat (first | (with_reducible first | exact HB.out | apply below_alloc | apply pw_below_drewN | apply below_drew1) | exact HB.out)) hb); clear HB; have HB := n0_; clear n0_; (try clear hb); (try clear hb2); (try clear hk); (try clear hi)) | (go_at_call 17; (with_reducible refine (bits_Less.calls a0 a1 t182 _ A7.out).mono ?_); rintro e w' ⟨rfl, ⟨nd, rfl⟩⟩) | (go_at_call 18; (with_reducible refine (ulpref01_Less.calls k a0 a1 t183 _ A8.out).mono ?_); rintro e w' ⟨rfl, ⟨nd, rfl⟩⟩) | (go_at_call 19; (with_reducible refine (bits_Order.calls a0 a1 t184 _ A10.out).mono ?_); rintro e w' ⟨rfl, ⟨nd, rfl⟩⟩) | (go_at_call 20; (with_reducible refine (ulpref01_Order.calls k a0 a1 t185 _ A11.out).mono ?_); rintro e w' ⟨rfl, ⟨nd, rfl⟩⟩))
            go_ret
            exact ⟨by first | rfl | (simp [errW_none, errW_some] <;> rfl) | (simp [*, errW_none, errW_some] <;> rfl), by repeat (first | (with_reducible first | exact HB.out | apply below_alloc | apply pw_below_drewN | apply below_drew1) | exact HB.out)⟩
        · rw [if_neg c13] at H
          have c13b0 : (t177 == t179) = false := beq_eq_false_iff_ne.mpr c13
          have c13b1 : (t177 != t179) = true := bne_iff_ne.mpr c13
          obtain rfl := Option.some.inj H
          go_enter Try.func4, Try.ntmps4
          go_wp2_with (first | ((with_reducible refine gate_callee (f := 15) rfl ?_); refine goesL_ (some 11) rfl rfl Try.func15 (by kernel_rfl) rfl #[.int .u64 a0] rfl (by (try simp only [List.map_toArray, List.map_cons, List.map_nil]); first | done | rfl | (simp only [List.length_drop, List.length_take]; rfl)) ?_; (with_reducible refine (bits_Last.calls a0 t177 t178 _ A3.out).mono ?_); rintro e w35 ⟨rfl, hb⟩; refine ⟨_, rfl, ?_⟩; have n0_ := Aside0.mk (below_step (by repeat (first | (with_reducible first | exact HB.out | apply below_alloc | apply pw_below_drewN | apply below_drew1) | exact HB.out)) hb); clear HB; have HB := n0_; clear n0_; (try clear hb); (try clear hb2); (try clear hk); (try clear hi)) | ((with_reducible refine gate_callee (f := 16) rfl ?_); refine goesL_ (some 16) rfl rfl Try.func16 (by kernel_rfl) rfl #[.int .u64 a0] rfl (by (try simp only [List.map_toArray, List.map_cons, List.map_nil]); first | done | rfl | (simp only [List.length_drop, List.length_take]; rfl)) ?_; (with_reducible refine (ulpref01_Last.calls a0 t179 t180 _ A4.out).mono ?_); rintro e w36 ⟨rfl, hb⟩; refine ⟨_, rfl, ?_⟩; have n0_ := Aside0.mk (below_step (by repeat (first | (with_reducible first | exact HB.out | apply below_alloc | apply pw_below_drewN | apply below_drew1) | exact HB.out)) hb); clear HB; have HB := n0_; clear n0_; (try clear hb); (try clear hb2); (try clear hk); (try clear hi)) | ((with_reducible refine gate_callee (f := 12) rfl ?_); refine goesL_ (some 19) rfl rfl Try.func12 (by kernel_rfl) rfl #[] rfl (by (try simp only [List.map_toArray, List.map_cons, List.map_nil]); first | done | rfl | (simp only [List.length_drop, List.length_take]; rfl)) ?_; (with_reducible refine (ulplaw01_lives.calls k  true _ A5.out).mono ?_); rintro e w37 ⟨rfl, hb⟩; refine ⟨_, rfl, ?_⟩; have n0_ := Aside0.mk (below_step (by repeat (first | (with_reducible first | exact HB.out | apply below_alloc | apply pw_below_drewN | apply below_drew1) | exact HB.out)) hb); clear HB; have HB := n0_; clear n0_; (try clear hb); (try clear hb2); (try clear hk); (try clear hi)) | (go_at_call 17; (with_reducible refine (bits_Less.calls a0 a1 t182 _ A7.out).mono ?_); rintro e w' ⟨rfl, ⟨nd, rfl⟩⟩) | (go_at_call 18; (with_reducible refine (ulpref01_Less.calls k a0 a1 t183 _ A8.out).mono ?_); rintro e w' ⟨rfl, ⟨nd, rfl⟩⟩) | (go_at_call 19; (with_reducible refine (bits_Order.calls a0 a1 t184 _ A10.out).mono ?_); rintro e w' ⟨rfl, ⟨nd, rfl⟩⟩) | (go_at_call 20; (with_reducible refine (ulpref01_Order.calls k a0 a1 t185 _ A11.out).mono ?_); rintro e w' ⟨rfl, ⟨nd, rfl⟩⟩))
          go_ret
          exact ⟨by first | rfl | (simp [errW_none, errW_some] <;> rfl) | (simp [*, errW_none, errW_some] <;> rfl), by repeat (first | (with_reducible first | exact HB.out | apply below_alloc | apply pw_below_drewN | apply below_drew1) | exact HB.out)⟩
      · rw [if_neg c12] at H
        have c12b0 : (t184 == t185) = false := beq_eq_false_iff_ne.mpr c12
        have c12b1 : (t184 != t185) = true := bne_iff_ne.mpr c12
        obtain rfl := Option.some.inj H
        go_enter Try.func4, Try.ntmps4
        go_wp2_with (first | ((with_reducible refine gate_callee (f := 15) rfl ?_); refine goesL_ (some 11) rfl rfl Try.func15 (by kernel_rfl) rfl #[.int .u64 a0] rfl (by (try simp only [List.map_toArray, List.map_cons, List.map_nil]); first | done | rfl | (simp only [List.length_drop, List.length_take]; rfl)) ?_; (with_reducible refine (bits_Last.calls a0 t177 t178 _ A3.out).mono ?_); rintro e w38 ⟨rfl, hb⟩; refine ⟨_, rfl, ?_⟩; have n0_ := Aside0.mk (below_step (by repeat (first | (with_reducible first | exact HB.out | apply below_alloc | apply pw_below_drewN | apply below_drew1) | exact HB.out)) hb); clear HB; have HB := n0_; clear n0_; (try clear hb); (try clear hb2); (try clear hk); (try clear hi)) | ((with_reducible refine gate_callee (f := 16) rfl ?_); refine goesL_ (some 16) rfl rfl Try.func16 (by kernel_rfl) rfl #[.int .u64 a0] rfl (by (try simp only [List.map_toArray, List.map_cons, List.map_nil]); first | done | rfl | (simp only [List.length_drop, List.length_take]; rfl)) ?_; (with_reducible refine (ulpref01_Last.calls a0 t179 t180 _ A4.out).mono ?_); rintro e w39 ⟨rfl, hb⟩; refine ⟨_, rfl, ?_⟩; have n0_ := Aside0.mk (below_step (by repeat (first | (with_reducible first | exact HB.out | apply below_alloc | apply pw_below_drewN | apply below_drew1) | exact HB.out)) hb); clear HB; have HB := n0_; clear n0_; (try clear hb); (try clear hb2); (try clear hk); (try clear hi)) | ((with_reducible refine gate_callee (f := 12) rfl ?_); refine goesL_ (some 19) rfl rfl Try.func12 (by kernel_rfl) rfl #[] rfl (by (try simp only [List.map_toArray, List.map_cons, List.map_nil]); first | done | rfl | (simp only [List.length_drop, List.length_take]; rfl)) ?_; (with_reducible refine (ulplaw01_lives.calls k  true _ A5.out).mono ?_); rintro e w40 ⟨rfl, hb⟩; refine ⟨_, rfl, ?_⟩; have n0_ := Aside0.mk (below_step (by repeat (first | (with_reducible first | exact HB.out | apply below_alloc | apply pw_below_drewN | apply below_drew1) | exact HB.out)) hb); clear HB; have HB := n0_; clear n0_; (try clear hb); (try clear hb2); (try clear hk); (try clear hi)) | (go_at_call 17; (with_reducible refine (bits_Less.calls a0 a1 t182 _ A7.out).mono ?_); rintro e w' ⟨rfl, ⟨nd, rfl⟩⟩) | (go_at_call 18; (with_reducible refine (ulpref01_Less.calls k a0 a1 t183 _ A8.out).mono ?_); rintro e w' ⟨rfl, ⟨nd, rfl⟩⟩) | (go_at_call 19; (with_reducible refine (bits_Order.calls a0 a1 t184 _ A10.out).mono ?_); rintro e w' ⟨rfl, ⟨nd, rfl⟩⟩) | (go_at_call 20; (with_reducible refine (ulpref01_Order.calls k a0 a1 t185 _ A11.out).mono ?_); rintro e w' ⟨rfl, ⟨nd, rfl⟩⟩))
        go_ret
        exact ⟨by first | rfl | (simp [errW_none, errW_some] <;> rfl) | (simp [*, errW_none, errW_some] <;> rfl), by repeat (first | (with_reducible first | exact HB.out | apply below_alloc | apply pw_below_drewN | apply below_drew1) | exact HB.out)⟩
    · rw [if_neg c9] at H
      have c9b0 : (t182 == t183) = false := by simpa using c9
      (try (have c9b1 : decide (t182 = t183) = false := by simpa using c9))
      (try (have c9b2 : (t182 == t183) = false := by simpa using c9))
      (try (have c9b3 : ¬ (t182 = t183) := by simpa using c9))
      clear c9
      obtain rfl := Option.some.inj H
      go_enter Try.func4, Try.ntmps4
      go_wp2_with (first | ((with_reducible refine gate_callee (f := 15) rfl ?_); refine goesL_ (some 11) rfl rfl Try.func15 (by kernel_rfl) rfl #[.int .u64 a0] rfl (by (try simp only [List.map_toArray, List.map_cons, List.map_nil]); first | done | rfl | (simp only [List.length_drop, List.length_take]; rfl)) ?_; (with_reducible refine (bits_Last.calls a0 t177 t178 _ A3.out).mono ?_); rintro e w41 ⟨rfl, hb⟩; refine ⟨_, rfl, ?_⟩; have n0_ := Aside0.mk (below_step (by repeat (first | (with_reducible first | exact HB.out | apply below_alloc | apply pw_below_drewN | apply below_drew1) | exact HB.out)) hb); clear HB; have HB := n0_; clear n0_; (try clear hb); (try clear hb2); (try clear hk); (try clear hi)) | ((with_reducible refine gate_callee (f := 16) rfl ?_); refine goesL_ (some 16) rfl rfl Try.func16 (by kernel_rfl) rfl #[.int .u64 a0] rfl (by (try simp only [List.map_toArray, List.map_cons, List.map_nil]); first | done | rfl | (simp only [List.length_drop, List.length_take]; rfl)) ?_; (with_reducible refine (ulpref01_Last.calls a0 t179 t180 _ A4.out).mono ?_); rintro e w42 ⟨rfl, hb⟩; refine ⟨_, rfl, ?_⟩; have n0_ := Aside0.mk (below_step (by repeat (first | (with_reducible first | exact HB.out | apply below_alloc | apply pw_below_drewN | apply below_drew1) | exact HB.out)) hb); clear HB; have HB := n0_; clear n0_; (try clear hb); (try clear hb2); (try clear hk); (try clear hi)) | ((with_reducible refine gate_callee (f := 12) rfl ?_); refine goesL_ (some 19) rfl rfl Try.func12 (by kernel_rfl) rfl #[] rfl (by (try simp only [List.map_toArray, List.map_cons, List.map_nil]); first | done | rfl | (simp only [List.length_drop, List.length_take]; rfl)) ?_; (with_reducible refine (ulplaw01_lives.calls k  true _ A5.out).mono ?_); rintro e w43 ⟨rfl, hb⟩; refine ⟨_, rfl, ?_⟩; have n0_ := Aside0.mk (below_step (by repeat (first | (with_reducible first | exact HB.out | apply below_alloc | apply pw_below_drewN | apply below_drew1) | exact HB.out)) hb); clear HB; have HB := n0_; clear n0_; (try clear hb); (try clear hb2); (try clear hk); (try clear hi)) | (go_at_call 17; (with_reducible refine (bits_Less.calls a0 a1 t182 _ A7.out).mono ?_); rintro e w' ⟨rfl, ⟨nd, rfl⟩⟩) | (go_at_call 18; (with_reducible refine (ulpref01_Less.calls k a0 a1 t183 _ A8.out).mono ?_); rintro e w' ⟨rfl, ⟨nd, rfl⟩⟩))
      go_ret
      exact ⟨by first | rfl | (simp [errW_none, errW_some] <;> rfl) | (simp [*, errW_none, errW_some] <;> rfl), by repeat (first | (with_reducible first | exact HB.out | apply below_alloc | apply pw_below_drewN | apply below_drew1) | exact HB.out)⟩
  · replace c6 := Bool.eq_false_iff.mpr c6
    subst c6
    have H1 : (some false) = some r := by rw [if_neg (show ¬ (false = true) by decide)] at H; exact H
    clear H
    have H := H1
    clear H1
    obtain rfl := Option.some.inj H
    go_enter Try.func4, Try.ntmps4
    go_wp2_with (first | ((with_reducible refine gate_callee (f := 15) rfl ?_); refine goesL_ (some 11) rfl rfl Try.func15 (by kernel_rfl) rfl #[.int .u64 a0] rfl (by (try simp only [List.map_toArray, List.map_cons, List.map_nil]); first | done | rfl | (simp only [List.length_drop, List.length_take]; rfl)) ?_; (with_reducible refine (bits_Last.calls a0 t177 t178 _ A3.out).mono ?_); rintro e w44 ⟨rfl, hb⟩; refine ⟨_, rfl, ?_⟩; have n0_ := Aside0.mk (below_step (by repeat (first | (with_reducible first | exact HB.out | apply below_alloc | apply pw_below_drewN | apply below_drew1) | exact HB.out)) hb); clear HB; have HB := n0_; clear n0_; (try clear hb); (try clear hb2); (try clear hk); (try clear hi)) | ((with_reducible refine gate_callee (f := 16) rfl ?_); refine goesL_ (some 16) rfl rfl Try.func16 (by kernel_rfl) rfl #[.int .u64 a0] rfl (by (try simp only [List.map_toArray, List.map_cons, List.map_nil]); first | done | rfl | (simp only [List.length_drop, List.length_take]; rfl)) ?_; (with_reducible refine (ulpref01_Last.calls a0 t179 t180 _ A4.out).mono ?_); rintro e w45 ⟨rfl, hb⟩; refine ⟨_, rfl, ?_⟩; have n0_ := Aside0.mk (below_step (by repeat (first | (with_reducible first | exact HB.out | apply below_alloc | apply pw_below_drewN | apply below_drew1) | exact HB.out)) hb); clear HB; have HB := n0_; clear n0_; (try clear hb); (try clear hb2); (try clear hk); (try clear hi)) | ((with_reducible refine gate_callee (f := 12) rfl ?_); refine goesL_ (some 19) rfl rfl Try.func12 (by kernel_rfl) rfl #[] rfl (by (try simp only [List.map_toArray, List.map_cons, List.map_nil]); first | done | rfl | (simp only [List.length_drop, List.length_take]; rfl)) ?_; (with_reducible refine (ulplaw01_lives.calls k  false _ A5.out).mono ?_); rintro e w46 ⟨rfl, hb⟩; refine ⟨_, rfl, ?_⟩; have n0_ := Aside0.mk (below_step (by repeat (first | (with_reducible first | exact HB.out | apply below_alloc | apply pw_below_drewN | apply below_drew1) | exact HB.out)) hb); clear HB; have HB := n0_; clear n0_; (try clear hb); (try clear hb2); (try clear hk); (try clear hi)))
    go_ret
    exact ⟨by first | rfl | (simp [errW_none, errW_some] <;> rfl) | (simp [*, errW_none, errW_some] <;> rfl), by repeat (first | (with_reducible first | exact HB.out | apply below_alloc | apply pw_below_drewN | apply below_drew1) | exact HB.out)⟩

/-- THE ONE PURE STATEMENT of ulplaw01_BitsOrders: yours. -/
def ulplaw01_BitsOrders.Pure : Prop := ∀ (a0 : Int) (a1 : Int), (Lit.int .u64 a0).wf = true → (Lit.int .u64 a1).wf = true → ∃ k, ulplaw01_BitsOrders.f k a0 a1 = some true
theorem ulplaw01_BitsOrders.walk (P : ulplaw01_BitsOrders.Pure) (a0 : Int) (a1 : Int) (w : World) (w0 : (Lit.int .u64 a0).wf = true) (w1 : (Lit.int .u64 a1).wf = true) :
    Calls Try.prog 4 #[.int .u64 a0, .int .u64 a1] w fun e w' => e = .returned (.bool true) ∧ Below w.heap.size w w' := by
  obtain ⟨k, h⟩ := P a0 a1 w0 w1
  refine (ulplaw01_BitsOrders.calls k a0 a1 true w h).mono ?_
  rintro e w' ⟨rfl, hd⟩
  exact ⟨rfl, hd⟩

/-! ### ulplaw01_BitsTotal: function 5 -/
mutual
def ulplaw01_BitsTotal.j0 : Nat → Int → Int → Int → Bool → Option (Bool)
  | 0, _, _, _, _ => none
  | k + 1, x0, x1, x7, x49 => if x49 = true then (some false) else ((ulplaw01_isNumber.f k x0).bind fun t195 => (if t195 = true then ((ulplaw01_isNumber.f k x1).bind fun t196 => (ulplaw01_BitsTotal.j1 k x0 x1 x7 t196)) else (ulplaw01_BitsTotal.j1 k x0 x1 x7 false)))
def ulplaw01_BitsTotal.j1 : Nat → Int → Int → Int → Bool → Option (Bool)
  | 0, _, _, _, _ => none
  | k + 1, x0, x1, x7, x10 => if x10 = true then ((bits_Class.f k x0).bind fun t197 => (if t197 = 1 then (some true) else ((bits_Class.f k x1).bind fun t198 => (if t198 = 1 then (some true) else ((bits_Less.f x0 x1).bind fun t199 => (if (t199 != (decide (x7 < 0))) = true then (some false) else (some true))))))) else ((bits_Less.f x0 x1).bind fun t200 => (some (!t200)))
end
def ulplaw01_BitsTotal.f (k : Nat) (a0 : Int) (a1 : Int) (a2 : Int) : Option (Bool) := (bits_Order.f a0 a1).bind fun t190 => ((bits_Order.f a1 a2).bind fun t191 => ((bits_Order.f a0 a2).bind fun t192 => ((ulplaw01_lives.f k).bind fun t193 => (if t193 = true then ((bits_Order.f a1 a0).bind fun t194 => (if t190 = (wrap64 (-t194)) then (if ((t190 == 0) != (a0 == a1)) = true then (ulplaw01_BitsTotal.j0 k a0 a1 t190 true) else (if t190 ≤ 0 then (if t191 ≤ 0 then (ulplaw01_BitsTotal.j0 k a0 a1 t190 (decide (t192 > 0))) else (ulplaw01_BitsTotal.j0 k a0 a1 t190 false)) else (ulplaw01_BitsTotal.j0 k a0 a1 t190 false))) else (ulplaw01_BitsTotal.j0 k a0 a1 t190 true))) else (ulplaw01_BitsTotal.j0 k a0 a1 t190 true)))))
theorem ulplaw01_BitsTotal.mono_l : ∀ k, (∀ y0 y1 y2 y3, LeO (ulplaw01_BitsTotal.j0 k y0 y1 y2 y3) (ulplaw01_BitsTotal.j0 (k + 1) y0 y1 y2 y3)) ∧ (∀ y0 y1 y2 y3, LeO (ulplaw01_BitsTotal.j1 k y0 y1 y2 y3) (ulplaw01_BitsTotal.j1 (k + 1) y0 y1 y2 y3))
  | 0 => ⟨fun _ _ _ _ r h => by simp [ulplaw01_BitsTotal.j0] at h, fun _ _ _ _ r h => by simp [ulplaw01_BitsTotal.j1] at h⟩
  | k + 1 => by
    obtain ⟨ih0, ih1⟩ := ulplaw01_BitsTotal.mono_l k
    refine ⟨?_, ?_⟩
    · intro y0 y1 y2 y3
      unfold ulplaw01_BitsTotal.j0
      repeat' first
      | (with_reducible exact ih0 _ _ _ _)
      | (with_reducible exact ih1 _ _ _ _)
      | (with_reducible exact bits_Class.mono _ _)
      | (with_reducible exact ulplaw01_isNumber.mono _ _)
      | (with_reducible exact ulplaw01_lives.mono _)
      | (with_reducible exact LeO.refl _)
      | (with_reducible exact LeO.none _)
      | (with_reducible refine LeO.ite ?_ ?_)
      | (with_reducible refine LeO.bind ?_ (fun _ => ?_))
      | exact ih0 _ _ _ _
      | exact ih1 _ _ _ _
      | exact bits_Class.mono _ _
      | exact ulplaw01_isNumber.mono _ _
      | exact ulplaw01_lives.mono _
      | exact LeO.none _
      | refine LeO.ite ?_ ?_
      | refine LeO.bind ?_ (fun _ => ?_)
    · intro y0 y1 y2 y3
      unfold ulplaw01_BitsTotal.j1
      repeat' first
      | (with_reducible exact ih0 _ _ _ _)
      | (with_reducible exact ih1 _ _ _ _)
      | (with_reducible exact bits_Class.mono _ _)
      | (with_reducible exact ulplaw01_isNumber.mono _ _)
      | (with_reducible exact ulplaw01_lives.mono _)
      | (with_reducible exact LeO.refl _)
      | (with_reducible exact LeO.none _)
      | (with_reducible refine LeO.ite ?_ ?_)
      | (with_reducible refine LeO.bind ?_ (fun _ => ?_))
      | exact ih0 _ _ _ _
      | exact ih1 _ _ _ _
      | exact bits_Class.mono _ _
      | exact ulplaw01_isNumber.mono _ _
      | exact ulplaw01_lives.mono _
      | exact LeO.none _
      | refine LeO.ite ?_ ?_
      | refine LeO.bind ?_ (fun _ => ?_)
theorem ulplaw01_BitsTotal.mono : ∀ a0 a1 a2 k, LeO (ulplaw01_BitsTotal.f k a0 a1 a2) (ulplaw01_BitsTotal.f (k + 1) a0 a1 a2) := by
  intro a0 a1 a2 k
  obtain ⟨ih0, ih1⟩ := ulplaw01_BitsTotal.mono_l k
  unfold ulplaw01_BitsTotal.f
  repeat' first
      | (with_reducible exact ih0 _ _ _ _)
      | (with_reducible exact ih1 _ _ _ _)
      | (with_reducible exact bits_Class.mono _ _)
      | (with_reducible exact ulplaw01_isNumber.mono _ _)
      | (with_reducible exact ulplaw01_lives.mono _)
      | (with_reducible exact LeO.refl _)
      | (with_reducible exact LeO.none _)
      | (with_reducible refine LeO.ite ?_ ?_)
      | (with_reducible refine LeO.bind ?_ (fun _ => ?_))
      | exact ih0 _ _ _ _
      | exact ih1 _ _ _ _
      | exact bits_Class.mono _ _
      | exact ulplaw01_isNumber.mono _ _
      | exact ulplaw01_lives.mono _
      | exact LeO.none _
      | refine LeO.ite ?_ ?_
      | refine LeO.bind ?_ (fun _ => ?_)
set_option maxHeartbeats 8000000 in
set_option maxRecDepth 100000 in
theorem ulplaw01_BitsTotal.calls (k : Nat) (a0 : Int) (a1 : Int) (a2 : Int) (r : Bool) (w : World) (h : ulplaw01_BitsTotal.f k a0 a1 a2 = some r) :
    Calls Try.prog 5 #[.int .u64 a0, .int .u64 a1, .int .u64 a2] w fun e w' => e = .returned (.bool r) ∧ Below w.heap.size w w' := by
  have HB := Aside0.mk (Below.refl w.heap.size w)
  have H : ((bits_Order.f a0 a1).bind fun t190 => ((bits_Order.f a1 a2).bind fun t191 => ((bits_Order.f a0 a2).bind fun t192 => ((ulplaw01_lives.f k).bind fun t193 => (if t193 = true then ((bits_Order.f a1 a0).bind fun t194 => (if t190 = (wrap64 (-t194)) then (if ((t190 == 0) != (a0 == a1)) = true then (ulplaw01_BitsTotal.j0 k a0 a1 t190 true) else (if t190 ≤ 0 then (if t191 ≤ 0 then (ulplaw01_BitsTotal.j0 k a0 a1 t190 (decide (t192 > 0))) else (ulplaw01_BitsTotal.j0 k a0 a1 t190 false)) else (ulplaw01_BitsTotal.j0 k a0 a1 t190 false))) else (ulplaw01_BitsTotal.j0 k a0 a1 t190 true))) else (ulplaw01_BitsTotal.j0 k a0 a1 t190 true)))))) = some r := h
  clear h
  replace H := Option.bind_eq_some_iff.mp H
  obtain ⟨t190, A40, H⟩ := H
  replace H : ((bits_Order.f a1 a2).bind fun t191 => ((bits_Order.f a0 a2).bind fun t192 => ((ulplaw01_lives.f k).bind fun t193 => (if t193 = true then ((bits_Order.f a1 a0).bind fun t194 => (if t190 = (wrap64 (-t194)) then (if ((t190 == 0) != (a0 == a1)) = true then (ulplaw01_BitsTotal.j0 k a0 a1 t190 true) else (if t190 ≤ 0 then (if t191 ≤ 0 then (ulplaw01_BitsTotal.j0 k a0 a1 t190 (decide (t192 > 0))) else (ulplaw01_BitsTotal.j0 k a0 a1 t190 false)) else (ulplaw01_BitsTotal.j0 k a0 a1 t190 false))) else (ulplaw01_BitsTotal.j0 k a0 a1 t190 true))) else (ulplaw01_BitsTotal.j0 k a0 a1 t190 true))))) = some r := H
  have A4 := Aside0.mk A40
  clear A40
  replace H := Option.bind_eq_some_iff.mp H
  obtain ⟨t191, A50, H⟩ := H
  replace H : ((bits_Order.f a0 a2).bind fun t192 => ((ulplaw01_lives.f k).bind fun t193 => (if t193 = true then ((bits_Order.f a1 a0).bind fun t194 => (if t190 = (wrap64 (-t194)) then (if ((t190 == 0) != (a0 == a1)) = true then (ulplaw01_BitsTotal.j0 k a0 a1 t190 true) else (if t190 ≤ 0 then (if t191 ≤ 0 then (ulplaw01_BitsTotal.j0 k a0 a1 t190 (decide (t192 > 0))) else (ulplaw01_BitsTotal.j0 k a0 a1 t190 false)) else (ulplaw01_BitsTotal.j0 k a0 a1 t190 false))) else (ulplaw01_BitsTotal.j0 k a0 a1 t190 true))) else (ulplaw01_BitsTotal.j0 k a0 a1 t190 true)))) = some r := H
  have A5 := Aside0.mk A50
  clear A50
  replace H := Option.bind_eq_some_iff.mp H
  obtain ⟨t192, A60, H⟩ := H
  replace H : ((ulplaw01_lives.f k).bind fun t193 => (if t193 = true then ((bits_Order.f a1 a0).bind fun t194 => (if t190 = (wrap64 (-t194)) then (if ((t190 == 0) != (a0 == a1)) = true then (ulplaw01_BitsTotal.j0 k a0 a1 t190 true) else (if t190 ≤ 0 then (if t191 ≤ 0 then (ulplaw01_BitsTotal.j0 k a0 a1 t190 (decide (t192 > 0))) else (ulplaw01_BitsTotal.j0 k a0 a1 t190 false)) else (ulplaw01_BitsTotal.j0 k a0 a1 t190 false))) else (ulplaw01_BitsTotal.j0 k a0 a1 t190 true))) else (ulplaw01_BitsTotal.j0 k a0 a1 t190 true))) = some r := H
  have A6 := Aside0.mk A60
  clear A60
  have HC7 := Aside0.mk H
  clear H
  go_enter Try.func5, Try.ntmps5
  go_upto_region 2 with (first | ((with_reducible refine gate_callee (f := 19) rfl ?_); refine goesL_ (some 13) rfl rfl Try.func19 (by kernel_rfl) rfl #[.int .u64 a0, .int .u64 a1] rfl (by (try simp only [List.map_toArray, List.map_cons, List.map_nil]); first | done | rfl | (simp only [List.length_drop, List.length_take]; rfl)) ?_; (with_reducible refine (bits_Order.calls a0 a1 t190 _ A4.out).mono ?_); rintro e w' ⟨rfl, ⟨nd, rfl⟩⟩; refine ⟨_, rfl, ?_⟩) | ((with_reducible refine gate_callee (f := 19) rfl ?_); refine goesL_ (some 16) rfl rfl Try.func19 (by kernel_rfl) rfl #[.int .u64 a1, .int .u64 a2] rfl (by (try simp only [List.map_toArray, List.map_cons, List.map_nil]); first | done | rfl | (simp only [List.length_drop, List.length_take]; rfl)) ?_; (with_reducible refine (bits_Order.calls a1 a2 t191 _ A5.out).mono ?_); rintro e w' ⟨rfl, ⟨nd, rfl⟩⟩; refine ⟨_, rfl, ?_⟩) | ((with_reducible refine gate_callee (f := 19) rfl ?_); refine goesL_ (some 19) rfl rfl Try.func19 (by kernel_rfl) rfl #[.int .u64 a0, .int .u64 a2] rfl (by (try simp only [List.map_toArray, List.map_cons, List.map_nil]); first | done | rfl | (simp only [List.length_drop, List.length_take]; rfl)) ?_; (with_reducible refine (bits_Order.calls a0 a2 t192 _ A6.out).mono ?_); rintro e w' ⟨rfl, ⟨nd, rfl⟩⟩; refine ⟨_, rfl, ?_⟩))
  (try simp only [Act.put, List.setIfInBounds_toArray, List.set_cons_zero, List.set_cons_succ])
  go_cut [49] (fun v49 wc => ∃ (kq : Nat) (x49_6 : Bool), v49 = .bool x49_6 ∧ Aside0 (ulplaw01_BitsTotal.j0 kq a0 a1 t190 x49_6 = some r) ∧ Aside0 (kq ≤ k) ∧ Aside0 (Below w.heap.size w wc))
  case first =>
    have H := HC7.out
    clear HC7
    replace H := Option.bind_eq_some_iff.mp H
    obtain ⟨t193, A80, H⟩ := H
    replace H : (if t193 = true then ((bits_Order.f a1 a0).bind fun t194 => (if t190 = (wrap64 (-t194)) then (if ((t190 == 0) != (a0 == a1)) = true then (ulplaw01_BitsTotal.j0 k a0 a1 t190 true) else (if t190 ≤ 0 then (if t191 ≤ 0 then (ulplaw01_BitsTotal.j0 k a0 a1 t190 (decide (t192 > 0))) else (ulplaw01_BitsTotal.j0 k a0 a1 t190 false)) else (ulplaw01_BitsTotal.j0 k a0 a1 t190 false))) else (ulplaw01_BitsTotal.j0 k a0 a1 t190 true))) else (ulplaw01_BitsTotal.j0 k a0 a1 t190 true)) = some r := H
    have A8 := Aside0.mk A80
    clear A80
    by_cases c9 : t193 = true
    · subst c9
      have H1 : ((bits_Order.f a1 a0).bind fun t194 => (if t190 = (wrap64 (-t194)) then (if ((t190 == 0) != (a0 == a1)) = true then (ulplaw01_BitsTotal.j0 k a0 a1 t190 true) else (if t190 ≤ 0 then (if t191 ≤ 0 then (ulplaw01_BitsTotal.j0 k a0 a1 t190 (decide (t192 > 0))) else (ulplaw01_BitsTotal.j0 k a0 a1 t190 false)) else (ulplaw01_BitsTotal.j0 k a0 a1 t190 false))) else (ulplaw01_BitsTotal.j0 k a0 a1 t190 true))) = some r := by rw [if_pos rfl] at H; exact H
      clear H
      have H := H1
      clear H1
      replace H := Option.bind_eq_some_iff.mp H
      obtain ⟨t194, A100, H⟩ := H
      replace H : (if t190 = (wrap64 (-t194)) then (if ((t190 == 0) != (a0 == a1)) = true then (ulplaw01_BitsTotal.j0 k a0 a1 t190 true) else (if t190 ≤ 0 then (if t191 ≤ 0 then (ulplaw01_BitsTotal.j0 k a0 a1 t190 (decide (t192 > 0))) else (ulplaw01_BitsTotal.j0 k a0 a1 t190 false)) else (ulplaw01_BitsTotal.j0 k a0 a1 t190 false))) else (ulplaw01_BitsTotal.j0 k a0 a1 t190 true)) = some r := H
      have A10 := Aside0.mk A100
      clear A100
      by_cases c11 : t190 = (wrap64 (-t194))
      · rw [if_pos c11] at H
        have c11b0 : (t190 == (wrap64 (-t194))) = true := beq_iff_eq.mpr c11
        have c11b1 : (t190 != (wrap64 (-t194))) = false := bne_eq_false_iff_eq.mpr c11
        clear c11
        (first | rw [c11b0] | (simp only [i64_w, i32_w]; rw [c11b0]) | skip)
        by_cases c12 : ((t190 == 0) != (a0 == a1)) = true
        · rw [if_pos c12] at H
          have c12b0 : ((t190 == 0) != (a0 == a1)) = true := c12
          (try (have c12b1 : decide ((t190 == 0) = (a0 == a1)) = false := by simpa using c12))
          (try (have c12b2 : ((t190 == 0) == (a0 == a1)) = false := by simpa using c12))
          (try (have c12b3 : ¬ ((t190 == 0) = (a0 == a1)) := by simpa using c12))
          clear c12
          have H' := Aside0.mk H
          clear H
          go_wp2_with (first | ((with_reducible refine gate_callee (f := 12) rfl ?_); refine goesL_ (some 20) rfl rfl Try.func12 (by kernel_rfl) rfl #[] rfl (by (try simp only [List.map_toArray, List.map_cons, List.map_nil]); first | done | rfl | (simp only [List.length_drop, List.length_take]; rfl)) ?_; (with_reducible refine (ulplaw01_lives.calls k  true _ A8.out).mono ?_); rintro e w13 ⟨rfl, hb⟩; refine ⟨_, rfl, ?_⟩; have n0_ := Aside0.mk (below_step (by repeat (first | (with_reducible first | exact HB.out | apply below_alloc | apply pw_below_drewN | apply below_drew1) | exact HB.out)) hb); clear HB; have HB := n0_; clear n0_; (try clear hb); (try clear hb2); (try clear hk); (try clear hi)) | (go_at_call 19; (with_reducible refine (bits_Order.calls a1 a0 t194 _ A10.out).mono ?_); rintro e w' ⟨rfl, ⟨nd, rfl⟩⟩))
          go_meet
          case rel => exact ⟨_, (true), (by first | rfl | (simp; done) | (simp [*]; done)), H', ⟨by first | omega | exact Nat.le_refl _⟩, ⟨by repeat (first | (with_reducible first | exact HB.out | apply below_alloc | apply pw_below_drewN | apply below_drew1) | exact HB.out)⟩⟩
        · rw [if_neg c12] at H
          have c12b0 : ((t190 == 0) != (a0 == a1)) = false := by simpa using c12
          (try (have c12b1 : decide ((t190 == 0) = (a0 == a1)) = true := by simpa using c12))
          (try (have c12b2 : ((t190 == 0) == (a0 == a1)) = true := by simpa using c12))
          clear c12
          by_cases c14 : t190 ≤ 0
          · rw [if_pos c14] at H
            have c14b0 : decide (t190 ≤ 0) = true := decide_eq_true c14
            clear c14
            by_cases c15 : t191 ≤ 0
            · rw [if_pos c15] at H
              have c15b0 : decide (t191 ≤ 0) = true := decide_eq_true c15
              clear c15
              have H' := Aside0.mk H
              clear H
              go_wp2_with (first | ((with_reducible refine gate_callee (f := 12) rfl ?_); refine goesL_ (some 20) rfl rfl Try.func12 (by kernel_rfl) rfl #[] rfl (by (try simp only [List.map_toArray, List.map_cons, List.map_nil]); first | done | rfl | (simp only [List.length_drop, List.length_take]; rfl)) ?_; (with_reducible refine (ulplaw01_lives.calls k  true _ A8.out).mono ?_); rintro e w16 ⟨rfl, hb⟩; refine ⟨_, rfl, ?_⟩; have n0_ := Aside0.mk (below_step (by repeat (first | (with_reducible first | exact HB.out | apply below_alloc | apply pw_below_drewN | apply below_drew1) | exact HB.out)) hb); clear HB; have HB := n0_; clear n0_; (try clear hb); (try clear hb2); (try clear hk); (try clear hi)) | (go_at_call 19; (with_reducible refine (bits_Order.calls a1 a0 t194 _ A10.out).mono ?_); rintro e w' ⟨rfl, ⟨nd, rfl⟩⟩))
              go_meet
              case rel => exact ⟨_, (decide (t192 > 0)), (by first | rfl | (simp; done) | (simp [*]; done)), H', ⟨by first | omega | exact Nat.le_refl _⟩, ⟨by repeat (first | (with_reducible first | exact HB.out | apply below_alloc | apply pw_below_drewN | apply below_drew1) | exact HB.out)⟩⟩
            · rw [if_neg c15] at H
              have c15b0 : decide (t191 ≤ 0) = false := decide_eq_false c15
              clear c15
              have H' := Aside0.mk H
              clear H
              go_wp2_with (first | ((with_reducible refine gate_callee (f := 12) rfl ?_); refine goesL_ (some 20) rfl rfl Try.func12 (by kernel_rfl) rfl #[] rfl (by (try simp only [List.map_toArray, List.map_cons, List.map_nil]); first | done | rfl | (simp only [List.length_drop, List.length_take]; rfl)) ?_; (with_reducible refine (ulplaw01_lives.calls k  true _ A8.out).mono ?_); rintro e w17 ⟨rfl, hb⟩; refine ⟨_, rfl, ?_⟩; have n0_ := Aside0.mk (below_step (by repeat (first | (with_reducible first | exact HB.out | apply below_alloc | apply pw_below_drewN | apply below_drew1) | exact HB.out)) hb); clear HB; have HB := n0_; clear n0_; (try clear hb); (try clear hb2); (try clear hk); (try clear hi)) | (go_at_call 19; (with_reducible refine (bits_Order.calls a1 a0 t194 _ A10.out).mono ?_); rintro e w' ⟨rfl, ⟨nd, rfl⟩⟩))
              go_meet
              case rel => exact ⟨_, (false), (by first | rfl | (simp; done) | (simp [*]; done)), H', ⟨by first | omega | exact Nat.le_refl _⟩, ⟨by repeat (first | (with_reducible first | exact HB.out | apply below_alloc | apply pw_below_drewN | apply below_drew1) | exact HB.out)⟩⟩
          · rw [if_neg c14] at H
            have c14b0 : decide (t190 ≤ 0) = false := decide_eq_false c14
            clear c14
            have H' := Aside0.mk H
            clear H
            go_wp2_with (first | ((with_reducible refine gate_callee (f := 12) rfl ?_); refine goesL_ (some 20) rfl rfl Try.func12 (by kernel_rfl) rfl #[] rfl (by (try simp only [List.map_toArray, List.map_cons, List.map_nil]); first | done | rfl | (simp only [List.length_drop, List.length_take]; rfl)) ?_; (with_reducible refine (ulplaw01_lives.calls k  true _ A8.out).mono ?_); rintro e w18 ⟨rfl, hb⟩; refine ⟨_, rfl, ?_⟩; have n0_ := Aside0.mk (below_step (by repeat (first | (with_reducible first | exact HB.out | apply below_alloc | apply pw_below_drewN | apply below_drew1) | exact HB.out)) hb); clear HB; have HB := n0_; clear n0_; (try clear hb); (try clear hb2); (try clear hk); (try clear hi)) | (go_at_call 19; (with_reducible refine (bits_Order.calls a1 a0 t194 _ A10.out).mono ?_); rintro e w' ⟨rfl, ⟨nd, rfl⟩⟩))
            go_meet
            case rel => exact ⟨_, (false), (by first | rfl | (simp; done) | (simp [*]; done)), H', ⟨by first | omega | exact Nat.le_refl _⟩, ⟨by repeat (first | (with_reducible first | exact HB.out | apply below_alloc | apply pw_below_drewN | apply below_drew1) | exact HB.out)⟩⟩
      · rw [if_neg c11] at H
        have c11b0 : (t190 == (wrap64 (-t194))) = false := beq_eq_false_iff_ne.mpr c11
        have c11b1 : (t190 != (wrap64 (-t194))) = true := bne_iff_ne.mpr c11
        (first | rw [c11b0] | (simp only [i64_w, i32_w]; rw [c11b0]) | skip)
        have H' := Aside0.mk H
        clear H
        go_wp2_with (first | ((with_reducible refine gate_callee (f := 12) rfl ?_); refine goesL_ (some 20) rfl rfl Try.func12 (by kernel_rfl) rfl #[] rfl (by (try simp only [List.map_toArray, List.map_cons, List.map_nil]); first | done | rfl | (simp only [List.length_drop, List.length_take]; rfl)) ?_; (with_reducible refine (ulplaw01_lives.calls k  true _ A8.out).mono ?_); rintro e w19 ⟨rfl, hb⟩; refine ⟨_, rfl, ?_⟩; have n0_ := Aside0.mk (below_step (by repeat (first | (with_reducible first | exact HB.out | apply below_alloc | apply pw_below_drewN | apply below_drew1) | exact HB.out)) hb); clear HB; have HB := n0_; clear n0_; (try clear hb); (try clear hb2); (try clear hk); (try clear hi)) | (go_at_call 19; (with_reducible refine (bits_Order.calls a1 a0 t194 _ A10.out).mono ?_); rintro e w' ⟨rfl, ⟨nd, rfl⟩⟩))
        go_meet
        case rel => exact ⟨_, (true), (by first | rfl | (simp; done) | (simp [*]; done)), H', ⟨by first | omega | exact Nat.le_refl _⟩, ⟨by repeat (first | (with_reducible first | exact HB.out | apply below_alloc | apply pw_below_drewN | apply below_drew1) | exact HB.out)⟩⟩
    · replace c9 := Bool.eq_false_iff.mpr c9
      subst c9
      have H1 : (ulplaw01_BitsTotal.j0 k a0 a1 t190 true) = some r := by rw [if_neg (show ¬ (false = true) by decide)] at H; exact H
      clear H
      have H := H1
      clear H1
      have H' := Aside0.mk H
      clear H
      go_wp2_with (first | ((with_reducible refine gate_callee (f := 12) rfl ?_); refine goesL_ (some 20) rfl rfl Try.func12 (by kernel_rfl) rfl #[] rfl (by (try simp only [List.map_toArray, List.map_cons, List.map_nil]); first | done | rfl | (simp only [List.length_drop, List.length_take]; rfl)) ?_; (with_reducible refine (ulplaw01_lives.calls k  false _ A8.out).mono ?_); rintro e w20 ⟨rfl, hb⟩; refine ⟨_, rfl, ?_⟩; have n0_ := Aside0.mk (below_step (by repeat (first | (with_reducible first | exact HB.out | apply below_alloc | apply pw_below_drewN | apply below_drew1) | exact HB.out)) hb); clear HB; have HB := n0_; clear n0_; (try clear hb); (try clear hb2); (try clear hk); (try clear hi)))
      go_meet
      case rel => exact ⟨_, (true), (by first | rfl | (simp; done) | (simp [*]; done)), H', ⟨by first | omega | exact Nat.le_refl _⟩, ⟨by repeat (first | (with_reducible first | exact HB.out | apply below_alloc | apply pw_below_drewN | apply below_drew1) | exact HB.out)⟩⟩
  case rest =>
    clear HC7
    try clear c1
    try clear p2
    try clear c5
    try clear p6
    try clear c9
    try clear c11
    try clear c11b0
    try clear c11b1
    try clear c12
    try clear c12b0
    try clear c12b1
    try clear c12b2
    try clear c14
    try clear c14b0
    try clear c15
    try clear c15b0
    try clear c19
    obtain ⟨kq, x49_6, rfl, HA, HJ6, HB⟩ := hcut
    cases kq with
    | zero => exact absurd HA.out (by simp [ulplaw01_BitsTotal.j0])
    | succ kj6 =>
      have H := HA.out
      clear HA
      simp only [ulplaw01_BitsTotal.j0] at H
      by_cases c21 : x49_6 = true
      · subst c21
        have H1 : (some false) = some r := by rw [if_pos rfl] at H; exact H
        clear H
        have H := H1
        clear H1
        obtain rfl := Option.some.inj H
        go_wp2
        go_ret
        exact ⟨by first | rfl | (simp [errW_none, errW_some] <;> rfl) | (simp [*, errW_none, errW_some] <;> rfl), by repeat (first | (with_reducible first | exact HB.out | apply below_alloc | apply pw_below_drewN | apply below_drew1) | exact HB.out)⟩
      · replace c21 := Bool.eq_false_iff.mpr c21
        subst c21
        have H1 : ((ulplaw01_isNumber.f kj6 a0).bind fun t195 => (if t195 = true then ((ulplaw01_isNumber.f kj6 a1).bind fun t196 => (ulplaw01_BitsTotal.j1 kj6 a0 a1 t190 t196)) else (ulplaw01_BitsTotal.j1 kj6 a0 a1 t190 false))) = some r := by rw [if_neg (show ¬ (false = true) by decide)] at H; exact H
        clear H
        have H := H1
        clear H1
        have HC22 := Aside0.mk H
        clear H
        go_upto_region 4 with (fail)
        go_cut [10] (fun v10 wc => ∃ (kq : Nat) (x10_21 : Bool), v10 = .bool x10_21 ∧ Aside0 (ulplaw01_BitsTotal.j1 kq a0 a1 t190 x10_21 = some r) ∧ Aside0 (kq ≤ kj6) ∧ Aside0 (Below w.heap.size w wc))
        case first =>
          have H := HC22.out
          clear HC22
          replace H := Option.bind_eq_some_iff.mp H
          obtain ⟨t195, A230, H⟩ := H
          replace H : (if t195 = true then ((ulplaw01_isNumber.f kj6 a1).bind fun t196 => (ulplaw01_BitsTotal.j1 kj6 a0 a1 t190 t196)) else (ulplaw01_BitsTotal.j1 kj6 a0 a1 t190 false)) = some r := H
          have A23 := Aside0.mk A230
          clear A230
          by_cases c24 : t195 = true
          · subst c24
            have H1 : ((ulplaw01_isNumber.f kj6 a1).bind fun t196 => (ulplaw01_BitsTotal.j1 kj6 a0 a1 t190 t196)) = some r := by rw [if_pos rfl] at H; exact H
            clear H
            have H := H1
            clear H1
            replace H := Option.bind_eq_some_iff.mp H
            obtain ⟨t196, A250, H⟩ := H
            replace H : (ulplaw01_BitsTotal.j1 kj6 a0 a1 t190 t196) = some r := H
            have A25 := Aside0.mk A250
            clear A250
            have H' := Aside0.mk H
            clear H
            go_wp2_with (first | ((with_reducible refine gate_callee (f := 13) rfl ?_); refine goesL_ (some 51) rfl rfl Try.func13 (by kernel_rfl) rfl #[.int .u64 a0] rfl (by (try simp only [List.map_toArray, List.map_cons, List.map_nil]); first | done | rfl | (simp only [List.length_drop, List.length_take]; rfl)) ?_; (with_reducible refine (ulplaw01_isNumber.calls kj6 a0 true _ A23.out).mono ?_); rintro e w26 ⟨rfl, hb⟩; refine ⟨_, rfl, ?_⟩; have n0_ := Aside0.mk (below_step (by repeat (first | (with_reducible first | exact HB.out | apply below_alloc | apply pw_below_drewN | apply below_drew1) | exact HB.out)) hb); clear HB; have HB := n0_; clear n0_; (try clear hb); (try clear hb2); (try clear hk); (try clear hi)) | (go_at_call 13; (with_reducible refine (ulplaw01_isNumber.calls kj6 a1 t196 _ A25.out).mono ?_); rintro e w27 ⟨rfl, hb⟩; have n0_ := Aside0.mk (below_step (by repeat (first | (with_reducible first | exact HB.out | apply below_alloc | apply pw_below_drewN | apply below_drew1) | exact HB.out)) hb); clear HB; have HB := n0_; clear n0_; (try clear hb); (try clear hb2); (try clear hk); (try clear hi)))
            go_meet
            case rel => exact ⟨_, (t196), (by first | rfl | (simp; done) | (simp [*]; done)), H', ⟨by have := HJ6.out; first | omega | exact Nat.le_refl _⟩, ⟨by repeat (first | (with_reducible first | exact HB.out | apply below_alloc | apply pw_below_drewN | apply below_drew1) | exact HB.out)⟩⟩
          · replace c24 := Bool.eq_false_iff.mpr c24
            subst c24
            have H1 : (ulplaw01_BitsTotal.j1 kj6 a0 a1 t190 false) = some r := by rw [if_neg (show ¬ (false = true) by decide)] at H; exact H
            clear H
            have H := H1
            clear H1
            have H' := Aside0.mk H
            clear H
            go_wp2_with (first | ((with_reducible refine gate_callee (f := 13) rfl ?_); refine goesL_ (some 51) rfl rfl Try.func13 (by kernel_rfl) rfl #[.int .u64 a0] rfl (by (try simp only [List.map_toArray, List.map_cons, List.map_nil]); first | done | rfl | (simp only [List.length_drop, List.length_take]; rfl)) ?_; (with_reducible refine (ulplaw01_isNumber.calls kj6 a0 false _ A23.out).mono ?_); rintro e w28 ⟨rfl, hb⟩; refine ⟨_, rfl, ?_⟩; have n0_ := Aside0.mk (below_step (by repeat (first | (with_reducible first | exact HB.out | apply below_alloc | apply pw_below_drewN | apply below_drew1) | exact HB.out)) hb); clear HB; have HB := n0_; clear n0_; (try clear hb); (try clear hb2); (try clear hk); (try clear hi)))
            go_meet
            case rel => exact ⟨_, (false), (by first | rfl | (simp; done) | (simp [*]; done)), H', ⟨by have := HJ6.out; first | omega | exact Nat.le_refl _⟩, ⟨by repeat (first | (with_reducible first | exact HB.out | apply below_alloc | apply pw_below_drewN | apply below_drew1) | exact HB.out)⟩⟩
        case rest =>
          clear HC22
          try clear c1
          try clear c2
          try clear p2
          try clear c5
          try clear p6
          try clear c9
          try clear c11
          try clear c11b0
          try clear c11b1
          try clear c12
          try clear c12b0
          try clear c12b1
          try clear c12b2
          try clear c13
          try clear c14
          try clear c14b0
          try clear c15
          try clear c15b0
          try clear c19
          try clear c21
          try clear c24
          try clear p2
          try clear p6
          obtain ⟨kq, x10_21, rfl, HA, HJ21, HB⟩ := hcut
          cases kq with
          | zero => exact absurd HA.out (by simp [ulplaw01_BitsTotal.j1])
          | succ kj21 =>
            have H := HA.out
            clear HA
            simp only [ulplaw01_BitsTotal.j1] at H
            by_cases c29 : x10_21 = true
            · subst c29
              have H1 : ((bits_Class.f kj21 a0).bind fun t197 => (if t197 = 1 then (some true) else ((bits_Class.f kj21 a1).bind fun t198 => (if t198 = 1 then (some true) else ((bits_Less.f a0 a1).bind fun t199 => (if (t199 != (decide (t190 < 0))) = true then (some false) else (some true))))))) = some r := by rw [if_pos rfl] at H; exact H
              clear H
              have H := H1
              clear H1
              replace H := Option.bind_eq_some_iff.mp H
              obtain ⟨t197, A300, H⟩ := H
              replace H : (if t197 = 1 then (some true) else ((bits_Class.f kj21 a1).bind fun t198 => (if t198 = 1 then (some true) else ((bits_Less.f a0 a1).bind fun t199 => (if (t199 != (decide (t190 < 0))) = true then (some false) else (some true)))))) = some r := H
              have A30 := Aside0.mk A300
              clear A300
              by_cases c31 : t197 = 1
              · rw [if_pos c31] at H
                have c31b0 : (t197 == 1) = true := beq_iff_eq.mpr c31
                have c31b1 : (t197 != 1) = false := bne_eq_false_iff_eq.mpr c31
                clear c31
                obtain rfl := Option.some.inj H
                go_wp2_with (first | (go_at_call 25; (with_reducible refine (bits_Class.calls kj21 a0 t197 _ A30.out).mono ?_); rintro e w32 ⟨rfl, hb⟩; have n0_ := Aside0.mk (below_step (by repeat (first | (with_reducible first | exact HB.out | apply below_alloc | apply pw_below_drewN | apply below_drew1) | exact HB.out)) hb); clear HB; have HB := n0_; clear n0_; (try clear hb); (try clear hb2); (try clear hk); (try clear hi)))
                go_ret
                exact ⟨by first | rfl | (simp [errW_none, errW_some] <;> rfl) | (simp [*, errW_none, errW_some] <;> rfl), by repeat (first | (with_reducible first | exact HB.out | apply below_alloc | apply pw_below_drewN | apply below_drew1) | exact HB.out)⟩
              · rw [if_neg c31] at H
                have c31b0 : (t197 == 1) = false := beq_eq_false_iff_ne.mpr c31
                have c31b1 : (t197 != 1) = true := bne_iff_ne.mpr c31
                replace H := Option.bind_eq_some_iff.mp H
                obtain ⟨t198, A330, H⟩ := H
                replace H : (if t198 = 1 then (some true) else ((bits_Less.f a0 a1).bind fun t199 => (if (t199 != (decide (t190 < 0))) = true then (some false) else (some true)))) = some r := H
                have A33 := Aside0.mk A330
                clear A330
                by_cases c34 : t198 = 1
                · rw [if_pos c34] at H
                  have c34b0 : (t198 == 1) = true := beq_iff_eq.mpr c34
                  have c34b1 : (t198 != 1) = false := bne_eq_false_iff_eq.mpr c34
                  clear c34
                  obtain rfl := Option.some.inj H
                  go_wp2_with (first | (go_at_call 25; (with_reducible refine (bits_Class.calls kj21 a0 t197 _ A30.out).mono ?_); rintro e w35 ⟨rfl, hb⟩; have n0_ := Aside0.mk (below_step (by repeat (first | (with_reducible first | exact HB.out | apply below_alloc | apply pw_below_drewN | apply below_drew1) | exact HB.out)) hb); clear HB; have HB := n0_; clear n0_; (try clear hb); (try clear hb2); (try clear hk); (try clear hi)) | (go_at_call 25; (with_reducible refine (bits_Class.calls kj21 a1 t198 _ A33.out).mono ?_); rintro e w36 ⟨rfl, hb⟩; have n0_ := Aside0.mk (below_step (by repeat (first | (with_reducible first | exact HB.out | apply below_alloc | apply pw_below_drewN | apply below_drew1) | exact HB.out)) hb); clear HB; have HB := n0_; clear n0_; (try clear hb); (try clear hb2); (try clear hk); (try clear hi)))
                  go_ret
                  exact ⟨by first | rfl | (simp [errW_none, errW_some] <;> rfl) | (simp [*, errW_none, errW_some] <;> rfl), by repeat (first | (with_reducible first | exact HB.out | apply below_alloc | apply pw_below_drewN | apply below_drew1) | exact HB.out)⟩
                · rw [if_neg c34] at H
                  have c34b0 : (t198 == 1) = false := beq_eq_false_iff_ne.mpr c34
                  have c34b1 : (t198 != 1) = true := bne_iff_ne.mpr c34
                  replace H := Option.bind_eq_some_iff.mp H
                  obtain ⟨t199, A370, H⟩ := H
                  replace H : (if (t199 != (decide (t190 < 0))) = true then (some false) else (some true)) = some r := H
                  have A37 := Aside0.mk A370
                  clear A370
                  by_cases c38 : (t199 != (decide (t190 < 0))) = true
                  · rw [if_pos c38] at H
                    have c38b0 : (t199 != (decide (t190 < 0))) = true := c38
                    (try (have c38b1 : decide (t199 = (decide (t190 < 0))) = false := by simpa using c38))
                    (try (have c38b2 : (t199 == (decide (t190 < 0))) = false := by simpa using c38))
                    (try (have c38b3 : ¬ (t199 = (decide (t190 < 0))) := by simpa using c38))
                    clear c38
                    obtain rfl := Option.some.inj H
                    go_wp2_with (first | (go_at_call 25; (with_reducible refine (bits_Class.calls kj21 a0 t197 _ A30.out).mono ?_); rintro e w39 ⟨rfl, hb⟩; have n0_ := Aside0.mk (below_step (by repeat (first | (with_reducible first | exact HB.out | apply below_alloc | apply pw_below_drewN | apply below_drew1) | exact HB.out)) hb); clear HB; have HB := n0_; clear n0_; (try clear hb); (try clear hb2); (try clear hk); (try clear hi)) | (go_at_call 25; (with_reducible refine (bits_Class.calls kj21 a1 t198 _ A33.out).mono ?_); rintro e w40 ⟨rfl, hb⟩; have n0_ := Aside0.mk (below_step (by repeat (first | (with_reducible first | exact HB.out | apply below_alloc | apply pw_below_drewN | apply below_drew1) | exact HB.out)) hb); clear HB; have HB := n0_; clear n0_; (try clear hb); (try clear hb2); (try clear hk); (try clear hi)) | (go_at_call 17; (with_reducible refine (bits_Less.calls a0 a1 t199 _ A37.out).mono ?_); rintro e w' ⟨rfl, ⟨nd, rfl⟩⟩))
                    go_ret
                    exact ⟨by first | rfl | (simp [errW_none, errW_some] <;> rfl) | (simp [*, errW_none, errW_some] <;> rfl), by repeat (first | (with_reducible first | exact HB.out | apply below_alloc | apply pw_below_drewN | apply below_drew1) | exact HB.out)⟩
                  · rw [if_neg c38] at H
                    have c38b0 : (t199 != (decide (t190 < 0))) = false := by simpa using c38
                    (try (have c38b1 : decide (t199 = (decide (t190 < 0))) = true := by simpa using c38))
                    (try (have c38b2 : (t199 == (decide (t190 < 0))) = true := by simpa using c38))
                    clear c38
                    obtain rfl := Option.some.inj H
                    go_wp2_with (first | (go_at_call 25; (with_reducible refine (bits_Class.calls kj21 a0 t197 _ A30.out).mono ?_); rintro e w41 ⟨rfl, hb⟩; have n0_ := Aside0.mk (below_step (by repeat (first | (with_reducible first | exact HB.out | apply below_alloc | apply pw_below_drewN | apply below_drew1) | exact HB.out)) hb); clear HB; have HB := n0_; clear n0_; (try clear hb); (try clear hb2); (try clear hk); (try clear hi)) | (go_at_call 25; (with_reducible refine (bits_Class.calls kj21 a1 t198 _ A33.out).mono ?_); rintro e w42 ⟨rfl, hb⟩; have n0_ := Aside0.mk (below_step (by repeat (first | (with_reducible first | exact HB.out | apply below_alloc | apply pw_below_drewN | apply below_drew1) | exact HB.out)) hb); clear HB; have HB := n0_; clear n0_; (try clear hb); (try clear hb2); (try clear hk); (try clear hi)) | (go_at_call 17; (with_reducible refine (bits_Less.calls a0 a1 t199 _ A37.out).mono ?_); rintro e w' ⟨rfl, ⟨nd, rfl⟩⟩))
                    go_ret
                    exact ⟨by first | rfl | (simp [errW_none, errW_some] <;> rfl) | (simp [*, errW_none, errW_some] <;> rfl), by repeat (first | (with_reducible first | exact HB.out | apply below_alloc | apply pw_below_drewN | apply below_drew1) | exact HB.out)⟩
            · replace c29 := Bool.eq_false_iff.mpr c29
              subst c29
              have H1 : ((bits_Less.f a0 a1).bind fun t200 => (some (!t200))) = some r := by rw [if_neg (show ¬ (false = true) by decide)] at H; exact H
              clear H
              have H := H1
              clear H1
              replace H := Option.bind_eq_some_iff.mp H
              obtain ⟨t200, A430, H⟩ := H
              replace H : (some (!t200)) = some r := H
              have A43 := Aside0.mk A430
              clear A430
              obtain rfl := Option.some.inj H
              go_wp2_with (first | (go_at_call 17; (with_reducible refine (bits_Less.calls a0 a1 t200 _ A43.out).mono ?_); rintro e w' ⟨rfl, ⟨nd, rfl⟩⟩))
              go_ret
              exact ⟨by first | rfl | (simp [errW_none, errW_some] <;> rfl) | (simp [*, errW_none, errW_some] <;> rfl), by repeat (first | (with_reducible first | exact HB.out | apply below_alloc | apply pw_below_drewN | apply below_drew1) | exact HB.out)⟩

/-- THE ONE PURE STATEMENT of ulplaw01_BitsTotal: yours. -/
def ulplaw01_BitsTotal.Pure : Prop := ∀ (a0 : Int) (a1 : Int) (a2 : Int), (Lit.int .u64 a0).wf = true → (Lit.int .u64 a1).wf = true → (Lit.int .u64 a2).wf = true → ∃ k, ulplaw01_BitsTotal.f k a0 a1 a2 = some true
theorem ulplaw01_BitsTotal.walk (P : ulplaw01_BitsTotal.Pure) (a0 : Int) (a1 : Int) (a2 : Int) (w : World) (w0 : (Lit.int .u64 a0).wf = true) (w1 : (Lit.int .u64 a1).wf = true) (w2 : (Lit.int .u64 a2).wf = true) :
    Calls Try.prog 5 #[.int .u64 a0, .int .u64 a1, .int .u64 a2] w fun e w' => e = .returned (.bool true) ∧ Below w.heap.size w w' := by
  obtain ⟨k, h⟩ := P a0 a1 a2 w0 w1 w2
  refine (ulplaw01_BitsTotal.calls k a0 a1 a2 true w h).mono ?_
  rintro e w' ⟨rfl, hd⟩
  exact ⟨rfl, hd⟩

/-! ### bits_Neg: function 26 -/
def bits_Neg.f (a0 : Int) : Option (Int) := some (Go.bits .xor .u64 a0 9223372036854775808)
set_option maxHeartbeats 8000000 in
set_option maxRecDepth 100000 in
theorem bits_Neg.calls (a0 : Int) (r : Int) (w : World) (h : bits_Neg.f a0 = some r) :
    Calls Try.prog 26 #[.int .u64 a0] w fun e w' => e = .returned (.int .u64 r) ∧ Drawn0 w w' := by
  have H : (some (Go.bits .xor .u64 a0 9223372036854775808)) = some r := h
  clear h
  obtain rfl := Option.some.inj H
  go_enter Try.func26, Try.ntmps26
  go_wp2
  go_ret
  exact ⟨by first | rfl | (simp; done) | (simp [*]; done), by repeat (first | exact Drawn0.refl _ | apply Drawn0.step)⟩

end Go.Proofs.Ytcigeggdapjijaa.PAll
