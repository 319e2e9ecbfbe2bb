/- Printed functions, merged by a program of this session. -/
import Derived.Test.YtnjfckadjklmfaaDoorXRoundPointsP0
import Derived.Test.YtnjfckadjklmfaaDoorXRoundPointsP7
import Derived.Test.YtnjfckadjklmfaaDoorXRoundPointsP1
import Derived.Test.YtnjfckadjklmfaaDoorXRoundPointsSh
namespace Go.Proofs.YtnjfckadjklmfaaDoor.PAll
open Go.RowKit Go.Proofs.YtnjfckadjklmfaaDoorW.PrintWords Go.Proofs.YtnjfckadjklmfaaDoorW.PrintLast Go.Proofs.YtnjfckadjklmfaaDoorW.PrintMore Go.Proofs.YtnjfckadjklmfaaDoorW.PrintWords.Kd
attribute [local go_sem] max2_int min2_int max_two min_two max_three min_three max_four min_four   -- for this text's walks alone
set_option linter.unusedVariables false
set_option linter.unusedSimpArgs false
attribute [local go_sem] fld75_0 fld75_1 fld75_2 ext118 ext119
def raw_Form.f (k : Nat) (a0 : Bool) (l1 : List Int) (a2 : Int) : Option (Bool × List Int × Int) := (limbs_Trim.f k l1).bind fun a1 => (if (a1.length : Int) = 0 then (some (false, ([] : List Int), 0)) else ((limbs_Low.f k a1).bind fun a3 => ((limbs_Shr.f k a1 a3).bind fun a4 => (some (a0, a4.1, wrap64 (a2 + a3))))))
theorem raw_Form.mono : ∀ a0 a1 a2 k, LeO (raw_Form.f k a0 a1 a2) (raw_Form.f (k + 1) a0 a1 a2) := by
 intro a0 a1 a2 k
 unfold raw_Form.f
 repeat' first
   | (with_reducible exact limbs_Low.mono _ _)
   | (with_reducible exact limbs_Shr.mono _ _ _)
   | (with_reducible exact limbs_Trim.mono _ _)
   | (with_reducible exact LeO.refl _)
   | (with_reducible exact LeO.none _)
   | (with_reducible refine LeO.ite ?_ ?_)
   | (with_reducible refine LeO.bind ?_ (fun _ => ?_))
   | exact limbs_Low.mono _ _
   | exact limbs_Shr.mono _ _ _
   | exact limbs_Trim.mono _ _
   | exact LeO.none _
   | refine LeO.ite ?_ ?_
   | refine LeO.bind ?_ (fun _ => ?_)
set_option maxHeartbeats 8000000 in
set_option maxRecDepth 100000 in
theorem raw_Form.calls (k : Nat) (a0 : Bool) (P1_ : Nat → Prop) (A1 : Option Addr) (c1 : Nat) (l1 : List Int) (a2 : Int) (r1 : Bool) (r2 : List Int) (r3 : Int) (w : World) (hs1 : Kd.V (Kd.int .u64) 26 w w.heap.size (fun k_ => P1_ k_) (.slice A1 l1.length c1) l1) (hT : Laid w) (h : raw_Form.f k a0 l1 a2 = some (r1, r2, r3)) :
  Calls Tryd.prog 46 #[.bool a0, .slice A1 l1.length c1, .int .i64 a2] w fun e w' => ∃ v1_ : Value, e = .returned (.agg #[.bool r1, v1_, .int .i64 r3]) ∧ Kd.V (Kd.int .u64) 26 w' w.heap.size (fun k_ => (P1_ k_ ∨ w.heap.size ≤ k_)) v1_ r2 ∧ Below w.heap.size w w' := by
 have hu25 := Tryd.underlying25;have a6 := zA (show Kd.V (Kd.int .u64) 26 w w.heap.size (fun k_ => (P1_ k_ ∨ w.heap.size ≤ k_)) (.slice A1 l1.length c1) l1 from V_mono hs1 (fun k_ hk => .inl hk));have HB := zA (Below.refl w.heap.size w);have H : ((limbs_Trim.f k l1).bind fun a4 => (if (a4.length : Int) = 0 then (some (false, ([] : List Int), 0)) else ((limbs_Low.f k a4).bind fun a8 => ((limbs_Shr.f k a4 a8).bind fun ag => (some (a0, ag.1, wrap64 (a2 + a8))))))) = some (r1, r2, r3) := h;clear h;obtain ⟨a4, A4, H⟩ := zh H
 by_cases c5 : (a4.length : Int) = 0
 ·rw [if_pos c5] at H;have aj := beq_iff_eq.mpr c5;have ak := bne_eq_false_iff_eq.mpr c5;clear c5;simp only [Option.some.injEq, Prod.mk.injEq] at H;obtain ⟨rfl, rfl, rfl⟩ := H;go_enter Tryd.func46, Tryd.ntmps46
  go_wp2_with (first | ((with_reducible refine zD 6 rfl ?_); refine zn (N := 6) (cs := #[.bool false, .slice none 0 0, .int .i64 0]) (t := 25) rfl rfl ?_; intro a1 hg w6 hbox hb; replace a6 := zA (V_below (V_elderB (vu a6.out) a1 (Nat.le_of_eq hg.symm)) hb); have a3 := zA (hbox); have ah := zw hg; replace HB := ze hb; clear hb hbox hg) | ((with_reducible refine zG 84 rfl ?_); refine zL (some 11) rfl rfl Tryd.func84 #[.slice A1 l1.length c1] rfl ?_; (with_reducible refine (limbs_Trim.calls k (fun k_ => ((P1_ k_ ∨ w.heap.size ≤ k_) ∧ k_ ≠ a1)) _ _ l1 a4 _ ?a7 A4.out).mono ?_); (case a7 => exact a6.out); rintro e w7 ⟨v436, rfl, a9, hb⟩; refine ⟨_, rfl, ?_⟩; replace a6 := zA (V_below (vu a6.out) hb); have a5 := zA (V_lower (V_mono (ok' := fun k_ => (P1_ k_ ∨ w.heap.size ≤ k_) ∧ k_ ≠ a1) a9 (fun k_ hk_ => ⟨Or.elim hk_ (fun hs_ => hs_.1) (fun hn_ => (.inr (Nat.le_trans (below_size zs) hn_))), Or.elim hk_ (fun hs_ => hs_.2) (fun hn_ => (zj a3 k_ hn_))⟩)) (below_size zs)); replace a3 := zb a3 hb; replace HB := zf hb; (try clear a9); obtain ⟨aH, aI, aw⟩ := V_slice a5.out; subst aw; obtain ⟨ax, ay, aA, aB, aC, aD⟩ := zc a3))
  refine bodyPost_ret (results_cell_row rfl _ _ a1 25 #[.bool false, .slice none 0 0, .int .i64 0] (0, 0) _ rfl (zy a3) Tryd.underlying25 rfl (by kernel_rfl)) rfl ?_;exact ⟨_, er, V_nil _ _ _ _ _, zs⟩
 rw [if_neg c5] at H;have aj := beq_eq_false_iff_ne.mpr c5;have ak := bne_iff_ne.mpr c5
 have aG : ¬ (a4 = []) := fun h_ => c5 (by rw [h_]; rfl)
 obtain ⟨a8, aE, H⟩ := zh H;obtain ⟨⟨aa, al⟩, aF, H⟩ := zh H;(try dsimp only at H);simp only [Option.some.injEq, Prod.mk.injEq] at H;obtain ⟨rfl, rfl, rfl⟩ := H;go_enter Tryd.func46, Tryd.ntmps46
 go_wp2_with (first | ((with_reducible refine zD 6 rfl ?_); refine zn (N := 6) (cs := #[.bool false, .slice none 0 0, .int .i64 0]) (t := 25) rfl rfl ?_; intro a1 hg w12 hbox hb; replace a6 := zA (V_below (V_elderB (vu a6.out) a1 (Nat.le_of_eq hg.symm)) hb); have a3 := zA (hbox); have ah := zw hg; replace HB := ze hb; clear hb hbox hg) | ((with_reducible refine zG 84 rfl ?_); refine zL (some 11) rfl rfl Tryd.func84 #[.slice A1 l1.length c1] rfl ?_; (with_reducible refine (limbs_Trim.calls k (fun k_ => ((P1_ k_ ∨ w.heap.size ≤ k_) ∧ k_ ≠ a1)) _ _ l1 a4 _ ?a7 A4.out).mono ?_); (case a7 => exact a6.out); rintro e w13 ⟨v436, rfl, a9, hb⟩; refine ⟨_, rfl, ?_⟩; replace a6 := zA (V_below (vu a6.out) hb); have a5 := zA (V_lower (V_mono (ok' := fun k_ => (P1_ k_ ∨ w.heap.size ≤ k_) ∧ k_ ≠ a1) a9 (fun k_ hk_ => ⟨Or.elim hk_ (fun hs_ => hs_.1) (fun hn_ => (.inr (Nat.le_trans (below_size zs) hn_))), Or.elim hk_ (fun hs_ => hs_.2) (fun hn_ => (zj a3 k_ hn_))⟩)) (below_size zs)); replace a3 := zb a3 hb; replace HB := zf hb; (try clear a9); obtain ⟨ab, ac, am⟩ := V_slice a5.out; subst am) | ((with_reducible refine zG 85 rfl ?_); refine zL (some 17) rfl rfl Tryd.func85 #[.slice ab a4.length ac] rfl ?_; (with_reducible refine (limbs_Low.calls k _ _ a4 a8 _ ?a7 ?ai (laid_below hT zs) aE.out).mono ?_); (case a7 => exact zk (V_reads' a5.out).2.2); (case ai => exact (V_reads' a5.out).2.1); rintro e w' ⟨rfl, ⟨nd, rfl⟩⟩; refine ⟨_, rfl, ?_⟩; (try (rw [drewN_self w13]; generalize hq_ : World.drewN w13 _ = w13; have n0_ : Aside0 (Kd.V (Kd.int .u64) 26 w13 w.heap.size (fun k_ => (P1_ k_ ∨ w.heap.size ≤ k_) ∧ k_ ≠ a1) (.slice A1 l1.length c1) l1) := ⟨by rw [← hq_]; exact (vu a6.out)⟩; have n1_ : Aside0 (Kd.V (Kd.int .u64) 26 w13 w.heap.size (fun k_ => (P1_ k_ ∨ w.heap.size ≤ k_) ∧ k_ ≠ a1) (.slice ab a4.length ac) a4) := ⟨by rw [← hq_]; exact (vu a5.out)⟩; have n2_ : Aside0 (w13.heap[a1]? = some (.cells #[.bool false, .slice none 0 0, .int .i64 0] 25 (0, 0))) := ⟨by rw [← hq_]; exact (zu a3)⟩; have n3_ : Aside0 (Below w.heap.size w w13) := ⟨by rw [← hq_]; exact zs⟩; clear a6 a5 a3 HB hq_; have a6 := n0_; have a5 := n1_; have a3 := n2_; have HB := n3_; clear n0_ n1_ n2_ n3_))) | ((with_reducible refine zG 86 rfl ?_); refine zL (some 21) rfl rfl Tryd.func86 #[.slice ab a4.length ac, .int .i64 a8] rfl ?_; (with_reducible refine (limbs_Shr.calls k (fun k_ => ((P1_ k_ ∨ w.heap.size ≤ k_) ∧ k_ ≠ a1)) _ _ a4 a8 aa al _ ?a7 (laid_below hT zs) aF.out).mono ?_); (case a7 => exact a5.out); rintro e w15 ⟨v440, rfl, a9, hb⟩; refine ⟨_, rfl, ?_⟩; replace a6 := zA (V_below (vu a6.out) hb); replace a5 := zA (V_below (vu a5.out) hb); have ad := zA (V_lower (V_mono (ok' := fun k_ => (P1_ k_ ∨ w.heap.size ≤ k_) ∧ k_ ≠ a1) a9 (fun k_ hk_ => ⟨Or.elim hk_ (fun hs_ => hs_.1) (fun hn_ => (.inr (Nat.le_trans (below_size zs) hn_))), Or.elim hk_ (fun hs_ => hs_.2) (fun hn_ => (zj a3 k_ hn_))⟩)) (below_size zs)); replace a3 := zb a3 hb; replace HB := zf hb; (try clear a9); obtain ⟨ae, af, an⟩ := V_slice ad.out; subst an; obtain ⟨ao, ap, aq, ar, au, av⟩ := zc a3))
 refine bodyPost_ret (results_cell_row rfl _ _ a1 25 #[.bool a0, .slice ae aa.length af, .int .i64 (wrap64 (a2 + a8))] (0, 0) _ rfl (zy a3) Tryd.underlying25 rfl (by kernel_rfl)) rfl ?_;exact ⟨_, er, vu (V_mono (V_far (p := ⟨a1, 2, none⟩) (V_far (p := ⟨a1, 1, none⟩) (V_far (p := ⟨a1, 0, none⟩) (V_mono ad.out (fun k_ hk => (⟨hk, hk.2⟩ : _ ∧ k_ ≠ a1))) (fun _ hk => hk.2) (.bool a0)) (fun _ hk => hk.2) (.slice ae aa.length af)) (fun _ hk => hk.2) (.int .i64 (wrap64 (a2 + a8)))) (fun _ hk => hk.1.1)), zs⟩
def raw_One.f (k : Nat) (a2 : Bool) (a3 : List Int) (a4 : Int) : Option (Bool × List Int × Int) := (raw_Form.f k a2 a3 a4).bind fun a1 => (some (a1.1, a1.2.1, a1.2.2))
theorem raw_One.mono : ∀ a0 a1 a2 k, LeO (raw_One.f k a0 a1 a2) (raw_One.f (k + 1) a0 a1 a2) := by
 intro a0 a1 a2 k
 unfold raw_One.f
 repeat' first
   | (with_reducible exact raw_Form.mono _ _ _ _)
   | (with_reducible exact LeO.refl _)
   | (with_reducible exact LeO.none _)
   | (with_reducible refine LeO.ite ?_ ?_)
   | (with_reducible refine LeO.bind ?_ (fun _ => ?_))
   | exact raw_Form.mono _ _ _ _
   | exact LeO.none _
   | refine LeO.ite ?_ ?_
   | refine LeO.bind ?_ (fun _ => ?_)
set_option maxHeartbeats 8000000 in
set_option maxRecDepth 100000 in
theorem raw_One.calls (k : Nat) (a6 : Bool) (P0_1_ : Nat → Prop) (a8 : Option Addr) (a9 : Nat) (a2 : List Int) (a7 : Int) (r1 : Bool) (r2 : List Int) (r3 : Int) (w : World) (hs0_1 : Kd.V (Kd.int .u64) 26 w w.heap.size (fun k_ => P0_1_ k_) (.slice a8 a2.length a9) a2) (hT : Laid w) (h : raw_One.f k a6 a2 a7 = some (r1, r2, r3)) :
  Calls Tryd.prog 54 #[.agg #[.bool a6, .slice a8 a2.length a9, .int .i64 a7]] w fun e w' => ∃ v1_ : Value, e = .returned (.agg #[.bool r1, v1_, .int .i64 r3]) ∧ Kd.V (Kd.int .u64) 26 w' w.heap.size (fun k_ => (P0_1_ k_ ∨ w.heap.size ≤ k_)) v1_ r2 ∧ Below w.heap.size w w' := by
 have hu25 := Tryd.underlying25;have a3 := zA (show Kd.V (Kd.int .u64) 26 w w.heap.size (fun k_ => (P0_1_ k_ ∨ w.heap.size ≤ k_)) (.slice a8 a2.length a9) a2 from V_mono hs0_1 (fun k_ hk => .inl hk));have HB := zA (Below.refl w.heap.size w);have H : ((raw_Form.f k a6 a2 a7).bind fun aa => (some (aa.1, aa.2.1, aa.2.2))) = some (r1, r2, r3) := h;clear h;obtain ⟨⟨af, ag, ah⟩, A2, H⟩ := zh H;(try dsimp only at H);simp only [Option.some.injEq, Prod.mk.injEq] at H;obtain ⟨rfl, rfl, rfl⟩ := H;go_enter Tryd.func54, Tryd.ntmps54
 go_wp2_with (first | ((with_reducible refine zD 1 rfl ?_); refine zn (N := 1) (cs := #[.bool a6, .slice a8 a2.length a9, .int .i64 a7]) (t := 25) rfl rfl ?_; intro ab hg w3 hbox hb; replace a3 := zA (V_below (V_elderB (vu a3.out) ab (Nat.le_of_eq hg.symm)) hb); have a1 := zA (hbox); have av := zw hg; replace HB := ze hb; clear hb hbox hg) | ((with_reducible refine zD 2 rfl ?_); refine zn (N := 2) (cs := #[.bool false, .slice none 0 0, .int .i64 0]) (t := 25) rfl rfl ?_; intro a4 hg w4 hbox hb; replace a3 := zA (V_below (V_elderB (vu a3.out) a4 (Nat.le_of_eq hg.symm)) hb); have a5 := zA (hbox); have aw := zx hg; replace HB := zf hb; have ac := zl a1 hg; have ad := zg a1 hg; replace a1 := zb a1 hb; clear hb hbox hg; have ax := ac.out; have ay := ad.out; obtain ⟨_, _, _, _, _, _⟩ := zc a1) | ((with_reducible refine zG 46 rfl ?_); refine zL (some 9) rfl rfl Tryd.func46 #[.bool a6, .slice a8 a2.length a9, .int .i64 a7] rfl ?_; (with_reducible refine (raw_Form.calls k a6 (fun k_ => (((P0_1_ k_ ∨ w.heap.size ≤ k_) ∧ k_ ≠ ab) ∧ k_ ≠ a4)) _ _ a2 a7 af ag ah _ ?ai (laid_below hT zs) A2.out).mono ?_); (case ai => exact a3.out); rintro e w7 ⟨v447, rfl, aj, hb⟩; refine ⟨_, rfl, ?_⟩; replace a3 := zA (V_below (vu a3.out) hb); have ae := zA (V_lower (V_mono (ok' := fun k_ => (P0_1_ k_ ∨ w.heap.size ≤ k_) ∧ k_ ≠ ab ∧ k_ ≠ a4) aj (fun k_ hk_ => ⟨Or.elim hk_ (fun hs_ => hs_.1.1) (fun hn_ => (.inr (Nat.le_trans (below_size zs) hn_))), Or.elim hk_ (fun hs_ => hs_.1.2) (fun hn_ => (zj a1 k_ hn_)), Or.elim hk_ (fun hs_ => hs_.2) (fun hn_ => (zj a5 k_ hn_))⟩)) (below_size zs)); replace a1 := zb a1 hb; replace a5 := zb a5 hb; replace HB := zf hb; (try clear aj); obtain ⟨ak, al, am, an, ao, ap⟩ := zc a5; obtain ⟨aq, ar, au⟩ := V_slice ae.out; subst au))
 refine bodyPost_ret (results_cell_row rfl _ _ a4 25 #[.bool af, .slice aq ag.length ar, .int .i64 ah] (0, 0) _ rfl (zy a5) Tryd.underlying25 rfl (by kernel_rfl)) rfl ?_;exact ⟨_, er, vu (V_mono (zv a4 (V_mono ae.out (fun k_ hk => (⟨hk, hk.2.2⟩ : _ ∧ k_ ≠ a4))) (fun _ hk => hk.2) _ _ _) (fun _ hk => hk.1.1)), zs⟩
def limbs_Len.f (k : Nat) (l0 : List Int) : Option (Int) := (limbs_Trim.f k l0).bind fun a1 => (if (a1.length : Int) = 0 then (some 0) else (if 0 ≤ (wrap64 ((a1.length : Int) - 1)) then (if (wrap64 ((a1.length : Int) - 1)) < (a1.length : Int) then ((bits_Len64.f k (rd a1 (wrap64 ((a1.length : Int) - 1)))).bind fun a2 => (some (wrap64 ((wrap64 (64 * (wrap64 ((a1.length : Int) - 1)))) + a2)))) else (none)) else (none)))
theorem limbs_Len.mono : ∀ a0 k, LeO (limbs_Len.f k a0) (limbs_Len.f (k + 1) a0) := by
 intro a0 k
 unfold limbs_Len.f
 repeat' first
   | (with_reducible exact bits_Len64.mono _ _)
   | (with_reducible exact limbs_Trim.mono _ _)
   | (with_reducible exact LeO.refl _)
   | (with_reducible exact LeO.none _)
   | (with_reducible refine LeO.ite ?_ ?_)
   | (with_reducible refine LeO.bind ?_ (fun _ => ?_))
   | exact bits_Len64.mono _ _
   | exact limbs_Trim.mono _ _
   | exact LeO.none _
   | refine LeO.ite ?_ ?_
   | refine LeO.bind ?_ (fun _ => ?_)
set_option maxHeartbeats 8000000 in
set_option maxRecDepth 100000 in
theorem limbs_Len.calls (k : Nat) (A0 : Option Addr) (c0 : Nat) (l0 : List Int) (r : Int) (w : World) (hr0 : Kd.C (Kd.int .u64) w A0 l0.length l0) (hc0 : l0.length ≤ c0) (h : limbs_Len.f k l0 = some r) :
  Calls Tryd.prog 57 #[.slice A0 l0.length c0] w fun e w' => e = .returned (.int .i64 r) ∧ Below w.heap.size w w' := by
 have a8 := zA hr0;have a9 := zA hc0;clear hr0 hc0;have HB := zA (Below.refl w.heap.size w);have H : ((limbs_Trim.f k l0).bind fun a1 => (if (a1.length : Int) = 0 then (some 0) else (if 0 ≤ (wrap64 ((a1.length : Int) - 1)) then (if (wrap64 ((a1.length : Int) - 1)) < (a1.length : Int) then ((bits_Len64.f k (rd a1 (wrap64 ((a1.length : Int) - 1)))).bind fun a4 => (some (wrap64 ((wrap64 (64 * (wrap64 ((a1.length : Int) - 1)))) + a4)))) else (none)) else (none)))) = some r := h;clear h;obtain ⟨a1, A2, H⟩ := zh H
 by_cases c3 : (a1.length : Int) = 0
 ·rw [if_pos c3] at H;have aa := beq_iff_eq.mpr c3;have ab := bne_eq_false_iff_eq.mpr c3;clear c3;obtain rfl := Option.some.inj H;go_enter Tryd.func57, Tryd.ntmps57
  go_wp2_with (first | ((with_reducible refine zG 84 rfl ?_); refine zL (some 4) rfl rfl Tryd.func84 #[.slice A0 l0.length c0] rfl ?_; (with_reducible refine (limbs_Trim.calls k (fun k_ => k_ < w.heap.size) _ _ l0 a1 _ ?a6 A2.out).mono ?_); (case a6 => exact V_mk a9.out (Kd.F_below (C_F (Kd.heap_int .u64) a8.out) bq)); rintro e w4 ⟨v451, rfl, a7, hb⟩; refine ⟨_, rfl, ?_⟩; have a3 := zA (V_lower (V_mono (ok' := fun k_ => True) a7 (fun k_ hk_ => trivial)) (below_size bq)); replace HB := ze hb; (try clear a7); obtain ⟨ak, al, ae⟩ := V_slice a3.out; subst ae))
  go_ret;exact ⟨er, bq⟩
 rw [if_neg c3] at H;have aa := beq_eq_false_iff_ne.mpr c3;have ab := bne_iff_ne.mpr c3
 have af : ¬ (a1 = []) := fun h_ => c3 (by rw [h_]; rfl)
 obtain ⟨a2, a5⟩ : ∃ j_ : Int, (wrap64 ((a1.length : Int) - 1)) = j_ := ⟨_, rfl⟩;replace H : (if 0 ≤ (a2) then (if (a2) < (a1.length : Int) then ((bits_Len64.f k (rd a1 (a2))).bind fun a4 => (some (wrap64 ((wrap64 (64 * (a2))) + a4)))) else (none)) else (none)) = some r := zQ a5 H;(try rw [a5] at A2);have hji6w : (IntKind.i64.wrap ((a1.length : Int) - 1)) = a2 := (i64_w _).trans a5;replace H := dn H;obtain ⟨c7, H⟩ := H;have ag := decide_eq_true c7;clear c7;replace H := dn H;obtain ⟨c8, H⟩ := H;have ah := decide_eq_true c8;clear c8;obtain ⟨a4, A9, H⟩ := zh H;obtain rfl := Option.some.inj H;go_enter Tryd.func57, Tryd.ntmps57
 go_wp2_with (first | ((with_reducible refine zG 84 rfl ?_); refine zL (some 4) rfl rfl Tryd.func84 #[.slice A0 l0.length c0] rfl ?_; (with_reducible refine (limbs_Trim.calls k (fun k_ => k_ < w.heap.size) _ _ l0 a1 _ ?a6 A2.out).mono ?_); (case a6 => exact V_mk a9.out (Kd.F_below (C_F (Kd.heap_int .u64) a8.out) bq)); rintro e w10 ⟨v451, rfl, a7, hb⟩; refine ⟨_, rfl, ?_⟩; have a3 := zA (V_lower (V_mono (ok' := fun k_ => True) a7 (fun k_ hk_ => trivial)) (below_size bq)); replace HB := ze hb; (try clear a7); obtain ⟨ai, aj, ac⟩ := V_slice a3.out; subst ac; have p453 : 0 ≤ ((a2) : Int) := od; have q453 : (a2) < (a1.length : Int) := od; obtain ⟨ad453, e453, ad⟩ := Kd.at_int (V_reads' a3.out).2.2 (a2) p453 q453; cases e453; replace p453 := eq_true p453; replace q453 := eq_true q453) | ((with_reducible refine zG 88 rfl ?_); refine goesL_ (some 18) rfl rfl Tryd.func88 (by kernel_rfl) rfl #[.int .u64 (rd a1 (a2))] rfl (by (try simp only [List.map_toArray, List.map_cons, List.map_nil]); first | done | (simp only [a5]; rfl) | rfl | (simp only [List.length_drop, List.length_take]; rfl)) ?_; (with_reducible refine (bits_Len64.calls k (rd a1 (a2)) a4 _ A9.out).mono ?_); rintro e w' ⟨rfl, ⟨nd, rfl⟩⟩; refine ⟨_, rfl, ?_⟩))
 go_ret;exact ⟨by first | rfl | (simp [errW_none, errW_some] <;> rfl) | (simp only [← a5]; first | rfl | (simp [errW_none, errW_some] <;> rfl)) | (simp [*, errW_none, errW_some] <;> rfl), bq⟩
def raw_Top.f (k : Nat) (a4 : Bool) (a1 : List Int) (a2 : Int) : Option (Int) := (limbs_Len.f k a1).bind fun a3 => (some (wrap64 ((wrap64 (a2 + a3)) - 1)))
theorem raw_Top.mono : ∀ a0 a1 a2 k, LeO (raw_Top.f k a0 a1 a2) (raw_Top.f (k + 1) a0 a1 a2) := by
 intro a0 a1 a2 k
 unfold raw_Top.f
 repeat' first
   | (with_reducible exact limbs_Len.mono _ _)
   | (with_reducible exact LeO.refl _)
   | (with_reducible exact LeO.none _)
   | (with_reducible refine LeO.ite ?_ ?_)
   | (with_reducible refine LeO.bind ?_ (fun _ => ?_))
   | exact limbs_Len.mono _ _
   | exact LeO.none _
   | refine LeO.ite ?_ ?_
   | refine LeO.bind ?_ (fun _ => ?_)
def raw_Top.T1 : Bool × List (List Nat × List Nat) := (true, [([], []), ([0], [0]), ([], []), ([2], [2]), ([3], [3]), ([1, 4], [1, 4]), ([5], [5]), ([6, 4, 0, 1, 2, 3, 4, 5, 6], [6])])
def raw_Top.B1 : List Nat := [0, 1, 0, 4, 12, 31, 63, 127]
theorem raw_Top.tab1 : rtab .any (opsOf Tryd.f56 1) = raw_Top.T1 := by kernel_rfl
theorem raw_Top.bits1 : waitsOk raw_Top.T1.2 raw_Top.B1 = true := by kernel_rfl
set_option maxHeartbeats 8000000 in
set_option maxRecDepth 100000 in
theorem raw_Top.calls (k : Nat) (a6 : Bool) (a3 : Option Addr) (a4 : Nat) (a1 : List Int) (a5 : Int) (r : Int) (w : World) (a8 : Kd.C (Kd.int .u64) w a3 a1.length a1) (a9 : a1.length ≤ a4) (h : raw_Top.f k a6 a1 a5 = some r) :
  Calls Tryd.prog 56 #[.agg #[.bool a6, .slice a3 a1.length a4, .int .i64 a5]] w fun e w' => e = .returned (.int .i64 r) ∧ Below w.heap.size w w' := by
 have hu25 := Tryd.underlying25;have aa := zA a8;have ab := zA a9;clear a8 a9;have HB := zA (Below.refl w.heap.size w);have H : ((limbs_Len.f k a1).bind fun a7 => (some (wrap64 ((wrap64 (a5 + a7)) - 1)))) = some r := h;clear h;obtain ⟨a7, A2, H⟩ := zh H;obtain rfl := Option.some.inj H;go_enter Tryd.func56, Tryd.ntmps56
 try go_wp2_with (first | ((with_reducible refine zD 1 rfl ?_); refine zn (N := 1) (cs := #[.bool a6, .slice a3 a1.length a4, .int .i64 a5]) (t := 25) rfl rfl ?_; intro ac hg w3 hbox hb; have a2 := zA (hbox); have af := zw hg; replace HB := ze hb; clear hb hbox hg))
 replace a2 := zA (blk_drew a2.out);replace HB := zA (below_drew1 HB.out);refine start_ (n := 8) (S := fun w' => z3 w' ac (.bool a6) (.slice a3 a1.length a4) (.int .i64 a5)) (ds := []) #[false, false, false, false, false, false, false, false] (by kernel_rfl) rfl rfl (zz a2) (fun hHeld => ?_); refine with_tabW raw_Top.tab1 raw_Top.bits1 (fun HT_ HW_ => ?_);generalize w3.drew = w4 at a2 HB hHeld ⊢;refine pure_ (i := 0) (N := some 3) (v := ?_) (a' := ?_) #[true, false, false, false, false, false, false, false] rfl rfl (any_of HT_.out (by kernel_rfl)) (fun _ _ _ h => h) (Or.inl ⟨by rfl, ?_⟩) ?_ ?_;rotate_left;·intro w';go_simp;with_reducible rfl
 rotate_left;·exact zq
 refine pure_ (i := 2) (N := some 5) (v := ?_) (a' := ?_) #[true, false, true, false, false, false, false, false] rfl rfl (any_of HT_.out (by kernel_rfl)) (fun _ _ _ h => h) (Or.inl ⟨by rfl, ?_⟩) ?_ ?_;rotate_left;·intro w';go_simp;with_reducible rfl
 rotate_left;·exact zq
 refine take_ (i := 1) (N := some 4) (v := ?_) (a' := ?_) #[true, true, true, false, false, false, false, false] rfl rfl (take_ofW HT_.out HW_.out (by kernel_rfl)) (fun _ _ _ h => h) (Or.inl ⟨by rfl, ?_⟩) hHeld ?_ ?_;rotate_left;·rintro w' ⟨s0, s1, s2⟩;go_simp;with_reducible rfl
 rotate_left;·exact zq
 refine take_ (i := 3) (N := some 6) (v := ?_) (a' := ?_) #[true, true, true, true, false, false, false, false] rfl rfl (take_ofW HT_.out HW_.out (by kernel_rfl)) (fun _ _ _ h => h) (Or.inl ⟨by rfl, ?_⟩) hHeld ?_ ?_;rotate_left;·rintro w' ⟨s0, s1, s2⟩;go_simp;with_reducible rfl
 rotate_left;·exact zq
 refine one_ (i := 4) (N := some 7) #[true, true, true, true, true, false, false, false] rfl rfl (one_of HT_.out (by kernel_rfl)) (by decide) (fun K hK => ?_);refine goes_ Tryd.func57 (by kernel_rfl) rfl #[.slice a3 a1.length a4] (by rfl) rfl rfl ga ?_
 with_reducible refine (limbs_Len.calls k _ _ a1 a7 _ ?ad ?ae A2.out).mono ?_
 (case ad => exact zk (C_below aa.out HB.out));(case ae => exact ab.out);rintro e w5 ⟨rfl, hb⟩;refine ⟨_, rfl, ?_⟩;replace a2 := zb a2 hb;replace HB := zf hb;(try clear hb);(try clear hb2);(try clear hk);(try clear hi);refine hK.out _ _ (zz a2) (fun hHeld => ?_);clear hK K;refine norm_ (a' := ?_) ?_ ?_;rotate_left;·show Act.put _ (some 7) _ = _;exact zq
 refine pure_ (i := 5) (N := some 8) (v := ?_) (a' := ?_) #[true, true, true, true, true, true, false, false] rfl rfl (any_of HT_.out (by kernel_rfl)) (fun _ _ _ h => h) (Or.inl ⟨by rfl, ?_⟩) ?_ ?_;rotate_left;·intro w';go_simp;with_reducible rfl
 rotate_left;·exact zq
 refine pure_ (i := 6) (N := some 9) (v := ?_) (a' := ?_) #[true, true, true, true, true, true, true, false] rfl rfl (any_of HT_.out (by kernel_rfl)) (fun _ _ _ h => h) (Or.inl ⟨by rfl, ?_⟩) ?_ ?_;rotate_left;·intro w';go_simp;with_reducible rfl
 rotate_left;·exact zq
 refine pure_ (i := 7) (N := some 2) (v := ?_) (a' := ?_) #[true, true, true, true, true, true, true, true] rfl rfl (any_of HT_.out (by kernel_rfl)) (fun _ _ _ h => h) (Or.inl ⟨by rfl, ?_⟩) ?_ ?_;rotate_left;·intro w';go_simp;with_reducible rfl
 rotate_left;·exact zq
 refine done_ (done_of HT_.out (by kernel_rfl)) ?_
 try go_wp2
 go_ret;exact ⟨er, zs⟩
def raw_Zero.f (k : Nat) (a3 : Bool) (a1 : List Int) (a4 : Int) : Option (Bool) := (limbs_Trim.f k a1).bind fun a2 => (some ((a2.length : Int) == 0))
theorem raw_Zero.mono : ∀ a0 a1 a2 k, LeO (raw_Zero.f k a0 a1 a2) (raw_Zero.f (k + 1) a0 a1 a2) := by
 intro a0 a1 a2 k
 unfold raw_Zero.f
 repeat' first
   | (with_reducible exact limbs_Trim.mono _ _)
   | (with_reducible exact LeO.refl _)
   | (with_reducible exact LeO.none _)
   | (with_reducible refine LeO.ite ?_ ?_)
   | (with_reducible refine LeO.bind ?_ (fun _ => ?_))
   | exact limbs_Trim.mono _ _
   | exact LeO.none _
   | refine LeO.ite ?_ ?_
   | refine LeO.bind ?_ (fun _ => ?_)
set_option maxHeartbeats 8000000 in
set_option maxRecDepth 100000 in
theorem raw_Zero.calls (k : Nat) (a5 : Bool) (a3 : Option Addr) (a4 : Nat) (a1 : List Int) (a6 : Int) (r : Bool) (w : World) (a8 : Kd.C (Kd.int .u64) w a3 a1.length a1) (a9 : a1.length ≤ a4) (h : raw_Zero.f k a5 a1 a6 = some r) :
  Calls Tryd.prog 55 #[.agg #[.bool a5, .slice a3 a1.length a4, .int .i64 a6]] w fun e w' => e = .returned (.bool r) ∧ Below w.heap.size w w' := by
 have hu25 := Tryd.underlying25;have aa := zA a8;have ab := zA a9;clear a8 a9;have HB := zA (Below.refl w.heap.size w);have H : ((limbs_Trim.f k a1).bind fun a7 => (some ((a7.length : Int) == 0))) = some r := h;clear h;obtain ⟨a7, A2, H⟩ := zh H;obtain rfl := Option.some.inj H;go_enter Tryd.func55, Tryd.ntmps55
 go_wp2_with (first | ((with_reducible refine zD 1 rfl ?_); refine zn (N := 1) (cs := #[.bool a5, .slice a3 a1.length a4, .int .i64 a6]) (t := 25) rfl rfl ?_; intro ac hg w3 hbox hb; have a2 := zA (hbox); have ad := zw hg; replace HB := ze hb; clear hb hbox hg; obtain ⟨_, _, _, _, _, _⟩ := zc a2) | ((with_reducible refine zG 84 rfl ?_); refine zL (some 5) rfl rfl Tryd.func84 #[.slice a3 a1.length a4] rfl ?_; (with_reducible refine (limbs_Trim.calls k (fun k_ => k_ < w.heap.size) _ _ a1 a7 _ ?ae A2.out).mono ?_); (case ae => exact V_mk ab.out (Kd.F_below (C_F (Kd.heap_int .u64) aa.out) zs)); rintro e w5 ⟨v459, rfl, ag, hb⟩; refine ⟨_, rfl, ?_⟩; have af := zA (V_lower (V_mono (ok' := fun k_ => k_ ≠ ac) ag (fun k_ hk_ => Or.elim hk_ (fun hs_ => fun e_ => Nat.not_le.2 hs_ (by rw [e_]; exact ad.out)) (fun hn_ => (zj a2 k_ hn_)))) (below_size zs)); replace a2 := zb a2 hb; replace HB := zf hb; (try clear ag); obtain ⟨ai, aj, ah⟩ := V_slice af.out; subst ah))
 go_ret;exact ⟨er, zs⟩
def raw_Sign.f (k : Nat) (a1 : Bool) (a2 : List Int) (a3 : Int) : Option (Int) := (raw_Zero.f k a1 a2 a3).bind fun a4 => (if a4 = true then (some 0) else (if a1 = true then (some (-1)) else (some 1)))
theorem raw_Sign.mono : ∀ a0 a1 a2 k, LeO (raw_Sign.f k a0 a1 a2) (raw_Sign.f (k + 1) a0 a1 a2) := by
 intro a0 a1 a2 k
 unfold raw_Sign.f
 repeat' first
   | (with_reducible exact raw_Zero.mono _ _ _ _)
   | (with_reducible exact LeO.refl _)
   | (with_reducible exact LeO.none _)
   | (with_reducible refine LeO.ite ?_ ?_)
   | (with_reducible refine LeO.bind ?_ (fun _ => ?_))
   | exact raw_Zero.mono _ _ _ _
   | exact LeO.none _
   | refine LeO.ite ?_ ?_
   | refine LeO.bind ?_ (fun _ => ?_)
set_option maxHeartbeats 8000000 in
set_option maxRecDepth 100000 in
theorem raw_Sign.calls (k : Nat) (a4 : Bool) (a5 : Option Addr) (a6 : Nat) (a2 : List Int) (a3 : Int) (r : Int) (w : World) (ac : Kd.C (Kd.int .u64) w a5 a2.length a2) (ad : a2.length ≤ a6) (h : raw_Sign.f k a4 a2 a3 = some r) :
  Calls Tryd.prog 89 #[.agg #[.bool a4, .slice a5 a2.length a6, .int .i64 a3]] w fun e w' => e = .returned (.int .i64 r) ∧ Below w.heap.size w w' := by
 have hu25 := Tryd.underlying25;have a9 := zA ac;have aa := zA ad;clear ac ad;have HB := zA (Below.refl w.heap.size w);have H : ((raw_Zero.f k a4 a2 a3).bind fun ab => (if ab = true then (some 0) else (if a4 = true then (some (-1)) else (some 1)))) = some r := h;clear h;obtain ⟨ab, A2, H⟩ := zh H
 by_cases c3 : ab = true
 ·subst c3;rw [if_pos rfl] at H;obtain rfl := Option.some.inj H;go_enter Tryd.func89, Tryd.ntmps89
  go_wp2_with (first | ((with_reducible refine zD 1 rfl ?_); refine zn (N := 1) (cs := #[.bool a4, .slice a5 a2.length a6, .int .i64 a3]) (t := 25) rfl rfl ?_; intro ae hg w4 hbox hb; have a1 := zA (hbox); have af := zw hg; replace HB := ze hb; clear hb hbox hg; obtain ⟨_, _, _, _, _, _⟩ := zc a1) | ((with_reducible refine zG 55 rfl ?_); refine zL (some 5) rfl rfl Tryd.func55 #[.agg #[.bool a4, .slice a5 a2.length a6, .int .i64 a3]] rfl ?_; (with_reducible refine (raw_Zero.calls k a4 _ _ a2 a3 true _ ?a7 ?a8 A2.out).mono ?_); (case a7 => exact zk (C_below a9.out HB.out)); (case a8 => exact aa.out); rintro e w6 ⟨rfl, hb⟩; refine ⟨_, rfl, ?_⟩; replace a1 := zb a1 hb; replace HB := zf hb))
  go_ret;exact ⟨er, zs⟩
 replace c3 := Bool.eq_false_iff.mpr c3;subst c3;rw [if_neg (show ¬ (false = true) by decide)] at H
 by_cases c7 : a4 = true
 ·subst c7;rw [if_pos rfl] at H;obtain rfl := Option.some.inj H;go_enter Tryd.func89, Tryd.ntmps89
  go_wp2_with (first | ((with_reducible refine zD 1 rfl ?_); refine zn (N := 1) (cs := #[.bool true, .slice a5 a2.length a6, .int .i64 a3]) (t := 25) rfl rfl ?_; intro ae hg w8 hbox hb; have a1 := zA (hbox); have af := zw hg; replace HB := ze hb; clear hb hbox hg; obtain ⟨au, av, aw, ax, ay, aA⟩ := zc a1) | ((with_reducible refine zG 55 rfl ?_); refine zL (some 5) rfl rfl Tryd.func55 #[.agg #[.bool true, .slice a5 a2.length a6, .int .i64 a3]] rfl ?_; (with_reducible refine (raw_Zero.calls k true _ _ a2 a3 false _ ?a7 ?a8 A2.out).mono ?_); (case a7 => exact zk (C_below a9.out HB.out)); (case a8 => exact aa.out); rintro e w10 ⟨rfl, hb⟩; refine ⟨_, rfl, ?_⟩; replace a1 := zb a1 hb; replace HB := zf hb; obtain ⟨ag, ah, ai, aj, ak, al⟩ := zc a1))
  go_ret;exact ⟨er, zs⟩
 replace c7 := Bool.eq_false_iff.mpr c7;subst c7;rw [if_neg (show ¬ (false = true) by decide)] at H;obtain rfl := Option.some.inj H;go_enter Tryd.func89, Tryd.ntmps89
 go_wp2_with (first | ((with_reducible refine zD 1 rfl ?_); refine zn (N := 1) (cs := #[.bool false, .slice a5 a2.length a6, .int .i64 a3]) (t := 25) rfl rfl ?_; intro ae hg w12 hbox hb; have a1 := zA (hbox); have af := zw hg; replace HB := ze hb; clear hb hbox hg; obtain ⟨_, _, _, _, _, _⟩ := zc a1) | ((with_reducible refine zG 55 rfl ?_); refine zL (some 5) rfl rfl Tryd.func55 #[.agg #[.bool false, .slice a5 a2.length a6, .int .i64 a3]] rfl ?_; (with_reducible refine (raw_Zero.calls k false _ _ a2 a3 false _ ?a7 ?a8 A2.out).mono ?_); (case a7 => exact zk (C_below a9.out HB.out)); (case a8 => exact aa.out); rintro e w14 ⟨rfl, hb⟩; refine ⟨_, rfl, ?_⟩; replace a1 := zb a1 hb; replace HB := zf hb; obtain ⟨am, an, ao, ap, aq, ar⟩ := zc a1))
 go_ret;exact ⟨er, zs⟩
end Go.Proofs.YtnjfckadjklmfaaDoor.PAll
