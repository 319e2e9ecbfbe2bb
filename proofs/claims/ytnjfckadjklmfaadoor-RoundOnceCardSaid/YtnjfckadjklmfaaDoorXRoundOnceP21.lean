/- Printed functions, merged by a program of this session. -/
import Derived.Test.YtnjfckadjklmfaaDoorXRoundOnceP0
import Derived.Test.YtnjfckadjklmfaaDoorXRoundOnceP8
import Derived.Test.YtnjfckadjklmfaaDoorXRoundOnceP19
import Derived.Test.YtnjfckadjklmfaaDoorXRoundOnceP12
import Derived.Test.YtnjfckadjklmfaaDoorXRoundOnceSh
namespace Go.Proofs.YtnjfckadjklmfaaDoor.PAll
open Go.RowKit Go.Proofs.YtnjfckadjklmfaaDoorW.PrintWords Go.Proofs.YtnjfckadjklmfaaDoorW.PrintLast Go.Proofs.YtnjfckadjklmfaaDoorW.PrintMore Go.Proofs.YtnjfckadjklmfaaDoorW.PrintWords.Kd
attribute [local go_sem] max2_int min2_int max_two min_two max_three min_three max_four min_four   -- for this text's walks alone
set_option linter.unusedVariables false
set_option linter.unusedSimpArgs false
attribute [local go_sem] fld75_0 fld75_1 fld75_2 ext118 ext119
def dyad_From.f (k : Nat) (a0 : Int) : Option (Bool × List Int × Int × Int) := if (wrap64 (Go.bits .and .u64 (a0 / 4503599627370496) 2047)) = 2047 then (some (false, ([] : List Int), 0, 5)) else (if (wrap64 (Go.bits .and .u64 (a0 / 4503599627370496) 2047)) = 0 then ((raw_Form.f k ((a0 / 9223372036854775808) == 1) (([Go.bits .and .u64 a0 4503599627370495] : List Int)) (1 - 1075)).bind fun a1 => (some (a1.1, a1.2.1, a1.2.2, 0))) else ((raw_Form.f k ((a0 / 9223372036854775808) == 1) (([Go.bits .or .u64 (Go.bits .and .u64 a0 4503599627370495) 4503599627370496] : List Int)) (wrap64 ((wrap64 (Go.bits .and .u64 (a0 / 4503599627370496) 2047)) - 1075))).bind fun a2 => (some (a2.1, a2.2.1, a2.2.2, 0))))
set_option maxHeartbeats 8000000 in
set_option maxRecDepth 100000 in
theorem dyad_From.calls (k : Nat) (a0 : Int) (r1 : Bool) (r2 : List Int) (r3 : Int) (r4 : Int) (w : World) (hT : Laid w) (h : dyad_From.f k a0 = some (r1, r2, r3, r4)) :
  Calls Tryd.prog 18 #[.int .u64 a0] w fun e w' => ∃ v1_ : Value, e = .returned (.tuple #[.agg #[.bool r1, v1_, .int .i64 r3], .int .i64 r4]) ∧ Kd.V (Kd.int .u64) 26 w' w.heap.size (fun k_ => (w.heap.size ≤ k_)) v1_ r2 ∧ Below w.heap.size w w' := by
 have hu25 := Tryd.underlying25;have HB := zA (Below.refl w.heap.size w);have H : (if (wrap64 (Go.bits .and .u64 (a0 / 4503599627370496) 2047)) = 2047 then (some (false, ([] : List Int), 0, 5)) else (if (wrap64 (Go.bits .and .u64 (a0 / 4503599627370496) 2047)) = 0 then ((raw_Form.f k ((a0 / 9223372036854775808) == 1) (([Go.bits .and .u64 a0 4503599627370495] : List Int)) (1 - 1075)).bind fun a3 => (some (a3.1, a3.2.1, a3.2.2, 0))) else ((raw_Form.f k ((a0 / 9223372036854775808) == 1) (([Go.bits .or .u64 (Go.bits .and .u64 a0 4503599627370495) 4503599627370496] : List Int)) (wrap64 ((wrap64 (Go.bits .and .u64 (a0 / 4503599627370496) 2047)) - 1075))).bind fun a4 => (some (a4.1, a4.2.1, a4.2.2, 0))))) = some (r1, r2, r3, r4) := h;clear h
 by_cases c2 : (wrap64 (Go.bits .and .u64 (a0 / 4503599627370496) 2047)) = 2047
 ·rw [if_pos c2] at H;have aw := beq_iff_eq.mpr c2;have ax := bne_eq_false_iff_eq.mpr c2;clear c2;simp only [Option.some.injEq, Prod.mk.injEq] at H;obtain ⟨rfl, rfl, rfl, rfl⟩ := H;go_enter Tryd.func18, Tryd.ntmps18
  go_wp2_with (first | ((with_reducible refine zD 2 rfl ?_); refine zn (N := 2) (cs := #[.bool false, .slice none 0 0, .int .i64 0]) (t := 25) rfl rfl ?_; intro a2 hg w3 hbox hb; have a1 := zA (hbox); have af := zw hg; replace HB := ze hb; clear hb hbox hg; obtain ⟨_, _, _, _, _, _⟩ := zc a1))
  refine bodyPost_ret (results_ct rfl _ _ a2 25 #[.bool false, .slice none 0 0, .int .i64 0] (0, 0) _ rfl (zy a1) Tryd.underlying25 rfl (by kernel_rfl)) rfl ?_;exact ⟨_, er, V_nil _ _ _ _ _, zs⟩
 rw [if_neg c2] at H;have aw := beq_eq_false_iff_ne.mpr c2;have ax := bne_iff_ne.mpr c2
 by_cases c5 : (wrap64 (Go.bits .and .u64 (a0 / 4503599627370496) 2047)) = 0
 ·rw [if_pos c5] at H;have ay := beq_iff_eq.mpr c5;have aA := bne_eq_false_iff_eq.mpr c5;clear c5;obtain ⟨a8, a9⟩ : ∃ y_ : List Int, y_ = (([Go.bits .and .u64 a0 4503599627370495] : List Int)) := ⟨_, rfl⟩;replace H : ((raw_Form.f k ((a0 / 9223372036854775808) == 1) a8 (1 - 1075)).bind fun a3 => (some (a3.1, a3.2.1, a3.2.2, 0))) = some (r1, r2, r3, r4) := zR a9 H;have ag := zA a9;clear a9;obtain ⟨⟨ak, al, am⟩, A6, H⟩ := zh H;(try dsimp only at H);simp only [Option.some.injEq, Prod.mk.injEq] at H;obtain ⟨rfl, rfl, rfl, rfl⟩ := H;go_enter Tryd.func18, Tryd.ntmps18
  go_wp2_with (first | ((with_reducible refine zD 2 rfl ?_); refine zn (N := 2) (cs := #[.bool false, .slice none 0 0, .int .i64 0]) (t := 25) rfl rfl ?_; intro a2 hg w7 hbox hb; have a1 := zA (hbox); have af := zw hg; replace HB := ze hb; clear hb hbox hg) | ((with_reducible refine zD 24 rfl ?_); refine R_lit (Kd.int .u64) _ 26 ?hg (N := 24) ?hd (xs := ([Go.bits .and .u64 a0 4503599627370495] : List Int)) (inner := [.int .u64 (Go.bits .and .u64 a0 4503599627370495)]) (ok := fun _ => True) (okp := fun _ => True) ?hr ?hp (fun _ hk => hk) trivial (Below.refl _ _) (Nat.le_refl _) (by simp) ?_; (case hd => rfl); (case hg => rfl); (case hr => first | (go_simp; done) | (go_simp; rfl)); (case hp => exact (Reps.one (show Kd.M (Kd.int .u64) _ _ _ (Go.bits .and .u64 a0 4503599627370495) [.int .u64 (Go.bits .and .u64 a0 4503599627370495)] from rfl) (Reps.none _ _))); intro v793 w8 ad hb hg_ hnew_; clear hg_ hnew_; (first | rw [← ag.out] at ad | (simp only [Int.reduceToNat] at ad; rw [← ag.out] at ad)); have a5 := zA (R_lower (R_newM (M := fun k_ => (w.heap.size ≤ k_)) ad (below_size zs) (fun k_ h_ => h_)) (below_size zs)); replace a1 := zb a1 hb; replace HB := zf hb; clear hb ad; obtain ⟨an, ao, aB⟩ := R_slice a5.out; subst aB) | ((with_reducible refine zG 46 rfl ?_); refine zL (some 27) rfl rfl Tryd.func46 #[.bool ((a0 / 9223372036854775808) == 1), .slice an a8.length ao, .int .i64 (1 - 1075)] rfl ?_; (with_reducible refine (raw_Form.calls k ((a0 / 9223372036854775808) == 1) (fun k_ => some k_ = (.slice an a8.length ao : Value).ownBlock) _ _ a8 (1 - 1075) ak al am _ ?aa (laid_below hT zs) A6.out).mono ?_); (case aa => exact R_V (R_tight rfl (R_types (a5.out) a1.out (by decide)))); rintro e w11 ⟨v797, rfl, ae, hb⟩; refine ⟨_, rfl, ?_⟩; have ah := zA (V_lower (V_mono (ok' := fun k_ => (w.heap.size ≤ k_) ∧ k_ ≠ a2) ae (fun k_ hk_ => ⟨Or.elim hk_ (fun hs_ => ((R_types (a5.out) a1.out (by decide)).1 k_ hs_.symm).1.1) (fun hn_ => (Nat.le_trans (below_size zs) hn_)), Or.elim hk_ (fun hs_ => ((R_types (a5.out) a1.out (by decide)).1 k_ hs_.symm).2) (fun hn_ => (zj a1 k_ hn_))⟩)) (below_size zs)); replace a5 := zA (R_below (ru a5.out) hb); replace a1 := zb a1 hb; replace HB := zf hb; (try clear ae); obtain ⟨aJ, aK, aL, aM, aN, aO⟩ := zc a1; obtain ⟨aC, aD, aE⟩ := V_slice ah.out; subst aE))
  refine bodyPost_ret (results_ct rfl _ _ a2 25 #[.bool ak, .slice aC al.length aD, .int .i64 am] (0, 0) _ rfl (zy a1) Tryd.underlying25 rfl (by kernel_rfl)) rfl ?_;exact ⟨_, er, vu (V_mono (zv a2 (V_mono ah.out (fun k_ hk => (⟨hk, hk.2⟩ : _ ∧ k_ ≠ a2))) (fun _ hk => hk.2) _ _ _) (fun _ hk => hk.1.1)), zs⟩
 rw [if_neg c5] at H;have ay := beq_eq_false_iff_ne.mpr c5;have aA := bne_iff_ne.mpr c5;obtain ⟨ab, ac⟩ : ∃ y_ : List Int, y_ = (([Go.bits .or .u64 (Go.bits .and .u64 a0 4503599627370495) 4503599627370496] : List Int)) := ⟨_, rfl⟩;replace H : ((raw_Form.f k ((a0 / 9223372036854775808) == 1) ab (wrap64 ((wrap64 (Go.bits .and .u64 (a0 / 4503599627370496) 2047)) - 1075))).bind fun a4 => (some (a4.1, a4.2.1, a4.2.2, 0))) = some (r1, r2, r3, r4) := zR ac H;have ai := zA ac;clear ac;obtain ⟨⟨ap, aq, ar⟩, aV, H⟩ := zh H;(try dsimp only at H);simp only [Option.some.injEq, Prod.mk.injEq] at H;obtain ⟨rfl, rfl, rfl, rfl⟩ := H;go_enter Tryd.func18, Tryd.ntmps18
 go_wp2_with (first | ((with_reducible refine zD 2 rfl ?_); refine zn (N := 2) (cs := #[.bool false, .slice none 0 0, .int .i64 0]) (t := 25) rfl rfl ?_; intro a2 hg w15 hbox hb; have a1 := zA (hbox); have af := zw hg; replace HB := ze hb; clear hb hbox hg) | ((with_reducible refine zD 24 rfl ?_); refine R_lit (Kd.int .u64) _ 26 ?hg (N := 24) ?hd (xs := ([Go.bits .or .u64 (Go.bits .and .u64 a0 4503599627370495) 4503599627370496] : List Int)) (inner := [.int .u64 (Go.bits .or .u64 (Go.bits .and .u64 a0 4503599627370495) 4503599627370496)]) (ok := fun _ => True) (okp := fun _ => True) ?hr ?hp (fun _ hk => hk) trivial (Below.refl _ _) (Nat.le_refl _) (by simp) ?_; (case hd => rfl); (case hg => rfl); (case hr => first | (go_simp; done) | (go_simp; rfl)); (case hp => exact (Reps.one (show Kd.M (Kd.int .u64) _ _ _ (Go.bits .or .u64 (Go.bits .and .u64 a0 4503599627370495) 4503599627370496) [.int .u64 (Go.bits .or .u64 (Go.bits .and .u64 a0 4503599627370495) 4503599627370496)] from rfl) (Reps.none _ _))); intro v801 w16 a7 hb hg_ hnew_; clear hg_ hnew_; (first | rw [← ai.out] at a7 | (simp only [Int.reduceToNat] at a7; rw [← ai.out] at a7)); have a6 := zA (R_lower (R_newM (M := fun k_ => (w.heap.size ≤ k_)) a7 (below_size zs) (fun k_ h_ => h_)) (below_size zs)); replace a1 := zb a1 hb; replace HB := zf hb; clear hb a7; obtain ⟨au, av, aF⟩ := R_slice a6.out; subst aF) | ((with_reducible refine zG 46 rfl ?_); refine zL (some 27) rfl rfl Tryd.func46 #[.bool ((a0 / 9223372036854775808) == 1), .slice au ab.length av, .int .i64 (wrap64 ((wrap64 (Go.bits .and .u64 (a0 / 4503599627370496) 2047)) - 1075))] rfl ?_; (with_reducible refine (raw_Form.calls k ((a0 / 9223372036854775808) == 1) (fun k_ => some k_ = (.slice au ab.length av : Value).ownBlock) _ _ ab (wrap64 ((wrap64 (Go.bits .and .u64 (a0 / 4503599627370496) 2047)) - 1075)) ap aq ar _ ?aa (laid_below hT zs) aV.out).mono ?_); (case aa => exact R_V (R_tight rfl (R_types (a6.out) a1.out (by decide)))); rintro e w19 ⟨v805, rfl, ae, hb⟩; refine ⟨_, rfl, ?_⟩; have aj := zA (V_lower (V_mono (ok' := fun k_ => (w.heap.size ≤ k_) ∧ k_ ≠ a2) ae (fun k_ hk_ => ⟨Or.elim hk_ (fun hs_ => ((R_types (a6.out) a1.out (by decide)).1 k_ hs_.symm).1.1) (fun hn_ => (Nat.le_trans (below_size zs) hn_)), Or.elim hk_ (fun hs_ => ((R_types (a6.out) a1.out (by decide)).1 k_ hs_.symm).2) (fun hn_ => (zj a1 k_ hn_))⟩)) (below_size zs)); replace a6 := zA (R_below (ru a6.out) hb); replace a1 := zb a1 hb; replace HB := zf hb; (try clear ae); obtain ⟨aP, aQ, aR, aS, aT, aU⟩ := zc a1; obtain ⟨aG, aH, aI⟩ := V_slice aj.out; subst aI))
 refine bodyPost_ret (results_ct rfl _ _ a2 25 #[.bool ap, .slice aG aq.length aH, .int .i64 ar] (0, 0) _ rfl (zy a1) Tryd.underlying25 rfl (by kernel_rfl)) rfl ?_;exact ⟨_, er, vu (V_mono (zv a2 (V_mono aj.out (fun k_ hk => (⟨hk, hk.2⟩ : _ ∧ k_ ≠ a2))) (fun _ hk => hk.2) _ _ _) (fun _ hk => hk.1.1)), zs⟩
def bits_Split.f (a0 : Int) : Option (Bool × Int × Int) := some (((Go.bits .and .u64 a0 9223372036854775808) != 0), wrap64 (Go.bits .and .u64 (a0 / 4503599627370496) 2047), Go.bits .and .u64 a0 4503599627370495)
set_option maxHeartbeats 8000000 in
set_option maxRecDepth 100000 in
theorem bits_Split.calls (a0 : Int) (r1 : Bool) (r2 : Int) (r3 : Int) (w : World) (h : bits_Split.f a0 = some (r1, r2, r3)) :
  Calls Tryd.prog 47 #[.int .u64 a0] w fun e w' => e = .returned (.agg #[.bool r1, .int .i64 r2, .int .u64 r3]) ∧ Below w.heap.size w w' := by
 have hu75 := Tryd.underlying75;have HB := zA (Below.refl w.heap.size w);have H : (some (((Go.bits .and .u64 a0 9223372036854775808) != 0), wrap64 (Go.bits .and .u64 (a0 / 4503599627370496) 2047), Go.bits .and .u64 a0 4503599627370495)) = some (r1, r2, r3) := h;clear h;simp only [Option.some.injEq, Prod.mk.injEq] at H;obtain ⟨rfl, rfl, rfl⟩ := H;go_enter Tryd.func47, Tryd.ntmps47
 go_wp2_with (first | ((with_reducible refine zD 2 rfl ?_); refine zn (N := 2) (cs := #[.bool false, .int .i64 0, .int .u64 0]) (t := 75) rfl rfl ?_; intro a2 hg w2 hbox hb; have a1 := zA (hbox); have a3 := zw hg; replace HB := ze hb; clear hb hbox hg; obtain ⟨_, _, _, _, _, _⟩ := zc a1))
 refine bodyPost_ret (results_cell_row rfl _ _ a2 75 #[.bool ((Go.bits .and .u64 a0 9223372036854775808) != 0), .int .i64 (wrap64 (Go.bits .and .u64 (a0 / 4503599627370496) 2047)), .int .u64 (Go.bits .and .u64 a0 4503599627370495)] (0, 0) _ rfl (zy a1) Tryd.underlying75 rfl (by kernel_rfl)) rfl ?_;exact ⟨er, zs⟩
mutual
def bits_Class.j0 : Nat → Bool → Bool → Int → Int → Option (Int)
 | 0, _, _, _, _ => none
 | k + 1, x6, a3, a1, a2 => if x6 = true then (some 4) else (if a1 = 2047 then (bits_Class.j1 k ((Go.bits .and .u64 a2 2251799813685248) != 0) a3 a1 a2) else (bits_Class.j1 k false a3 a1 a2))
def bits_Class.j1 : Nat → Bool → Bool → Int → Int → Option (Int)
 | 0, _, _, _, _ => none
 | k + 1, x15, a3, a1, a2 => if x15 = true then (some 5) else (if a1 = 2047 then (some 6) else (if a1 > 0 then (some 3) else (if a2 > 0 then (some 2) else (some 1))))
end
def bits_Class.f (k : Nat) (a0 : Int) : Option (Int) := (bits_Split.f a0).bind fun a1 => (if a1.2.1 = 2047 then (bits_Class.j0 k (a1.2.2 == 0) a1.1 a1.2.1 a1.2.2) else (bits_Class.j0 k false a1.1 a1.2.1 a1.2.2))
set_option maxHeartbeats 8000000 in
set_option maxRecDepth 100000 in
theorem bits_Class.calls (k : Nat) (a0 : Int) (r : Int) (w : World) (h : bits_Class.f k a0 = some r) :
  Calls Tryd.prog 19 #[.int .u64 a0] w fun e w' => e = .returned (.int .u8 r) ∧ Below w.heap.size w w' := by
 have hu75 := Tryd.underlying75;have HB := zA (Below.refl w.heap.size w);have H : ((bits_Split.f a0).bind fun a2 => (if a2.2.1 = 2047 then (bits_Class.j0 k (a2.2.2 == 0) a2.1 a2.2.1 a2.2.2) else (bits_Class.j0 k false a2.1 a2.2.1 a2.2.2))) = some r := h;clear h;obtain ⟨⟨a8, a3, a4⟩, A2, H⟩ := zh H;(try dsimp only at H);have ak := zA H;clear H;go_enter Tryd.func19, Tryd.ntmps19
 go_upto_region 2 with (first | ((with_reducible refine zG 47 rfl ?_); refine zL (some 5) rfl rfl Tryd.func47 #[.int .u64 a0] rfl ?_; (with_reducible refine (bits_Split.calls a0 a8 a3 a4 _ A2.out).mono ?_); rintro e w4 ⟨rfl, hb⟩; refine ⟨_, rfl, ?_⟩; replace HB := ze hb) | ((with_reducible refine zD 3 rfl ?_); refine zn (N := 3) (cs := #[.bool false, .int .i64 0, .int .u64 0]) (t := 75) rfl rfl ?_; intro ai hg w5 hbox hb; have a1 := zA (hbox); have aG := zw hg; replace HB := ze hb; clear hb hbox hg; obtain ⟨aa, ab, ac, ad, ae, af⟩ := zc a1))
 (try simp only [Act.put, List.setIfInBounds_toArray, List.set_cons_zero, List.set_cons_succ])
 go_cut [6] (fun v6 wc => ∃ (kq : Nat) (a9 : Bool), v6 = .bool a9 ∧ Aside0 (bits_Class.j0 kq a9 a8 a3 a4 = some r) ∧ Aside0 (kq ≤ k) ∧ Aside0 (wc.heap[ai]? = some (.cells #[.bool a8, .int .i64 a3, .int .u64 a4] 75 (0, 0))) ∧ Aside0 (Below w.heap.size w wc))
 case first =>
  have H := ak.out;clear ak
  by_cases c7 : a3 = 2047
  ·rw [if_pos c7] at H;have a6 := beq_iff_eq.mpr c7;have ag := bne_eq_false_iff_eq.mpr c7;clear c7
   (first | rw [a6] | (simp only [i64_w, i32_w]; rw [a6]) | skip)
   have H' := zA H;clear H;obtain ⟨_, _, _, _, _, _⟩ := zc a1
   go_wp2
   go_meet
   case rel => exact ⟨_, ((a4 == 0)), zi, H', ⟨by first | omega | exact Nat.le_refl _⟩, ⟨by (with_reducible repeat (first | refine blk_drewN ?_ _ | refine blk_drew ?_ | refine blk_alloc ?_ _)); exact zp (zu a1)⟩, ⟨zs⟩⟩
  rw [if_neg c7] at H;have a6 := beq_eq_false_iff_ne.mpr c7;have ag := bne_iff_ne.mpr c7
  (first | rw [a6] | (simp only [i64_w, i32_w]; rw [a6]) | skip)
  have H' := zA H;clear H;obtain ⟨_, _, _, _, _, _⟩ := zc a1
  go_wp2
  go_meet
  case rel => exact ⟨_, (false), zi, H', ⟨by first | omega | exact Nat.le_refl _⟩, ⟨by (with_reducible repeat (first | refine blk_drewN ?_ _ | refine blk_drew ?_ | refine blk_alloc ?_ _)); exact zp (zu a1)⟩, ⟨zs⟩⟩
 case rest =>
  clear ak
  try clear c4
  try clear c7
  try clear a6
  try clear ag
  try clear aa ab ac ad ae af
  obtain ⟨kq, a9, rfl, HA, ap, a1, HB⟩ := hcut
  cases kq with
  | zero => exact absurd HA.out (by simp [bits_Class.j0])
  | succ aF =>
   have H := HA.out;clear HA;simp only [bits_Class.j0] at H
   by_cases c10 : a9 = true
   ·subst c10;rw [if_pos rfl] at H;obtain rfl := Option.some.inj H
    go_wp2
    go_ret;exact ⟨er, zs⟩
   replace c10 := Bool.eq_false_iff.mpr c10;subst c10;rw [if_neg (show ¬ (false = true) by decide)] at H;have ah := zA H;clear H
   go_upto_region 4 with (fail)
   go_cut [15] (fun v15 wc => ∃ (kq : Nat) (a7 : Bool), v15 = .bool a7 ∧ Aside0 (bits_Class.j1 kq a7 a8 a3 a4 = some r) ∧ Aside0 (kq ≤ aF) ∧ Aside0 (wc.heap[ai]? = some (.cells #[.bool a8, .int .i64 a3, .int .u64 a4] 75 (0, 0))) ∧ Aside0 (Below w.heap.size w wc))
   case first =>
    have H := ah.out;clear ah
    by_cases c12 : a3 = 2047
    ·rw [if_pos c12] at H;have a5 := beq_iff_eq.mpr c12;have aj := bne_eq_false_iff_eq.mpr c12;clear c12
     (first | rw [a5] | (simp only [i64_w, i32_w]; rw [a5]) | skip)
     have H' := zA H;clear H;obtain ⟨_, _, _, _, _, _⟩ := zc a1
     go_wp2
     go_meet
     case rel => exact ⟨_, (((Go.bits .and .u64 a4 2251799813685248) != 0)), zi, H', ⟨by have := ap.out; first | omega | exact Nat.le_refl _⟩, ⟨zu a1⟩, ⟨zs⟩⟩
    rw [if_neg c12] at H;have a5 := beq_eq_false_iff_ne.mpr c12;have aj := bne_iff_ne.mpr c12
    (first | rw [a5] | (simp only [i64_w, i32_w]; rw [a5]) | skip)
    have H' := zA H;clear H;obtain ⟨_, _, _, _, _, _⟩ := zc a1
    go_wp2
    go_meet
    case rel => exact ⟨_, (false), zi, H', ⟨by have := ap.out; first | omega | exact Nat.le_refl _⟩, ⟨zu a1⟩, ⟨zs⟩⟩
   case rest =>
    clear ah
    try clear c4
    try clear c7
    try clear a6
    try clear ag
    try clear c10
    try clear c12
    try clear a5
    try clear aj
    try clear aa ab ac ad ae af
    obtain ⟨kq, a7, rfl, HA, aH, a1, HB⟩ := hcut
    cases kq with
    | zero => exact absurd HA.out (by simp [bits_Class.j1])
    | succ aI =>
     have H := HA.out;clear HA;simp only [bits_Class.j1] at H
     by_cases c15 : a7 = true
     ·subst c15;rw [if_pos rfl] at H;obtain rfl := Option.some.inj H
      go_wp2
      go_ret;exact ⟨er, zs⟩
     replace c15 := Bool.eq_false_iff.mpr c15;subst c15;rw [if_neg (show ¬ (false = true) by decide)] at H
     by_cases c16 : a3 = 2047
     ·rw [if_pos c16] at H;have al := beq_iff_eq.mpr c16;have am := bne_eq_false_iff_eq.mpr c16;clear c16;obtain rfl := Option.some.inj H;obtain ⟨aq, ar, au, av, aw, ax⟩ := zc a1
      go_wp2
      go_ret;exact ⟨er, zs⟩
     rw [if_neg c16] at H;have al := beq_eq_false_iff_ne.mpr c16;have am := bne_iff_ne.mpr c16
     by_cases c18 : a3 > 0
     ·rw [if_pos c18] at H;have an := decide_eq_true c18;clear c18;obtain rfl := Option.some.inj H;obtain ⟨ay, aA, aB, aC, aD, aE⟩ := zc a1
      go_wp2
      go_ret;exact ⟨er, zs⟩
     rw [if_neg c18] at H;have an := decide_eq_false c18;clear c18
     by_cases c20 : a4 > 0
     ·rw [if_pos c20] at H;have ao := decide_eq_true c20;clear c20;obtain rfl := Option.some.inj H;obtain ⟨_, _, _, _, _, _⟩ := zc a1
      go_wp2
      go_ret;exact ⟨er, zs⟩
     rw [if_neg c20] at H;have ao := decide_eq_false c20;clear c20;obtain rfl := Option.some.inj H;obtain ⟨_, _, _, _, _, _⟩ := zc a1
     go_wp2
     go_ret;exact ⟨er, zs⟩
def ulplaw05_far.f (k : Nat) (a2 : Bool) (a3 : List Int) (a4 : Int) (a5 : Bool) (a6 : List Int) (a7 : Int) : Option (Bool × List Int × Int) := (ulpref04_Less.f k a2 a3 a4 a5 a6 a7).bind fun a1 => (some (false, a1.2.1, a1.2.2))
set_option maxHeartbeats 8000000 in
set_option maxRecDepth 100000 in
theorem ulplaw05_far.calls (k : Nat) (a7 : Bool) (ad : Option Addr) (ae : Nat) (a5 : List Int) (a8 : Int) (a9 : Bool) (af : Option Addr) (ag : Nat) (a6 : List Int) (aa : Int) (r1 : Bool) (r2 : List Int) (r3 : Int) (w : World) (ay : Kd.C (Kd.int .u64) w ad a5.length a5) (aA : a5.length ≤ ae) (aB : Kd.C (Kd.int .u64) w af a6.length a6) (aC : a6.length ≤ ag) (h : ulplaw05_far.f k a7 a5 a8 a9 a6 aa = some (r1, r2, r3)) :
  Calls Tryd.prog 20 #[.agg #[.bool a7, .slice ad a5.length ae, .int .i64 a8], .agg #[.bool a9, .slice af a6.length ag, .int .i64 aa]] w fun e w' => ∃ v1_ : Value, e = .returned (.agg #[.bool r1, v1_, .int .i64 r3]) ∧ Kd.R (Kd.int .u64) 26 w' w.heap.size (fun _ => True) v1_ r2 ∧ Below w.heap.size w w' := by
 have hu25 := Tryd.underlying25;have aG := zA ay;have aH := zA aA;clear ay aA;have aI := zA aB;have aJ := zA aC;clear aB aC;have HB := zA (Below.refl w.heap.size w);have H : ((ulpref04_Less.f k a7 a5 a8 a9 a6 aa).bind fun aD => (some (false, aD.2.1, aD.2.2))) = some (r1, r2, r3) := h;clear h;obtain ⟨⟨aP, ah, av⟩, A3, H⟩ := zh H;(try dsimp only at H);simp only [Option.some.injEq, Prod.mk.injEq] at H;obtain ⟨rfl, rfl, rfl⟩ := H;go_enter Tryd.func20, Tryd.ntmps20
 go_wp2_with (first | ((with_reducible refine zD 2 rfl ?_); refine zn (N := 2) (cs := #[.bool a7, .slice ad a5.length ae, .int .i64 a8]) (t := 25) rfl rfl ?_; intro b3 hg w4 hbox hb; have a1 := zA (hbox); have b4 := zw hg; replace HB := ze hb; clear hb hbox hg) | ((with_reducible refine zD 3 rfl ?_); refine zn (N := 3) (cs := #[.bool a9, .slice af a6.length ag, .int .i64 aa]) (t := 25) rfl rfl ?_; intro b5 hg w5 hbox hb; have a2 := zA (hbox); have b6 := zx hg; replace HB := zf hb; have ai := zl a1 hg; have aj := zg a1 hg; replace a1 := zb a1 hb; clear hb hbox hg) | ((with_reducible refine zD 4 rfl ?_); refine zn (N := 4) (cs := #[.bool false, .slice none 0 0, .int .i64 0]) (t := 25) rfl rfl ?_; intro ab hg w6 hbox hb; have a4 := zA (hbox); have b7 := zx hg; replace HB := zf hb; have ak := zl a1 hg; have al := zg a1 hg; replace a1 := zb a1 hb; have am := zl a2 hg; have an := zg a2 hg; replace a2 := zb a2 hb; clear hb hbox hg; have bh := ai.out; have bi := aj.out; have bj := ak.out; have bk := al.out; obtain ⟨_, _, _, _, _, _⟩ := zc a1; have b8 := am.out; have b9 := an.out; obtain ⟨_, _, _, _, _, _⟩ := zc a2) | ((with_reducible refine zG 40 rfl ?_); refine zL (some 8) rfl rfl Tryd.func40 #[.agg #[.bool a7, .slice ad a5.length ae, .int .i64 a8], .agg #[.bool a9, .slice af a6.length ag, .int .i64 aa]] rfl ?_; (with_reducible refine (ulpref04_Less.calls k a7 _ _ a5 a8 a9 _ _ a6 aa aP ah av _ ?aK ?aL ?aM ?aN A3.out).mono ?_); (case aK => exact zk (C_below aG.out HB.out)); (case aL => exact aH.out); (case aM => exact zk (C_below aI.out HB.out)); (case aN => exact aJ.out); rintro e w12 ⟨v818, rfl, aO, hb⟩; refine ⟨_, rfl, ?_⟩; have ac := zA (R_lower aO (below_size zs)); replace a1 := zb a1 hb; replace a2 := zb a2 hb; replace a4 := zb a4 hb; replace HB := zf hb; (try clear aO)) | ((with_reducible refine zD 5 rfl ?_); refine zn (N := 5) (cs := #[.bool false, .slice none 0 0, .int .i64 0]) (t := 25) rfl rfl ?_; intro aE hg w13 hbox hb; replace ac := zA (R_below (ru ac.out) hb); have aF := zA (hbox); have ba := zx hg; replace HB := zf hb; have ao := zl a1 hg; have ap := zg a1 hg; replace a1 := zb a1 hb; have aq := zl a2 hg; have ar := zg a2 hg; replace a2 := zb a2 hb; have a3 := zl a4 hg; have au := zg a4 hg; replace a4 := zb a4 hb; clear hb hbox hg; have bb := ap.out; have bc := ao.out; have bd := ar.out; have be := aq.out; have bf := au.out; have bg := a3.out; obtain ⟨aR, aS, aT, aU, aV, aW⟩ := zc aF; obtain ⟨aw, ax, aQ⟩ := R_slice ac.out; subst aQ; obtain ⟨aX, aY, az, aZ, b1, b2⟩ := zc a4))
 refine bodyPost_ret (results_cell_row rfl _ _ ab 25 #[.bool false, .slice aw ah.length ax, .int .i64 av] (0, 0) _ rfl (by (with_reducible repeat (first | refine blk_drewN ?_ _ | refine blk_drew ?_ | refine blk_alloc ?_ _)); refine blk_put (cs := #[.bool false, .slice aw ah.length ax, .int .i64 0]) ?_ 2 _ rfl; refine blk_put (cs := #[.bool false, .slice none 0 0, .int .i64 0]) ?_ 1 _ rfl; refine blk_put (cs := #[.bool false, .slice none 0 0, .int .i64 0]) ?_ 0 _ rfl; refine blk_far ?_ a3.out _; refine blk_far ?_ a3.out _; refine blk_far ?_ a3.out _; refine blk_far ?_ a3.out _; exact a4.out) Tryd.underlying25 rfl (by kernel_rfl)) rfl ?_;exact ⟨_, er, ru (R_mono (R_far (p := ⟨ab, 2, none⟩) (R_far (p := ⟨ab, 1, none⟩) (R_far (p := ⟨ab, 0, none⟩) (R_far (p := ⟨aE, 0, none⟩) (zr aE (R_types (R_types ac.out aF.out (by decide)) a4.out (by decide)) (fun _ hk => hk.1.2) _ _ _) (fun _ hk => hk.1.2) (.bool false)) (fun _ hk => hk.2) (.bool false)) (fun _ hk => hk.2) (.slice aw ah.length ax)) (fun _ hk => hk.2) (.int .i64 av)) (fun _ hk => trivial)), zs⟩
def bits_number.f (a0 : Int) : Option (Bool) := (bits_amount.f a0).bind fun a1 => (some (decide (a1 ≤ 9218868437227405312)))
set_option maxHeartbeats 8000000 in
set_option maxRecDepth 100000 in
theorem bits_number.calls (a0 : Int) (r : Bool) (w : World) (h : bits_number.f a0 = some r) :
  Calls Tryd.prog 41 #[.int .u64 a0] w fun e w' => e = .returned (.bool r) ∧ Drawn0 w w' := by
 have H : ((bits_amount.f a0).bind fun a1 => (some (decide (a1 ≤ 9218868437227405312)))) = some r := h;clear h;obtain ⟨a1, A2, H⟩ := zh H;obtain rfl := Option.some.inj H;go_enter Tryd.func41, Tryd.ntmps41
 go_wp2_with (first | ((with_reducible refine zG 48 rfl ?_); refine zL (some 4) rfl rfl Tryd.func48 #[.int .u64 a0] rfl ?_; (with_reducible refine (bits_amount.calls a0 a1 _ A2.out).mono ?_); rintro e w' ⟨rfl, ⟨nd, rfl⟩⟩; refine ⟨_, rfl, ?_⟩))
 go_ret;exact ⟨by first | rfl | (simp; done) | (simp [*]; done), by repeat (first | exact Drawn0.refl _ | apply Drawn0.step)⟩
def bits_Up.j0 : Nat → Int → Bool → Option (Int)
 | 0, _, _ => none
 | k + 1, x0, x3 => if x3 = true then (some x0) else ((bits_amount.f x0).bind fun a1 => (if a1 = 0 then (some 1) else (if (Go.bits .and .u64 x0 9223372036854775808) = 0 then (some (IntKind.u64.wrap (x0 + 1))) else (some (IntKind.u64.wrap (x0 - 1))))))
def bits_Up.f (k : Nat) (a0 : Int) : Option (Int) := (bits_number.f a0).bind fun a1 => (if a1 = true then (bits_Up.j0 k a0 (a0 == 9218868437227405312)) else (bits_Up.j0 k a0 true))
set_option maxHeartbeats 8000000 in
set_option maxRecDepth 100000 in
theorem bits_Up.calls (k : Nat) (a0 : Int) (r : Int) (w : World) (h : bits_Up.f k a0 = some r) :
  Calls Tryd.prog 21 #[.int .u64 a0] w fun e w' => e = .returned (.int .u64 r) ∧ Drawn0 w w' := by
 have H : ((bits_number.f a0).bind fun a3 => (if a3 = true then (bits_Up.j0 k a0 (a0 == 9218868437227405312)) else (bits_Up.j0 k a0 true))) = some r := h;clear h;have a4 := zA H;clear H;go_enter Tryd.func21, Tryd.ntmps21
 go_upto_region 1 with (fail)
 go_cut [3] (fun v3 wc => ∃ (kq : Nat) (a1 : Bool), v3 = .bool a1 ∧ Aside0 (bits_Up.j0 kq a0 a1 = some r) ∧ Aside0 (kq ≤ k) ∧ Drawn0 w wc)
 case first =>
  have H := a4.out;clear a4;obtain ⟨a3, A3, H⟩ := zh H
  by_cases c4 : a3 = true
  ·subst c4;rw [if_pos rfl] at H;have H' := zA H;clear H
   go_wp2_with (first | ((with_reducible refine zG 41 rfl ?_); refine zL (some 5) rfl rfl Tryd.func41 #[.int .u64 a0] rfl ?_; (with_reducible refine (bits_number.calls a0 true _ A3.out).mono ?_); rintro e w' ⟨rfl, ⟨nd, rfl⟩⟩; refine ⟨_, rfl, ?_⟩))
   go_meet
   case rel => exact ⟨_, ((a0 == 9218868437227405312)), zi, H', ⟨by first | omega | exact Nat.le_refl _⟩, by repeat (first | exact Drawn0.refl _ | apply Drawn0.step)⟩
  replace c4 := Bool.eq_false_iff.mpr c4;subst c4;rw [if_neg (show ¬ (false = true) by decide)] at H;have H' := zA H;clear H
  go_wp2_with (first | ((with_reducible refine zG 41 rfl ?_); refine zL (some 5) rfl rfl Tryd.func41 #[.int .u64 a0] rfl ?_; (with_reducible refine (bits_number.calls a0 false _ A3.out).mono ?_); rintro e w' ⟨rfl, ⟨nd, rfl⟩⟩; refine ⟨_, rfl, ?_⟩))
  go_meet
  case rel => exact ⟨_, (true), zi, H', ⟨by first | omega | exact Nat.le_refl _⟩, by repeat (first | exact Drawn0.refl _ | apply Drawn0.step)⟩
 case rest =>
  clear a4
  try clear c2
  try clear c4
  obtain ⟨kq, a1, rfl, HA, a9, ⟨mc1, rfl⟩⟩ := hcut
  cases kq with
  | zero => exact absurd HA.out (by simp [bits_Up.j0])
  | succ aa =>
   have H := HA.out;clear HA;simp only [bits_Up.j0] at H
   by_cases c5 : a1 = true
   ·subst c5;rw [if_pos rfl] at H;obtain rfl := Option.some.inj H
    go_wp2
    go_ret;exact ⟨by first | rfl | (simp; done) | (simp [*]; done), by repeat (first | exact Drawn0.refl _ | apply Drawn0.step)⟩
   replace c5 := Bool.eq_false_iff.mpr c5;subst c5;rw [if_neg (show ¬ (false = true) by decide)] at H;obtain ⟨a2, A6, H⟩ := zh H
   by_cases c7 : a2 = 0
   ·rw [if_pos c7] at H;have a5 := beq_iff_eq.mpr c7;have a6 := bne_eq_false_iff_eq.mpr c7;clear c7;obtain rfl := Option.some.inj H
    go_wp2_with (first | ((with_reducible refine zG 48 rfl ?_); refine zL (some 14) rfl rfl Tryd.func48 #[.int .u64 a0] rfl ?_; (with_reducible refine (bits_amount.calls a0 a2 _ A6.out).mono ?_); rintro e w' ⟨rfl, ⟨nd, rfl⟩⟩; refine ⟨_, rfl, ?_⟩))
    go_ret;exact ⟨by first | rfl | (simp; done) | (simp [*]; done), by repeat (first | exact Drawn0.refl _ | apply Drawn0.step)⟩
   rw [if_neg c7] at H;have a5 := beq_eq_false_iff_ne.mpr c7;have a6 := bne_iff_ne.mpr c7
   by_cases c8 : (Go.bits .and .u64 a0 9223372036854775808) = 0
   ·rw [if_pos c8] at H;have a7 := beq_iff_eq.mpr c8;have a8 := bne_eq_false_iff_eq.mpr c8;clear c8;obtain rfl := Option.some.inj H
    go_wp2_with (first | ((with_reducible refine zG 48 rfl ?_); refine zL (some 14) rfl rfl Tryd.func48 #[.int .u64 a0] rfl ?_; (with_reducible refine (bits_amount.calls a0 a2 _ A6.out).mono ?_); rintro e w' ⟨rfl, ⟨nd, rfl⟩⟩; refine ⟨_, rfl, ?_⟩))
    go_ret;exact ⟨by first | rfl | (simp; done) | (simp [*]; done), by repeat (first | exact Drawn0.refl _ | apply Drawn0.step)⟩
   rw [if_neg c8] at H;have a7 := beq_eq_false_iff_ne.mpr c8;have a8 := bne_iff_ne.mpr c8;obtain rfl := Option.some.inj H
   go_wp2_with (first | ((with_reducible refine zG 48 rfl ?_); refine zL (some 14) rfl rfl Tryd.func48 #[.int .u64 a0] rfl ?_; (with_reducible refine (bits_amount.calls a0 a2 _ A6.out).mono ?_); rintro e w' ⟨rfl, ⟨nd, rfl⟩⟩; refine ⟨_, rfl, ?_⟩))
   go_ret;exact ⟨by first | rfl | (simp; done) | (simp [*]; done), by repeat (first | exact Drawn0.refl _ | apply Drawn0.step)⟩
def bits_Down.j0 : Nat → Int → Bool → Option (Int)
 | 0, _, _ => none
 | k + 1, x0, x3 => if x3 = true then (some x0) else ((bits_amount.f x0).bind fun a1 => (if a1 = 0 then (some 9223372036854775809) else (if (Go.bits .and .u64 x0 9223372036854775808) = 0 then (some (IntKind.u64.wrap (x0 - 1))) else (some (IntKind.u64.wrap (x0 + 1))))))
def bits_Down.f (k : Nat) (a0 : Int) : Option (Int) := (bits_number.f a0).bind fun a1 => (if a1 = true then (bits_Down.j0 k a0 (a0 == 18442240474082181120)) else (bits_Down.j0 k a0 true))
set_option maxHeartbeats 8000000 in
set_option maxRecDepth 100000 in
theorem bits_Down.calls (k : Nat) (a0 : Int) (r : Int) (w : World) (h : bits_Down.f k a0 = some r) :
  Calls Tryd.prog 22 #[.int .u64 a0] w fun e w' => e = .returned (.int .u64 r) ∧ Drawn0 w w' := by
 have H : ((bits_number.f a0).bind fun a3 => (if a3 = true then (bits_Down.j0 k a0 (a0 == 18442240474082181120)) else (bits_Down.j0 k a0 true))) = some r := h;clear h;have a4 := zA H;clear H;go_enter Tryd.func22, Tryd.ntmps22
 go_upto_region 1 with (fail)
 go_cut [3] (fun v3 wc => ∃ (kq : Nat) (a1 : Bool), v3 = .bool a1 ∧ Aside0 (bits_Down.j0 kq a0 a1 = some r) ∧ Aside0 (kq ≤ k) ∧ Drawn0 w wc)
 case first =>
  have H := a4.out;clear a4;obtain ⟨a3, A3, H⟩ := zh H
  by_cases c4 : a3 = true
  ·subst c4;rw [if_pos rfl] at H;have H' := zA H;clear H
   go_wp2_with (first | ((with_reducible refine zG 41 rfl ?_); refine zL (some 5) rfl rfl Tryd.func41 #[.int .u64 a0] rfl ?_; (with_reducible refine (bits_number.calls a0 true _ A3.out).mono ?_); rintro e w' ⟨rfl, ⟨nd, rfl⟩⟩; refine ⟨_, rfl, ?_⟩))
   go_meet
   case rel => exact ⟨_, ((a0 == 18442240474082181120)), zi, H', ⟨by first | omega | exact Nat.le_refl _⟩, by repeat (first | exact Drawn0.refl _ | apply Drawn0.step)⟩
  replace c4 := Bool.eq_false_iff.mpr c4;subst c4;rw [if_neg (show ¬ (false = true) by decide)] at H;have H' := zA H;clear H
  go_wp2_with (first | ((with_reducible refine zG 41 rfl ?_); refine zL (some 5) rfl rfl Tryd.func41 #[.int .u64 a0] rfl ?_; (with_reducible refine (bits_number.calls a0 false _ A3.out).mono ?_); rintro e w' ⟨rfl, ⟨nd, rfl⟩⟩; refine ⟨_, rfl, ?_⟩))
  go_meet
  case rel => exact ⟨_, (true), zi, H', ⟨by first | omega | exact Nat.le_refl _⟩, by repeat (first | exact Drawn0.refl _ | apply Drawn0.step)⟩
 case rest =>
  clear a4
  try clear c2
  try clear c4
  obtain ⟨kq, a1, rfl, HA, a9, ⟨mc1, rfl⟩⟩ := hcut
  cases kq with
  | zero => exact absurd HA.out (by simp [bits_Down.j0])
  | succ aa =>
   have H := HA.out;clear HA;simp only [bits_Down.j0] at H
   by_cases c5 : a1 = true
   ·subst c5;rw [if_pos rfl] at H;obtain rfl := Option.some.inj H
    go_wp2
    go_ret;exact ⟨by first | rfl | (simp; done) | (simp [*]; done), by repeat (first | exact Drawn0.refl _ | apply Drawn0.step)⟩
   replace c5 := Bool.eq_false_iff.mpr c5;subst c5;rw [if_neg (show ¬ (false = true) by decide)] at H;obtain ⟨a2, A6, H⟩ := zh H
   by_cases c7 : a2 = 0
   ·rw [if_pos c7] at H;have a5 := beq_iff_eq.mpr c7;have a6 := bne_eq_false_iff_eq.mpr c7;clear c7;obtain rfl := Option.some.inj H
    go_wp2_with (first | ((with_reducible refine zG 48 rfl ?_); refine zL (some 14) rfl rfl Tryd.func48 #[.int .u64 a0] rfl ?_; (with_reducible refine (bits_amount.calls a0 a2 _ A6.out).mono ?_); rintro e w' ⟨rfl, ⟨nd, rfl⟩⟩; refine ⟨_, rfl, ?_⟩))
    go_ret;exact ⟨by first | rfl | (simp; done) | (simp [*]; done), by repeat (first | exact Drawn0.refl _ | apply Drawn0.step)⟩
   rw [if_neg c7] at H;have a5 := beq_eq_false_iff_ne.mpr c7;have a6 := bne_iff_ne.mpr c7
   by_cases c8 : (Go.bits .and .u64 a0 9223372036854775808) = 0
   ·rw [if_pos c8] at H;have a7 := beq_iff_eq.mpr c8;have a8 := bne_eq_false_iff_eq.mpr c8;clear c8;obtain rfl := Option.some.inj H
    go_wp2_with (first | ((with_reducible refine zG 48 rfl ?_); refine zL (some 14) rfl rfl Tryd.func48 #[.int .u64 a0] rfl ?_; (with_reducible refine (bits_amount.calls a0 a2 _ A6.out).mono ?_); rintro e w' ⟨rfl, ⟨nd, rfl⟩⟩; refine ⟨_, rfl, ?_⟩))
    go_ret;exact ⟨by first | rfl | (simp; done) | (simp [*]; done), by repeat (first | exact Drawn0.refl _ | apply Drawn0.step)⟩
   rw [if_neg c8] at H;have a7 := beq_eq_false_iff_ne.mpr c8;have a8 := bne_iff_ne.mpr c8;obtain rfl := Option.some.inj H
   go_wp2_with (first | ((with_reducible refine zG 48 rfl ?_); refine zL (some 14) rfl rfl Tryd.func48 #[.int .u64 a0] rfl ?_; (with_reducible refine (bits_amount.calls a0 a2 _ A6.out).mono ?_); rintro e w' ⟨rfl, ⟨nd, rfl⟩⟩; refine ⟨_, rfl, ?_⟩))
   go_ret;exact ⟨by first | rfl | (simp; done) | (simp [*]; done), by repeat (first | exact Drawn0.refl _ | apply Drawn0.step)⟩
end Go.Proofs.YtnjfckadjklmfaaDoor.PAll
