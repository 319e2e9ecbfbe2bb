/- Printed functions, merged by a program of this session. -/
import Derived.Test.YtemfckibdojbbaaDoorXDyadExactP0
import Derived.Test.YtemfckibdojbbaaDoorXDyadExactP4
import Derived.Test.YtemfckibdojbbaaDoorXDyadExactP1
import Derived.Test.YtemfckibdojbbaaDoorXDyadExactP2
import Derived.Test.YtemfckibdojbbaaDoorXDyadExactP3
import Derived.Test.YtemfckibdojbbaaDoorXDyadExactP7
import Derived.Test.YtemfckibdojbbaaDoorXDyadExactP8
import Derived.Laws.StructEq
import Derived.Test.YtemfckibdojbbaaDoorXDyadExactSh
namespace Go.Proofs.YtemfckibdojbbaaDoor.PAll
open Go.RowKit Go.Proofs.YtemfckibdojbbaaDoorW.PrintWords Go.Proofs.YtemfckibdojbbaaDoorW.PrintLast Go.Proofs.YtemfckibdojbbaaDoorW.PrintMore Go.Proofs.YtemfckibdojbbaaDoorW.PrintWords.Kd
attribute [local go_sem] max2_int min2_int max_two min_two max_three min_three max_four min_four   -- for this text's walks alone
set_option linter.unusedVariables false
set_option linter.unusedSimpArgs false
attribute [local go_sem] ext135 ext136
mutual
def raw_Add.j0 : Nat → Bool → List Int → Int → Bool → List Int → Int → Option (Bool × List Int × Int)
 | 0, _, _, _, _, _, _ => none
 | k + 1, x221000, x221001, x221002, x222000, x222001, x222002 => (raw_amounts.f k x221000 x221001 x221002 x222000 x222001 x222002).bind fun bt235 => (if (x221000 == x222000) = true then ((limbs_Add.f k bt235.1 bt235.2.1).bind fun t242 => ((raw_Form.f k x221000 t242 bt235.2.2).bind fun bt245 => (some (bt245.1, bt245.2.1, bt245.2.2)))) else (raw_Add.j1 k bt235.1 bt235.2.1 bt235.2.2 x221000 x221001 x221002 x222000 x222001 x222002))
def raw_Add.j1 : Nat → List Int → List Int → Int → Bool → List Int → Int → Bool → List Int → Int → Option (Bool × List Int × Int)
 | 0, _, _, _, _, _, _, _, _, _ => none
 | k + 1, x5, x6, x7, x221000, x221001, x221002, x222000, x222001, x222002 => (limbs_Cmp.f k x5 x6).bind fun t250 => (if t250 ≥ 0 then ((limbs_Sub.f k x5 x6).bind fun t251 => ((raw_Form.f k x221000 t251 x7).bind fun bt254 => (some (bt254.1, bt254.2.1, bt254.2.2)))) else ((limbs_Sub.f k x6 x5).bind fun t259 => ((raw_Form.f k x222000 t259 x7).bind fun bt262 => (some (bt262.1, bt262.2.1, bt262.2.2)))))
end
def raw_Add.f (k : Nat) (a0_0 : Bool) (l0_1 : List Int) (a0_2 : Int) (a1_0 : Bool) (l1_1 : List Int) (a1_2 : Int) : Option (Bool × List Int × Int) := (raw_One.f k a0_0 l0_1 a0_2).bind fun bt223 => ((raw_One.f k a1_0 l1_1 a1_2).bind fun bt228 => ((raw_Zero.f k bt223.1 bt223.2.1 bt223.2.2).bind fun t233 => (if t233 = true then (some (bt228.1, bt228.2.1, bt228.2.2)) else ((raw_Zero.f k bt228.1 bt228.2.1 bt228.2.2).bind fun t234 => (if t234 = true then (some (bt223.1, bt223.2.1, bt223.2.2)) else (raw_Add.j0 k bt223.1 bt223.2.1 bt223.2.2 bt228.1 bt228.2.1 bt228.2.2))))))
theorem raw_Add.mono_l : ∀ k, (∀ y0 y1 y2 y3 y4 y5, LeO (raw_Add.j0 k y0 y1 y2 y3 y4 y5) (raw_Add.j0 (k + 1) y0 y1 y2 y3 y4 y5)) ∧ (∀ y0 y1 y2 y3 y4 y5 y6 y7 y8, LeO (raw_Add.j1 k y0 y1 y2 y3 y4 y5 y6 y7 y8) (raw_Add.j1 (k + 1) y0 y1 y2 y3 y4 y5 y6 y7 y8))
 | 0 => ⟨fun _ _ _ _ _ _ r h => by simp [raw_Add.j0] at h, fun _ _ _ _ _ _ _ _ _ r h => by simp [raw_Add.j1] at h⟩
 | k + 1 => by
  obtain ⟨ih0, ih1⟩ := raw_Add.mono_l k
  refine ⟨?_, ?_⟩
  ·intro y0 y1 y2 y3 y4 y5
   unfold raw_Add.j0
   repeat' first
   | (with_reducible exact ih0 _ _ _ _ _ _)
   | (with_reducible exact ih1 _ _ _ _ _ _ _ _ _)
   | (with_reducible exact limbs_Add.mono _ _ _)
   | (with_reducible exact limbs_Cmp.mono _ _ _)
   | (with_reducible exact limbs_Sub.mono _ _ _)
   | (with_reducible exact raw_Form.mono _ _ _ _)
   | (with_reducible exact raw_One.mono _ _ _ _)
   | (with_reducible exact raw_Zero.mono _ _ _ _)
   | (with_reducible exact raw_amounts.mono _ _ _ _ _ _ _)
   | (with_reducible exact LeO.refl _)
   | (with_reducible exact LeO.none _)
   | (with_reducible refine LeO.ite ?_ ?_)
   | (with_reducible refine LeO.bind ?_ (fun _ => ?_))
   | exact ih0 _ _ _ _ _ _
   | exact ih1 _ _ _ _ _ _ _ _ _
   | exact limbs_Add.mono _ _ _
   | exact limbs_Cmp.mono _ _ _
   | exact limbs_Sub.mono _ _ _
   | exact raw_Form.mono _ _ _ _
   | exact raw_One.mono _ _ _ _
   | exact raw_Zero.mono _ _ _ _
   | exact raw_amounts.mono _ _ _ _ _ _ _
   | exact LeO.none _
   | refine LeO.ite ?_ ?_
   | refine LeO.bind ?_ (fun _ => ?_)
  intro y0 y1 y2 y3 y4 y5 y6 y7 y8
  unfold raw_Add.j1
  repeat' first
  | (with_reducible exact ih0 _ _ _ _ _ _)
  | (with_reducible exact ih1 _ _ _ _ _ _ _ _ _)
  | (with_reducible exact limbs_Add.mono _ _ _)
  | (with_reducible exact limbs_Cmp.mono _ _ _)
  | (with_reducible exact limbs_Sub.mono _ _ _)
  | (with_reducible exact raw_Form.mono _ _ _ _)
  | (with_reducible exact raw_One.mono _ _ _ _)
  | (with_reducible exact raw_Zero.mono _ _ _ _)
  | (with_reducible exact raw_amounts.mono _ _ _ _ _ _ _)
  | (with_reducible exact LeO.refl _)
  | (with_reducible exact LeO.none _)
  | (with_reducible refine LeO.ite ?_ ?_)
  | (with_reducible refine LeO.bind ?_ (fun _ => ?_))
  | exact ih0 _ _ _ _ _ _
  | exact ih1 _ _ _ _ _ _ _ _ _
  | exact limbs_Add.mono _ _ _
  | exact limbs_Cmp.mono _ _ _
  | exact limbs_Sub.mono _ _ _
  | exact raw_Form.mono _ _ _ _
  | exact raw_One.mono _ _ _ _
  | exact raw_Zero.mono _ _ _ _
  | exact raw_amounts.mono _ _ _ _ _ _ _
  | exact LeO.none _
  | refine LeO.ite ?_ ?_
  | refine LeO.bind ?_ (fun _ => ?_)
theorem raw_Add.mono : ∀ a0 a1 a2 a3 a4 a5 k, LeO (raw_Add.f k a0 a1 a2 a3 a4 a5) (raw_Add.f (k + 1) a0 a1 a2 a3 a4 a5) := by
 intro a0 a1 a2 a3 a4 a5 k
 obtain ⟨ih0, ih1⟩ := raw_Add.mono_l k
 unfold raw_Add.f
 repeat' first
   | (with_reducible exact ih0 _ _ _ _ _ _)
   | (with_reducible exact ih1 _ _ _ _ _ _ _ _ _)
   | (with_reducible exact limbs_Add.mono _ _ _)
   | (with_reducible exact limbs_Cmp.mono _ _ _)
   | (with_reducible exact limbs_Sub.mono _ _ _)
   | (with_reducible exact raw_Form.mono _ _ _ _)
   | (with_reducible exact raw_One.mono _ _ _ _)
   | (with_reducible exact raw_Zero.mono _ _ _ _)
   | (with_reducible exact raw_amounts.mono _ _ _ _ _ _ _)
   | (with_reducible exact LeO.refl _)
   | (with_reducible exact LeO.none _)
   | (with_reducible refine LeO.ite ?_ ?_)
   | (with_reducible refine LeO.bind ?_ (fun _ => ?_))
   | exact ih0 _ _ _ _ _ _
   | exact ih1 _ _ _ _ _ _ _ _ _
   | exact limbs_Add.mono _ _ _
   | exact limbs_Cmp.mono _ _ _
   | exact limbs_Sub.mono _ _ _
   | exact raw_Form.mono _ _ _ _
   | exact raw_One.mono _ _ _ _
   | exact raw_Zero.mono _ _ _ _
   | exact raw_amounts.mono _ _ _ _ _ _ _
   | exact LeO.none _
   | refine LeO.ite ?_ ?_
   | refine LeO.bind ?_ (fun _ => ?_)
def raw_Add.T8 : Bool × List (List Nat × List Nat) := (true, [([], []), ([0], [0]), ([], []), ([], []), ([2, 3], [2, 3]), ([], []), ([1, 4, 5, 4], [1, 4, 5]), ([6, 6, 0, 1, 2, 3, 4, 5, 6], [6])])
def raw_Add.B8 : List Nat := [0, 1, 0, 0, 12, 0, 63, 127]
theorem raw_Add.tab8 : rtab .any (opsOf Tryd.f62 8) = raw_Add.T8 := by kernel_rfl
theorem raw_Add.bits8 : waitsOk raw_Add.T8.2 raw_Add.B8 = true := by kernel_rfl
def raw_Add.T10 : Bool × List (List Nat × List Nat) := (true, [([], []), ([0], [0]), ([], []), ([], []), ([2, 3], [2, 3]), ([], []), ([1, 4, 5, 4], [1, 4, 5]), ([6, 6, 0, 1, 2, 3, 4, 5, 6], [6])])
def raw_Add.B10 : List Nat := [0, 1, 0, 0, 12, 0, 63, 127]
theorem raw_Add.tab10 : rtab .any (opsOf Tryd.f62 10) = raw_Add.T10 := by kernel_rfl
theorem raw_Add.bits10 : waitsOk raw_Add.T10.2 raw_Add.B10 = true := by kernel_rfl
def raw_Add.T11 : Bool × List (List Nat × List Nat) := (true, [([], []), ([0], [0]), ([], []), ([], []), ([2, 3], [2, 3]), ([], []), ([1, 4, 5, 4], [1, 4, 5]), ([6, 6, 0, 1, 2, 3, 4, 5, 6], [6])])
def raw_Add.B11 : List Nat := [0, 1, 0, 0, 12, 0, 63, 127]
theorem raw_Add.tab11 : rtab .any (opsOf Tryd.f62 11) = raw_Add.T11 := by kernel_rfl
theorem raw_Add.bits11 : waitsOk raw_Add.T11.2 raw_Add.B11 = true := by kernel_rfl
set_option maxHeartbeats 8000000 in
set_option maxRecDepth 100000 in
theorem raw_Add.calls (k : Nat) (a0_0 : Bool) (P0_1_ : Nat → Prop) (A0_1 : Option Addr) (c0_1 : Nat) (l0_1 : List Int) (a0_2 : Int) (a1_0 : Bool) (P1_1_ : Nat → Prop) (A1_1 : Option Addr) (c1_1 : Nat) (l1_1 : List Int) (a1_2 : Int) (r1 : Bool) (r2 : List Int) (r3 : Int) (w : World) (hs0_1 : Kd.V (Kd.int .u64) 43 w w.heap.size (fun k_ => P0_1_ k_) (.slice A0_1 l0_1.length c0_1) l0_1) (hs1_1 : Kd.V (Kd.int .u64) 43 w w.heap.size (fun k_ => P1_1_ k_) (.slice A1_1 l1_1.length c1_1) l1_1) (hT : Laid w) (h : raw_Add.f k a0_0 l0_1 a0_2 a1_0 l1_1 a1_2 = some (r1, r2, r3)) :
  Calls Tryd.prog 62 #[.agg #[.bool a0_0, .slice A0_1 l0_1.length c0_1, .int .i64 a0_2], .agg #[.bool a1_0, .slice A1_1 l1_1.length c1_1, .int .i64 a1_2]] w fun e w' => ∃ v1_ : Value, e = .returned (.agg #[.bool r1, v1_, .int .i64 r3]) ∧ Kd.V (Kd.int .u64) 43 w' w.heap.size (fun k_ => ((P0_1_ k_ ∨ P1_1_ k_) ∨ w.heap.size ≤ k_)) v1_ r2 ∧ Below w.heap.size w w' := by
 have hu25 := Tryd.underlying25
 have HO0_1 := zA (show Kd.V (Kd.int .u64) 43 w w.heap.size (fun k_ => ((P0_1_ k_ ∨ P1_1_ k_) ∨ w.heap.size ≤ k_)) (.slice A0_1 l0_1.length c0_1) l0_1 from V_mono hs0_1 (fun k_ hk => .inl (.inl hk)))
 have HO1_1 := zA (show Kd.V (Kd.int .u64) 43 w w.heap.size (fun k_ => ((P0_1_ k_ ∨ P1_1_ k_) ∨ w.heap.size ≤ k_)) (.slice A1_1 l1_1.length c1_1) l1_1 from V_mono hs1_1 (fun k_ hk => .inl (.inr hk)))
 have HB := zA (Below.refl w.heap.size w)
 have H : ((raw_One.f k a0_0 l0_1 a0_2).bind fun bt223 => ((raw_One.f k a1_0 l1_1 a1_2).bind fun bt228 => ((raw_Zero.f k bt223.1 bt223.2.1 bt223.2.2).bind fun t233 => (if t233 = true then (some (bt228.1, bt228.2.1, bt228.2.2)) else ((raw_Zero.f k bt228.1 bt228.2.1 bt228.2.2).bind fun t234 => (if t234 = true then (some (bt223.1, bt223.2.1, bt223.2.2)) else (raw_Add.j0 k bt223.1 bt223.2.1 bt223.2.2 bt228.1 bt228.2.1 bt228.2.2))))))) = some (r1, r2, r3) := h
 clear h
 obtain ⟨⟨t223, t224, t227⟩, A3, H⟩ := zh H
 (try dsimp only at H)
 obtain ⟨⟨t228, t229, t232⟩, A4, H⟩ := zh H
 (try dsimp only at H)
 have HC5 := zA H
 clear H
 go_enter Tryd.func62, Tryd.ntmps62
 try go_wp2_with (first | ((with_reducible refine zD 2 rfl ?_); refine zn (N := 2) (cs := #[.bool a0_0, .slice A0_1 l0_1.length c0_1, .int .i64 a0_2]) (t := 25) rfl rfl ?_; intro gb220 hg w6 hbox hb; replace HO0_1 := zA (V_below (V_elderB (vu HO0_1.out) gb220 (Nat.le_of_eq hg.symm)) hb); replace HO1_1 := zA (V_below (V_elderB (vu HO1_1.out) gb220 (Nat.le_of_eq hg.symm)) hb); have BK220 := zA (hbox); have GW220 := zw hg; replace HB := ze hb; clear hb hbox hg) | ((with_reducible refine zD 3 rfl ?_); refine zn (N := 3) (cs := #[.bool a1_0, .slice A1_1 l1_1.length c1_1, .int .i64 a1_2]) (t := 25) rfl rfl ?_; intro gb221 hg w7 hbox hb; replace HO0_1 := zA (V_below (V_elderB (vu HO0_1.out) gb221 (Nat.le_of_eq hg.symm)) hb); replace HO1_1 := zA (V_below (V_elderB (vu HO1_1.out) gb221 (Nat.le_of_eq hg.symm)) hb); have BK221 := zA (hbox); have GW221 := zx hg; replace HB := zf hb; have NB220_221 := zl BK220 hg; have NB221_220 := zg BK220 hg; replace BK220 := zb BK220 hb; clear hb hbox hg) | ((with_reducible refine zD 4 rfl ?_); refine zn (N := 4) (cs := #[.bool false, .slice none 0 0, .int .i64 0]) (t := 25) rfl rfl ?_; intro gb222 hg w8 hbox hb; replace HO0_1 := zA (V_below (V_elderB (vu HO0_1.out) gb222 (Nat.le_of_eq hg.symm)) hb); replace HO1_1 := zA (V_below (V_elderB (vu HO1_1.out) gb222 (Nat.le_of_eq hg.symm)) hb); have BK222 := zA (hbox); have GW222 := zx hg; replace HB := zf hb; have NB220_222 := zl BK220 hg; have NB222_220 := zg BK220 hg; replace BK220 := zb BK220 hb; have NB221_222 := zl BK221 hg; have NB222_221 := zg BK221 hg; replace BK221 := zb BK221 hb; clear hb hbox hg))
 replace HO0_1 := zA (V_drew HO0_1.out)
 replace HO1_1 := zA (V_drew HO1_1.out)
 replace BK220 := zA (blk_drew BK220.out)
 replace BK221 := zA (blk_drew BK221.out)
 replace BK222 := zA (blk_drew BK222.out)
 replace HB := zA (below_drew1 HB.out)
 refine start_ (n := 6) (S := fun w' => z4 w' gb220 (.bool a0_0) (.slice A0_1 l0_1.length c0_1) (.int .i64 a0_2) (z3 w' gb221 (.bool a1_0) (.slice A1_1 l1_1.length c1_1) (.int .i64 a1_2))) (ds := [4, 5]) #[false, false, false, false, false, false] (by kernel_rfl) rfl rfl (za BK220 (zz BK221)) (fun hHeld => ?_)
 generalize w8.drew = w9 at HO0_1 HO1_1 BK220 BK221 BK222 HB hHeld ⊢
 refine take_ (i := 0) (N := some 8) (v := ?_) (a' := ?_) #[true, false, false, false, false, false] rfl rfl (by kernel_rfl) (fun _ _ _ h => h) (Or.inl ⟨by rfl, ?_⟩) hHeld ?_ ?_
 rotate_left
 ·rintro w' ⟨s0, s1, s2, s3, s4, s5⟩
  go_simp
  with_reducible rfl
 rotate_left
 ·exact zq
 refine take_ (i := 2) (N := some 10) (v := ?_) (a' := ?_) #[true, false, true, false, false, false] rfl rfl (by kernel_rfl) (fun _ _ _ h => h) (Or.inl ⟨by rfl, ?_⟩) hHeld ?_ ?_
 rotate_left
 ·rintro w' ⟨s0, s1, s2, s3, s4, s5⟩
  go_simp
  with_reducible rfl
 rotate_left
 ·exact zq
 refine one_ (i := 1) (N := some 9) #[true, true, true, false, false, false] rfl rfl (by kernel_rfl) (by decide) (fun K hK => ?_)
 refine goes_ Tryd.func95 (by kernel_rfl) rfl #[.agg #[.bool a0_0, .slice A0_1 l0_1.length c0_1, .int .i64 a0_2]] (by rfl) rfl rfl ga ?_
 with_reducible refine (raw_One.calls k a0_0 (fun k_ => (((((P0_1_ k_ ∨ P1_1_ k_) ∨ w.heap.size ≤ k_) ∧ k_ ≠ gb220) ∧ k_ ≠ gb221) ∧ k_ ≠ gb222)) _ _ l0_1 a0_2 t223 t224 t227 _ ?side1 (laid_below hT zs) A3.out).mono ?_
 (case side1 => exact HO0_1.out)
 rintro e w10 ⟨v225, rfl, ho0, hb⟩
 refine ⟨_, rfl, ?_⟩
 replace HO0_1 := zA (V_below (vu HO0_1.out) hb)
 replace HO1_1 := zA (V_below (vu HO1_1.out) hb)
 have HO226 := zA (V_lower (V_mono (ok' := fun k_ => ((P0_1_ k_ ∨ P1_1_ k_) ∨ w.heap.size ≤ k_) ∧ k_ ≠ gb220 ∧ k_ ≠ gb221 ∧ k_ ≠ gb222) ho0 (fun k_ hk_ => ⟨Or.elim hk_ (fun hs_ => hs_.1.1.1) (fun hn_ => (.inr (Nat.le_trans (below_size zs) hn_))), Or.elim hk_ (fun hs_ => hs_.1.1.2) (fun hn_ => (zj BK220 k_ hn_)), Or.elim hk_ (fun hs_ => hs_.1.2) (fun hn_ => (zj BK221 k_ hn_)), Or.elim hk_ (fun hs_ => hs_.2) (fun hn_ => (zj BK222 k_ hn_))⟩)) (below_size zs))
 replace BK220 := zb BK220 hb
 replace BK221 := zb BK221 hb
 replace BK222 := zb BK222 hb
 replace HB := zf hb
 (try clear hb)
 (try clear hb2)
 (try clear hk)
 (try clear hi)
 (try clear ho0)
 refine hK.out _ _ (za BK220 (zz BK221)) (fun hHeld => ?_)
 clear hK K
 refine norm_ (a' := ?_) ?_ ?_
 rotate_left
 ·show Act.put _ (some 9) _ = _
  simp only [Act.put, List.setIfInBounds_toArray, List.set_cons_zero, List.set_cons_succ, i64_w, i32_w]
  rfl
 refine one_ (i := 3) (N := some 11) #[true, true, true, true, false, false] rfl rfl (by kernel_rfl) (by decide) (fun K hK => ?_)
 refine goes_ Tryd.func95 (by kernel_rfl) rfl #[.agg #[.bool a1_0, .slice A1_1 l1_1.length c1_1, .int .i64 a1_2]] (by rfl) rfl rfl ga ?_
 with_reducible refine (raw_One.calls k a1_0 (fun k_ => (((((P0_1_ k_ ∨ P1_1_ k_) ∨ w.heap.size ≤ k_) ∧ k_ ≠ gb220) ∧ k_ ≠ gb221) ∧ k_ ≠ gb222)) _ _ l1_1 a1_2 t228 t229 t232 _ ?side1 (laid_below hT zs) A4.out).mono ?_
 (case side1 => exact HO1_1.out)
 rintro e w11 ⟨v230, rfl, ho0, hb⟩
 refine ⟨_, rfl, ?_⟩
 replace HO0_1 := zA (V_below (vu HO0_1.out) hb)
 replace HO1_1 := zA (V_below (vu HO1_1.out) hb)
 replace HO226 := zA (V_below (vu HO226.out) hb)
 have HO231 := zA (V_lower (V_mono (ok' := fun k_ => ((P0_1_ k_ ∨ P1_1_ k_) ∨ w.heap.size ≤ k_) ∧ k_ ≠ gb220 ∧ k_ ≠ gb221 ∧ k_ ≠ gb222) ho0 (fun k_ hk_ => ⟨Or.elim hk_ (fun hs_ => hs_.1.1.1) (fun hn_ => (.inr (Nat.le_trans (below_size zs) hn_))), Or.elim hk_ (fun hs_ => hs_.1.1.2) (fun hn_ => (zj BK220 k_ hn_)), Or.elim hk_ (fun hs_ => hs_.1.2) (fun hn_ => (zj BK221 k_ hn_)), Or.elim hk_ (fun hs_ => hs_.2) (fun hn_ => (zj BK222 k_ hn_))⟩)) (below_size zs))
 replace BK220 := zb BK220 hb
 replace BK221 := zb BK221 hb
 replace BK222 := zb BK222 hb
 replace HB := zf hb
 (try clear hb)
 (try clear hb2)
 (try clear hk)
 (try clear hi)
 (try clear ho0)
 obtain ⟨Ao13, co13, eo13⟩ := V_slice HO226.out
 (first | subst eo13 | (injection eo13 with f1_ f2_ f3_; have f4_ := f1_.symm; have f5_ := f3_.symm; clear f1_ f2_ f3_; subst f4_; subst f5_))
 obtain ⟨Ao17, co17, eo17⟩ := V_slice HO231.out
 (first | subst eo17 | (injection eo17 with f1_ f2_ f3_; have f4_ := f1_.symm; have f5_ := f3_.symm; clear f1_ f2_ f3_; subst f4_; subst f5_))
 refine hK.out _ _ (za BK220 (zz BK221)) (fun hHeld => ?_)
 clear hK K
 refine norm_ (a' := ?_) ?_ ?_
 rotate_left
 ·show Act.put _ (some 11) _ = _
  simp only [Act.put, List.setIfInBounds_toArray, List.set_cons_zero, List.set_cons_succ, i64_w, i32_w]
  rfl
 refine last_ (i := 4) (N := none) #[true, true, true, true, true, false] rfl rfl (by kernel_rfl) (by decide) (fun K hK => ?_)
 have hs12 : w11.cell? ⟨gb220, 0, none⟩ = some (.bool a0_0) := (blk_cell BK220.out 0).trans rfl
 have hfs12 := blk_frozen BK220.out 0
 have hns12_1 := NB221_220.out
 have hns12_2 := NB222_220.out
 have hms12_1 := NB220_221.out
 have hms12_2 := NB220_222.out
 have hs14 : w11.cell? ⟨gb220, 1, none⟩ = some (.slice A0_1 l0_1.length c0_1) := (blk_cell BK220.out 1).trans rfl
 have hfs14 := blk_frozen BK220.out 1
 have hns14_1 := NB221_220.out
 have hns14_2 := NB222_220.out
 have hms14_1 := NB220_221.out
 have hms14_2 := NB220_222.out
 have hs15 : w11.cell? ⟨gb220, 2, none⟩ = some (.int .i64 a0_2) := (blk_cell BK220.out 2).trans rfl
 have hfs15 := blk_frozen BK220.out 2
 have hns15_1 := NB221_220.out
 have hns15_2 := NB222_220.out
 have hms15_1 := NB220_221.out
 have hms15_2 := NB220_222.out
 refine skip_ (w1 := ?_) (by rfl) rfl ?_ ?_
 rotate_left
 ·go_simp
  rfl
 refine hK.out _ _ ?_
 clear hK K
 refine last_ (i := 5) (N := none) #[true, true, true, true, true, true] rfl rfl (by kernel_rfl) (by decide) (fun K hK => ?_)
 have hs16 : w11.cell? ⟨gb221, 0, none⟩ = some (.bool a1_0) := (blk_cell BK221.out 0).trans rfl
 have hfs16 := blk_frozen BK221.out 0
 have hns16_0 := NB220_221.out
 have hns16_2 := NB222_221.out
 have hms16_0 := NB221_220.out
 have hms16_2 := NB221_222.out
 have hs18 : w11.cell? ⟨gb221, 1, none⟩ = some (.slice A1_1 l1_1.length c1_1) := (blk_cell BK221.out 1).trans rfl
 have hfs18 := blk_frozen BK221.out 1
 have hns18_0 := NB220_221.out
 have hns18_2 := NB222_221.out
 have hms18_0 := NB221_220.out
 have hms18_2 := NB221_222.out
 have hs19 : w11.cell? ⟨gb221, 2, none⟩ = some (.int .i64 a1_2) := (blk_cell BK221.out 2).trans rfl
 have hfs19 := blk_frozen BK221.out 2
 have hns19_0 := NB220_221.out
 have hns19_2 := NB222_221.out
 have hms19_0 := NB221_220.out
 have hms19_2 := NB221_222.out
 refine skip_ (w1 := ?_) (by rfl) rfl ?_ ?_
 rotate_left
 ·go_simp
  rfl
 refine hK.out _ _ ?_
 clear hK K
 refine done_ (by kernel_rfl) ?_
 go_upto_block 0 with (fail)
 go_cut [] (fun wc => ∃ (kq : Nat) (x223000_4 : Bool) (x223002_4 : Int), Aside0 (raw_Add.j0 kq t223 t224 t227 t228 t229 t232 = some (r1, r2, r3)) ∧ Aside0 (kq ≤ k) ∧ Aside0 (Kd.V (Kd.int .u64) 43 wc w.heap.size (fun k_ => ((P0_1_ k_ ∨ P1_1_ k_) ∨ w.heap.size ≤ k_) ∧ k_ ≠ gb220 ∧ k_ ≠ gb221 ∧ k_ ≠ gb222) (.slice Ao13 t224.length co13) t224) ∧ Aside0 (Kd.V (Kd.int .u64) 43 wc w.heap.size (fun k_ => ((P0_1_ k_ ∨ P1_1_ k_) ∨ w.heap.size ≤ k_) ∧ k_ ≠ gb220 ∧ k_ ≠ gb221 ∧ k_ ≠ gb222) (.slice Ao17 t229.length co17) t229) ∧ Aside0 (wc.heap[gb220]? = some (.cells #[.bool t223, (.slice Ao13 t224.length co13), .int .i64 t227] 25 (0, 0))) ∧ Aside0 (wc.heap[gb221]? = some (.cells #[.bool t228, (.slice Ao17 t229.length co17), .int .i64 t232] 25 (0, 0))) ∧ Aside0 (wc.heap[gb222]? = some (.cells #[.bool x223000_4, (.slice none 0 0), .int .i64 x223002_4] 25 (0, 0))) ∧ Aside0 (Below w.heap.size w wc))
 case first =>
  have H := HC5.out
  clear HC5
  obtain ⟨t233, A20, H⟩ := zh H
  by_cases c21 : t233 = true
  ·subst c21
   rw [if_pos rfl] at H
   simp only [Option.some.injEq, Prod.mk.injEq] at H
   obtain ⟨rfl, rfl, rfl⟩ := H
   have hnb22 := NB220_221.out
   have hnc22 := NB221_220.out
   have hnb23 := NB220_222.out
   have hnc23 := NB222_220.out
   obtain ⟨_, _, _, _, _, _⟩ := zc BK220
   go_wp2_with (first | ((with_reducible refine zG 73 rfl ?_); refine zL (some 14) rfl rfl Tryd.func73 #[.agg #[.bool t223, .slice Ao13 t224.length co13, .int .i64 t227]] rfl ?_; (with_reducible refine (raw_Zero.calls k t223 _ _ t224 t227 true _ ?side1 ?side2 A20.out).mono ?_); (case side1 => refine (V_reads' (e := 43) (base := w.heap.size) (ok := fun k_ => (((P0_1_ k_ ∨ P1_1_ k_) ∨ w.heap.size ≤ k_) ∧ (k_ ≠ gb220 ∧ (k_ ≠ gb221 ∧ k_ ≠ gb222)))) (n := t224.length) (c := co13) ?_).2.2; exact (vu (V_mono (V_mono (V_far (p := ⟨gb221, 2, none⟩) (V_far (p := ⟨gb221, 1, none⟩) (V_far (p := ⟨gb221, 0, none⟩) (zv gb220 (V_mono (V_mono HO226.out (fun k_ hk => (⟨hk, hk.2.1⟩ : _ ∧ k_ ≠ gb220))) (fun k_ hk => (⟨hk, hk.1.2.2.1⟩ : _ ∧ k_ ≠ gb221))) (fun _ hk => hk.1.2) _ _ _) (fun _ hk => hk.2) (.bool t228)) (fun _ hk => hk.2) (.slice Ao17 t229.length co17)) (fun _ hk => hk.2) (.int .i64 t232)) (fun _ h_ => h_.1)) (fun _ h_ => h_.1)))); (case side2 => exact (V_reads' HO226.out).2.1); rintro e w25 ⟨rfl, hb⟩; refine ⟨_, rfl, ?_⟩; replace HO0_1 := zA (V_below (vu (V_mono (V_mono (V_far (p := ⟨gb221, 2, none⟩) (V_far (p := ⟨gb221, 1, none⟩) (V_far (p := ⟨gb221, 0, none⟩) (zv gb220 (V_mono (V_mono HO0_1.out (fun k_ hk => (⟨hk, hk.1.1.2⟩ : _ ∧ k_ ≠ gb220))) (fun k_ hk => (⟨hk, hk.1.1.2⟩ : _ ∧ k_ ≠ gb221))) (fun _ hk => hk.1.2) _ _ _) (fun _ hk => hk.2) (.bool t228)) (fun _ hk => hk.2) (.slice Ao17 t229.length co17)) (fun _ hk => hk.2) (.int .i64 t232)) (fun _ h_ => h_.1)) (fun _ h_ => h_.1))) hb); replace HO1_1 := zA (V_below (vu (V_mono (V_mono (V_far (p := ⟨gb221, 2, none⟩) (V_far (p := ⟨gb221, 1, none⟩) (V_far (p := ⟨gb221, 0, none⟩) (zv gb220 (V_mono (V_mono HO1_1.out (fun k_ hk => (⟨hk, hk.1.1.2⟩ : _ ∧ k_ ≠ gb220))) (fun k_ hk => (⟨hk, hk.1.1.2⟩ : _ ∧ k_ ≠ gb221))) (fun _ hk => hk.1.2) _ _ _) (fun _ hk => hk.2) (.bool t228)) (fun _ hk => hk.2) (.slice Ao17 t229.length co17)) (fun _ hk => hk.2) (.int .i64 t232)) (fun _ h_ => h_.1)) (fun _ h_ => h_.1))) hb); replace HO226 := zA (V_below (vu (V_mono (V_mono (V_far (p := ⟨gb221, 2, none⟩) (V_far (p := ⟨gb221, 1, none⟩) (V_far (p := ⟨gb221, 0, none⟩) (zv gb220 (V_mono (V_mono HO226.out (fun k_ hk => (⟨hk, hk.2.1⟩ : _ ∧ k_ ≠ gb220))) (fun k_ hk => (⟨hk, hk.1.2.2.1⟩ : _ ∧ k_ ≠ gb221))) (fun _ hk => hk.1.2) _ _ _) (fun _ hk => hk.2) (.bool t228)) (fun _ hk => hk.2) (.slice Ao17 t229.length co17)) (fun _ hk => hk.2) (.int .i64 t232)) (fun _ h_ => h_.1)) (fun _ h_ => h_.1))) hb); replace HO231 := zA (V_below (vu (V_mono (V_mono (V_far (p := ⟨gb221, 2, none⟩) (V_far (p := ⟨gb221, 1, none⟩) (V_far (p := ⟨gb221, 0, none⟩) (zv gb220 (V_mono (V_mono HO231.out (fun k_ hk => (⟨hk, hk.2.1⟩ : _ ∧ k_ ≠ gb220))) (fun k_ hk => (⟨hk, hk.1.2.2.1⟩ : _ ∧ k_ ≠ gb221))) (fun _ hk => hk.1.2) _ _ _) (fun _ hk => hk.2) (.bool t228)) (fun _ hk => hk.2) (.slice Ao17 t229.length co17)) (fun _ hk => hk.2) (.int .i64 t232)) (fun _ h_ => h_.1)) (fun _ h_ => h_.1))) hb); replace BK220 := zA (blk_below (g := gb220) (o := .cells #[.bool t223, .slice Ao13 t224.length co13, .int .i64 t227] 25 (0, 0)) (by (with_reducible repeat (first | refine blk_drewN ?_ _ | refine blk_drew ?_ | refine blk_alloc ?_ _)); refine blk_far ?_ NB220_221.out _; refine blk_far ?_ NB220_221.out _; refine blk_far ?_ NB220_221.out _; refine blk_put (cs := #[.bool t223, .slice Ao13 t224.length co13, .int .i64 a0_2]) ?_ 2 _ rfl; refine blk_put (cs := #[.bool t223, .slice A0_1 l0_1.length c0_1, .int .i64 a0_2]) ?_ 1 _ rfl; refine blk_put (cs := #[.bool a0_0, .slice A0_1 l0_1.length c0_1, .int .i64 a0_2]) ?_ 0 _ rfl; exact BK220.out) hb); replace BK221 := zA (blk_below (g := gb221) (o := .cells #[.bool t228, .slice Ao17 t229.length co17, .int .i64 t232] 25 (0, 0)) (by (with_reducible repeat (first | refine blk_drewN ?_ _ | refine blk_drew ?_ | refine blk_alloc ?_ _)); refine blk_put (cs := #[.bool t228, .slice Ao17 t229.length co17, .int .i64 a1_2]) ?_ 2 _ rfl; refine blk_put (cs := #[.bool t228, .slice A1_1 l1_1.length c1_1, .int .i64 a1_2]) ?_ 1 _ rfl; refine blk_put (cs := #[.bool a1_0, .slice A1_1 l1_1.length c1_1, .int .i64 a1_2]) ?_ 0 _ rfl; refine blk_far ?_ NB221_220.out _; refine blk_far ?_ NB221_220.out _; refine blk_far ?_ NB221_220.out _; exact BK221.out) hb); replace BK222 := zF BK222 hb; replace HB := zf hb; (try clear hk); have hnb26 := NB221_222.out; have hnc26 := NB222_221.out; obtain ⟨hcz27_0, hcz27_1, hcz27_2, hfz27_0, hfz27_1, hfz27_2⟩ := zc BK221; obtain ⟨hcz28_0, hcz28_1, hcz28_2, hfz28_0, hfz28_1, hfz28_2⟩ := zc BK222))
   refine bodyPost_ret (results_cell_row rfl _ _ gb222 25 #[.bool t228, .slice Ao17 t229.length co17, .int .i64 t232] (0, 0) _ rfl (zy BK222) Tryd.underlying25 rfl (by kernel_rfl)) rfl ?_
   exact ⟨_, er, vu (V_mono (zv gb222 (V_mono HO231.out (fun k_ hk => (⟨hk, hk.2.2.2⟩ : _ ∧ k_ ≠ gb222))) (fun _ hk => hk.2) _ _ _) (fun _ hk => hk.1.1)), zs⟩
  replace c21 := Bool.eq_false_iff.mpr c21
  subst c21
  rw [if_neg (show ¬ (false = true) by decide)] at H
  obtain ⟨t234, A29, H⟩ := zh H
  by_cases c30 : t234 = true
  ·subst c30
   rw [if_pos rfl] at H
   simp only [Option.some.injEq, Prod.mk.injEq] at H
   obtain ⟨rfl, rfl, rfl⟩ := H
   have hnb31 := NB220_221.out
   have hnc31 := NB221_220.out
   have hnb32 := NB220_222.out
   have hnc32 := NB222_220.out
   obtain ⟨_, _, _, _, _, _⟩ := zc BK220
   go_wp2_with (first | ((with_reducible refine zG 73 rfl ?_); refine zL (some 14) rfl rfl Tryd.func73 #[.agg #[.bool t223, .slice Ao13 t224.length co13, .int .i64 t227]] rfl ?_; (with_reducible refine (raw_Zero.calls k t223 _ _ t224 t227 false _ ?side1 ?side2 A20.out).mono ?_); (case side1 => refine (V_reads' (e := 43) (base := w.heap.size) (ok := fun k_ => (((P0_1_ k_ ∨ P1_1_ k_) ∨ w.heap.size ≤ k_) ∧ (k_ ≠ gb220 ∧ (k_ ≠ gb221 ∧ k_ ≠ gb222)))) (n := t224.length) (c := co13) ?_).2.2; exact (vu (V_mono (V_mono (V_far (p := ⟨gb221, 2, none⟩) (V_far (p := ⟨gb221, 1, none⟩) (V_far (p := ⟨gb221, 0, none⟩) (zv gb220 (V_mono (V_mono HO226.out (fun k_ hk => (⟨hk, hk.2.1⟩ : _ ∧ k_ ≠ gb220))) (fun k_ hk => (⟨hk, hk.1.2.2.1⟩ : _ ∧ k_ ≠ gb221))) (fun _ hk => hk.1.2) _ _ _) (fun _ hk => hk.2) (.bool t228)) (fun _ hk => hk.2) (.slice Ao17 t229.length co17)) (fun _ hk => hk.2) (.int .i64 t232)) (fun _ h_ => h_.1)) (fun _ h_ => h_.1)))); (case side2 => exact (V_reads' HO226.out).2.1); rintro e w34 ⟨rfl, hb⟩; refine ⟨_, rfl, ?_⟩; replace HO0_1 := zA (V_below (vu (V_mono (V_mono (V_far (p := ⟨gb221, 2, none⟩) (V_far (p := ⟨gb221, 1, none⟩) (V_far (p := ⟨gb221, 0, none⟩) (zv gb220 (V_mono (V_mono HO0_1.out (fun k_ hk => (⟨hk, hk.1.1.2⟩ : _ ∧ k_ ≠ gb220))) (fun k_ hk => (⟨hk, hk.1.1.2⟩ : _ ∧ k_ ≠ gb221))) (fun _ hk => hk.1.2) _ _ _) (fun _ hk => hk.2) (.bool t228)) (fun _ hk => hk.2) (.slice Ao17 t229.length co17)) (fun _ hk => hk.2) (.int .i64 t232)) (fun _ h_ => h_.1)) (fun _ h_ => h_.1))) hb); replace HO1_1 := zA (V_below (vu (V_mono (V_mono (V_far (p := ⟨gb221, 2, none⟩) (V_far (p := ⟨gb221, 1, none⟩) (V_far (p := ⟨gb221, 0, none⟩) (zv gb220 (V_mono (V_mono HO1_1.out (fun k_ hk => (⟨hk, hk.1.1.2⟩ : _ ∧ k_ ≠ gb220))) (fun k_ hk => (⟨hk, hk.1.1.2⟩ : _ ∧ k_ ≠ gb221))) (fun _ hk => hk.1.2) _ _ _) (fun _ hk => hk.2) (.bool t228)) (fun _ hk => hk.2) (.slice Ao17 t229.length co17)) (fun _ hk => hk.2) (.int .i64 t232)) (fun _ h_ => h_.1)) (fun _ h_ => h_.1))) hb); replace HO226 := zA (V_below (vu (V_mono (V_mono (V_far (p := ⟨gb221, 2, none⟩) (V_far (p := ⟨gb221, 1, none⟩) (V_far (p := ⟨gb221, 0, none⟩) (zv gb220 (V_mono (V_mono HO226.out (fun k_ hk => (⟨hk, hk.2.1⟩ : _ ∧ k_ ≠ gb220))) (fun k_ hk => (⟨hk, hk.1.2.2.1⟩ : _ ∧ k_ ≠ gb221))) (fun _ hk => hk.1.2) _ _ _) (fun _ hk => hk.2) (.bool t228)) (fun _ hk => hk.2) (.slice Ao17 t229.length co17)) (fun _ hk => hk.2) (.int .i64 t232)) (fun _ h_ => h_.1)) (fun _ h_ => h_.1))) hb); replace HO231 := zA (V_below (vu (V_mono (V_mono (V_far (p := ⟨gb221, 2, none⟩) (V_far (p := ⟨gb221, 1, none⟩) (V_far (p := ⟨gb221, 0, none⟩) (zv gb220 (V_mono (V_mono HO231.out (fun k_ hk => (⟨hk, hk.2.1⟩ : _ ∧ k_ ≠ gb220))) (fun k_ hk => (⟨hk, hk.1.2.2.1⟩ : _ ∧ k_ ≠ gb221))) (fun _ hk => hk.1.2) _ _ _) (fun _ hk => hk.2) (.bool t228)) (fun _ hk => hk.2) (.slice Ao17 t229.length co17)) (fun _ hk => hk.2) (.int .i64 t232)) (fun _ h_ => h_.1)) (fun _ h_ => h_.1))) hb); replace BK220 := zA (blk_below (g := gb220) (o := .cells #[.bool t223, .slice Ao13 t224.length co13, .int .i64 t227] 25 (0, 0)) (by (with_reducible repeat (first | refine blk_drewN ?_ _ | refine blk_drew ?_ | refine blk_alloc ?_ _)); refine blk_far ?_ NB220_221.out _; refine blk_far ?_ NB220_221.out _; refine blk_far ?_ NB220_221.out _; refine blk_put (cs := #[.bool t223, .slice Ao13 t224.length co13, .int .i64 a0_2]) ?_ 2 _ rfl; refine blk_put (cs := #[.bool t223, .slice A0_1 l0_1.length c0_1, .int .i64 a0_2]) ?_ 1 _ rfl; refine blk_put (cs := #[.bool a0_0, .slice A0_1 l0_1.length c0_1, .int .i64 a0_2]) ?_ 0 _ rfl; exact BK220.out) hb); replace BK221 := zA (blk_below (g := gb221) (o := .cells #[.bool t228, .slice Ao17 t229.length co17, .int .i64 t232] 25 (0, 0)) (by (with_reducible repeat (first | refine blk_drewN ?_ _ | refine blk_drew ?_ | refine blk_alloc ?_ _)); refine blk_put (cs := #[.bool t228, .slice Ao17 t229.length co17, .int .i64 a1_2]) ?_ 2 _ rfl; refine blk_put (cs := #[.bool t228, .slice A1_1 l1_1.length c1_1, .int .i64 a1_2]) ?_ 1 _ rfl; refine blk_put (cs := #[.bool a1_0, .slice A1_1 l1_1.length c1_1, .int .i64 a1_2]) ?_ 0 _ rfl; refine blk_far ?_ NB221_220.out _; refine blk_far ?_ NB221_220.out _; refine blk_far ?_ NB221_220.out _; exact BK221.out) hb); replace BK222 := zF BK222 hb; replace HB := zf hb; (try clear hk); have hnb35 := NB221_222.out; have hnc35 := NB222_221.out; obtain ⟨hcz36_0, hcz36_1, hcz36_2, hfz36_0, hfz36_1, hfz36_2⟩ := zc BK221) | ((with_reducible refine zG 73 rfl ?_); refine zL (some 18) rfl rfl Tryd.func73 #[.agg #[.bool t228, .slice Ao17 t229.length co17, .int .i64 t232]] rfl ?_; (with_reducible refine (raw_Zero.calls k t228 _ _ t229 t232 true _ ?side1 ?side2 A29.out).mono ?_); (case side1 => exact zk (V_reads' HO231.out).2.2); (case side2 => exact (V_reads' HO231.out).2.1); rintro e w37 ⟨rfl, hb⟩; refine ⟨_, rfl, ?_⟩; replace HO0_1 := zA (V_below (vu HO0_1.out) hb); replace HO1_1 := zA (V_below (vu HO1_1.out) hb); replace HO226 := zA (V_below (vu HO226.out) hb); replace HO231 := zA (V_below (vu HO231.out) hb); replace BK220 := zb BK220 hb; replace BK221 := zb BK221 hb; replace BK222 := zb BK222 hb; replace HB := zf hb; obtain ⟨hcz38_0, hcz38_1, hcz38_2, hfz38_0, hfz38_1, hfz38_2⟩ := zc BK220; obtain ⟨hcz39_0, hcz39_1, hcz39_2, hfz39_0, hfz39_1, hfz39_2⟩ := zc BK222))
   refine bodyPost_ret (results_cell_row rfl _ _ gb222 25 #[.bool t223, .slice Ao13 t224.length co13, .int .i64 t227] (0, 0) _ rfl (zy BK222) Tryd.underlying25 rfl (by kernel_rfl)) rfl ?_
   exact ⟨_, er, vu (V_mono (zv gb222 (V_mono HO226.out (fun k_ hk => (⟨hk, hk.2.2.2⟩ : _ ∧ k_ ≠ gb222))) (fun _ hk => hk.2) _ _ _) (fun _ hk => hk.1.1)), zs⟩
  replace c30 := Bool.eq_false_iff.mpr c30
  subst c30
  rw [if_neg (show ¬ (false = true) by decide)] at H
  have H' := zA H
  clear H
  have hnb40 := NB220_221.out
  have hnc40 := NB221_220.out
  have hnb41 := NB220_222.out
  have hnc41 := NB222_220.out
  obtain ⟨_, _, _, _, _, _⟩ := zc BK220
  go_wp2_with (first | ((with_reducible refine zG 73 rfl ?_); refine zL (some 14) rfl rfl Tryd.func73 #[.agg #[.bool t223, .slice Ao13 t224.length co13, .int .i64 t227]] rfl ?_; (with_reducible refine (raw_Zero.calls k t223 _ _ t224 t227 false _ ?side1 ?side2 A20.out).mono ?_); (case side1 => refine (V_reads' (e := 43) (base := w.heap.size) (ok := fun k_ => (((P0_1_ k_ ∨ P1_1_ k_) ∨ w.heap.size ≤ k_) ∧ (k_ ≠ gb220 ∧ (k_ ≠ gb221 ∧ k_ ≠ gb222)))) (n := t224.length) (c := co13) ?_).2.2; exact (vu (V_mono (V_mono (V_far (p := ⟨gb221, 2, none⟩) (V_far (p := ⟨gb221, 1, none⟩) (V_far (p := ⟨gb221, 0, none⟩) (zv gb220 (V_mono (V_mono HO226.out (fun k_ hk => (⟨hk, hk.2.1⟩ : _ ∧ k_ ≠ gb220))) (fun k_ hk => (⟨hk, hk.1.2.2.1⟩ : _ ∧ k_ ≠ gb221))) (fun _ hk => hk.1.2) _ _ _) (fun _ hk => hk.2) (.bool t228)) (fun _ hk => hk.2) (.slice Ao17 t229.length co17)) (fun _ hk => hk.2) (.int .i64 t232)) (fun _ h_ => h_.1)) (fun _ h_ => h_.1)))); (case side2 => exact (V_reads' HO226.out).2.1); rintro e w43 ⟨rfl, hb⟩; refine ⟨_, rfl, ?_⟩; replace HO0_1 := zA (V_below (vu (V_mono (V_mono (V_far (p := ⟨gb221, 2, none⟩) (V_far (p := ⟨gb221, 1, none⟩) (V_far (p := ⟨gb221, 0, none⟩) (zv gb220 (V_mono (V_mono HO0_1.out (fun k_ hk => (⟨hk, hk.1.1.2⟩ : _ ∧ k_ ≠ gb220))) (fun k_ hk => (⟨hk, hk.1.1.2⟩ : _ ∧ k_ ≠ gb221))) (fun _ hk => hk.1.2) _ _ _) (fun _ hk => hk.2) (.bool t228)) (fun _ hk => hk.2) (.slice Ao17 t229.length co17)) (fun _ hk => hk.2) (.int .i64 t232)) (fun _ h_ => h_.1)) (fun _ h_ => h_.1))) hb); replace HO1_1 := zA (V_below (vu (V_mono (V_mono (V_far (p := ⟨gb221, 2, none⟩) (V_far (p := ⟨gb221, 1, none⟩) (V_far (p := ⟨gb221, 0, none⟩) (zv gb220 (V_mono (V_mono HO1_1.out (fun k_ hk => (⟨hk, hk.1.1.2⟩ : _ ∧ k_ ≠ gb220))) (fun k_ hk => (⟨hk, hk.1.1.2⟩ : _ ∧ k_ ≠ gb221))) (fun _ hk => hk.1.2) _ _ _) (fun _ hk => hk.2) (.bool t228)) (fun _ hk => hk.2) (.slice Ao17 t229.length co17)) (fun _ hk => hk.2) (.int .i64 t232)) (fun _ h_ => h_.1)) (fun _ h_ => h_.1))) hb); replace HO226 := zA (V_below (vu (V_mono (V_mono (V_far (p := ⟨gb221, 2, none⟩) (V_far (p := ⟨gb221, 1, none⟩) (V_far (p := ⟨gb221, 0, none⟩) (zv gb220 (V_mono (V_mono HO226.out (fun k_ hk => (⟨hk, hk.2.1⟩ : _ ∧ k_ ≠ gb220))) (fun k_ hk => (⟨hk, hk.1.2.2.1⟩ : _ ∧ k_ ≠ gb221))) (fun _ hk => hk.1.2) _ _ _) (fun _ hk => hk.2) (.bool t228)) (fun _ hk => hk.2) (.slice Ao17 t229.length co17)) (fun _ hk => hk.2) (.int .i64 t232)) (fun _ h_ => h_.1)) (fun _ h_ => h_.1))) hb); replace HO231 := zA (V_below (vu (V_mono (V_mono (V_far (p := ⟨gb221, 2, none⟩) (V_far (p := ⟨gb221, 1, none⟩) (V_far (p := ⟨gb221, 0, none⟩) (zv gb220 (V_mono (V_mono HO231.out (fun k_ hk => (⟨hk, hk.2.1⟩ : _ ∧ k_ ≠ gb220))) (fun k_ hk => (⟨hk, hk.1.2.2.1⟩ : _ ∧ k_ ≠ gb221))) (fun _ hk => hk.1.2) _ _ _) (fun _ hk => hk.2) (.bool t228)) (fun _ hk => hk.2) (.slice Ao17 t229.length co17)) (fun _ hk => hk.2) (.int .i64 t232)) (fun _ h_ => h_.1)) (fun _ h_ => h_.1))) hb); replace BK220 := zA (blk_below (g := gb220) (o := .cells #[.bool t223, .slice Ao13 t224.length co13, .int .i64 t227] 25 (0, 0)) (by (with_reducible repeat (first | refine blk_drewN ?_ _ | refine blk_drew ?_ | refine blk_alloc ?_ _)); refine blk_far ?_ NB220_221.out _; refine blk_far ?_ NB220_221.out _; refine blk_far ?_ NB220_221.out _; refine blk_put (cs := #[.bool t223, .slice Ao13 t224.length co13, .int .i64 a0_2]) ?_ 2 _ rfl; refine blk_put (cs := #[.bool t223, .slice A0_1 l0_1.length c0_1, .int .i64 a0_2]) ?_ 1 _ rfl; refine blk_put (cs := #[.bool a0_0, .slice A0_1 l0_1.length c0_1, .int .i64 a0_2]) ?_ 0 _ rfl; exact BK220.out) hb); replace BK221 := zA (blk_below (g := gb221) (o := .cells #[.bool t228, .slice Ao17 t229.length co17, .int .i64 t232] 25 (0, 0)) (by (with_reducible repeat (first | refine blk_drewN ?_ _ | refine blk_drew ?_ | refine blk_alloc ?_ _)); refine blk_put (cs := #[.bool t228, .slice Ao17 t229.length co17, .int .i64 a1_2]) ?_ 2 _ rfl; refine blk_put (cs := #[.bool t228, .slice A1_1 l1_1.length c1_1, .int .i64 a1_2]) ?_ 1 _ rfl; refine blk_put (cs := #[.bool a1_0, .slice A1_1 l1_1.length c1_1, .int .i64 a1_2]) ?_ 0 _ rfl; refine blk_far ?_ NB221_220.out _; refine blk_far ?_ NB221_220.out _; refine blk_far ?_ NB221_220.out _; exact BK221.out) hb); replace BK222 := zF BK222 hb; replace HB := zf hb; (try clear hk); have hnb44 := NB221_222.out; have hnc44 := NB222_221.out; obtain ⟨hcz45_0, hcz45_1, hcz45_2, hfz45_0, hfz45_1, hfz45_2⟩ := zc BK221) | ((with_reducible refine zG 73 rfl ?_); refine zL (some 18) rfl rfl Tryd.func73 #[.agg #[.bool t228, .slice Ao17 t229.length co17, .int .i64 t232]] rfl ?_; (with_reducible refine (raw_Zero.calls k t228 _ _ t229 t232 false _ ?side1 ?side2 A29.out).mono ?_); (case side1 => exact zk (V_reads' HO231.out).2.2); (case side2 => exact (V_reads' HO231.out).2.1); rintro e w46 ⟨rfl, hb⟩; refine ⟨_, rfl, ?_⟩; replace HO0_1 := zA (V_below (vu HO0_1.out) hb); replace HO1_1 := zA (V_below (vu HO1_1.out) hb); replace HO226 := zA (V_below (vu HO226.out) hb); replace HO231 := zA (V_below (vu HO231.out) hb); replace BK220 := zb BK220 hb; replace BK221 := zb BK221 hb; replace BK222 := zb BK222 hb; replace HB := zf hb))
  go_meet
  case rel => exact ⟨_, (false), (0), H', ⟨by first | omega | exact Nat.le_refl _⟩, ⟨vu HO226.out⟩, ⟨vu HO231.out⟩, ⟨zu BK220⟩, ⟨zu BK221⟩, ⟨zu BK222⟩, ⟨zs⟩⟩
 case rest =>
  clear HC5
  try clear c21
  try clear c30
  try clear hcz27_0 hcz27_1 hcz27_2 hfz27_0 hfz27_1 hfz27_2
  try clear hcz28_0 hcz28_1 hcz28_2 hfz28_0 hfz28_1 hfz28_2
  try clear hcz36_0 hcz36_1 hcz36_2 hfz36_0 hfz36_1 hfz36_2
  try clear hcz38_0 hcz38_1 hcz38_2 hfz38_0 hfz38_1 hfz38_2
  try clear hcz39_0 hcz39_1 hcz39_2 hfz39_0 hfz39_1 hfz39_2
  try clear hcz45_0 hcz45_1 hcz45_2 hfz45_0 hfz45_1 hfz45_2
  obtain ⟨kq, x223000_4, x223002_4, HA, HJ4, HO_221001, HO_222001, BK220, BK221, BK222, HB⟩ := hcut
  cases kq with
  | zero => exact absurd HA.out (by simp [raw_Add.j0])
  | succ kj4 =>
   have H := HA.out
   clear HA
   simp only [raw_Add.j0] at H
   obtain ⟨⟨t235, t238, t241⟩, A47, H⟩ := zh H
   (try dsimp only at H)
   have HC48 := zA H
   clear H
   have hnb49 := NB220_221.out
   have hnc49 := NB221_220.out
   have hnb50 := NB220_222.out
   have hnc50 := NB222_220.out
   obtain ⟨_, _, _, _, _, _⟩ := zc BK220
   have hnb52 := NB221_222.out
   have hnc52 := NB222_221.out
   obtain ⟨_, _, _, _, _, _⟩ := zc BK221
   go_upto_if 31 with (first | ((with_reducible refine zG 112 rfl ?_); refine zL (some 23) rfl rfl Tryd.func112 #[.agg #[.bool t223, .slice Ao13 t224.length co13, .int .i64 t227], .agg #[.bool t228, .slice Ao17 t229.length co17, .int .i64 t232]] rfl ?_; (with_reducible refine (raw_amounts.calls kj4 t223 (fun k_ => (((P0_1_ k_ ∨ P1_1_ k_) ∨ w.heap.size ≤ k_) ∧ (k_ ≠ gb220 ∧ (k_ ≠ gb221 ∧ k_ ≠ gb222)))) _ _ t224 t227 t228 (fun k_ => (((P0_1_ k_ ∨ P1_1_ k_) ∨ w.heap.size ≤ k_) ∧ (k_ ≠ gb220 ∧ (k_ ≠ gb221 ∧ k_ ≠ gb222)))) _ _ t229 t232 t235 t238 t241 _ ?side1 ?side2 A47.out).mono ?_); (case side1 => exact HO_221001.out); (case side2 => exact HO_222001.out); rintro e w54 ⟨v236, v239, rfl, ho0, ho1, hb⟩; refine ⟨_, rfl, ?_⟩; replace HO_221001 := zA (V_below (vu HO_221001.out) hb); replace HO_222001 := zA (V_below (vu HO_222001.out) hb); have HO237 := zA (V_lower (V_mono (ok' := fun k_ => ((P0_1_ k_ ∨ P1_1_ k_) ∨ w.heap.size ≤ k_) ∧ k_ ≠ gb220 ∧ k_ ≠ gb221 ∧ k_ ≠ gb222) ho0 (fun k_ hk_ => ⟨Or.elim hk_ (fun hs_ => Or.elim hs_ (fun hs_ => hs_.1) (fun hs_ => hs_.1)) (fun hn_ => (.inr (Nat.le_trans (below_size zs) hn_))), Or.elim hk_ (fun hs_ => Or.elim hs_ (fun hs_ => hs_.2.1) (fun hs_ => hs_.2.1)) (fun hn_ => (zj BK220 k_ hn_)), Or.elim hk_ (fun hs_ => Or.elim hs_ (fun hs_ => hs_.2.2.1) (fun hs_ => hs_.2.2.1)) (fun hn_ => (zj BK221 k_ hn_)), Or.elim hk_ (fun hs_ => Or.elim hs_ (fun hs_ => hs_.2.2.2) (fun hs_ => hs_.2.2.2)) (fun hn_ => (zj BK222 k_ hn_))⟩)) (below_size zs)); have HO240 := zA (V_lower (V_mono (ok' := fun k_ => ((P0_1_ k_ ∨ P1_1_ k_) ∨ w.heap.size ≤ k_) ∧ k_ ≠ gb220 ∧ k_ ≠ gb221 ∧ k_ ≠ gb222) ho1 (fun k_ hk_ => ⟨Or.elim hk_ (fun hs_ => Or.elim hs_ (fun hs_ => hs_.1) (fun hs_ => hs_.1)) (fun hn_ => (.inr (Nat.le_trans (below_size zs) hn_))), Or.elim hk_ (fun hs_ => Or.elim hs_ (fun hs_ => hs_.2.1) (fun hs_ => hs_.2.1)) (fun hn_ => (zj BK220 k_ hn_)), Or.elim hk_ (fun hs_ => Or.elim hs_ (fun hs_ => hs_.2.2.1) (fun hs_ => hs_.2.2.1)) (fun hn_ => (zj BK221 k_ hn_)), Or.elim hk_ (fun hs_ => Or.elim hs_ (fun hs_ => hs_.2.2.2) (fun hs_ => hs_.2.2.2)) (fun hn_ => (zj BK222 k_ hn_))⟩)) (below_size zs)); replace BK220 := zb BK220 hb; replace BK221 := zb BK221 hb; replace BK222 := zb BK222 hb; replace HB := zf hb; (try clear ho0); (try clear ho1); obtain ⟨hcz55_0, hcz55_1, hcz55_2, hfz55_0, hfz55_1, hfz55_2⟩ := zc BK220; obtain ⟨hcz56_0, hcz56_1, hcz56_2, hfz56_0, hfz56_1, hfz56_2⟩ := zc BK221))
   (try simp only [Act.put, List.setIfInBounds_toArray, List.set_cons_zero, List.set_cons_succ])
   go_cut [] (fun wc => ∃ (kq : Nat) (x223000_47 : Bool) (x223002_47 : Int), Aside0 (raw_Add.j1 kq t235 t238 t241 t223 t224 t227 t228 t229 t232 = some (r1, r2, r3)) ∧ Aside0 (kq ≤ kj4) ∧ Aside0 (Kd.V (Kd.int .u64) 43 wc w.heap.size (fun k_ => ((P0_1_ k_ ∨ P1_1_ k_) ∨ w.heap.size ≤ k_) ∧ k_ ≠ gb220 ∧ k_ ≠ gb221 ∧ k_ ≠ gb222) v236 t235) ∧ Aside0 (Kd.V (Kd.int .u64) 43 wc w.heap.size (fun k_ => ((P0_1_ k_ ∨ P1_1_ k_) ∨ w.heap.size ≤ k_) ∧ k_ ≠ gb220 ∧ k_ ≠ gb221 ∧ k_ ≠ gb222) v239 t238) ∧ Aside0 (Kd.V (Kd.int .u64) 43 wc w.heap.size (fun k_ => ((P0_1_ k_ ∨ P1_1_ k_) ∨ w.heap.size ≤ k_) ∧ k_ ≠ gb220 ∧ k_ ≠ gb221 ∧ k_ ≠ gb222) (.slice Ao13 t224.length co13) t224) ∧ Aside0 (Kd.V (Kd.int .u64) 43 wc w.heap.size (fun k_ => ((P0_1_ k_ ∨ P1_1_ k_) ∨ w.heap.size ≤ k_) ∧ k_ ≠ gb220 ∧ k_ ≠ gb221 ∧ k_ ≠ gb222) (.slice Ao17 t229.length co17) t229) ∧ Aside0 (wc.heap[gb220]? = some (.cells #[.bool t223, (.slice Ao13 t224.length co13), .int .i64 t227] 25 (0, 0))) ∧ Aside0 (wc.heap[gb221]? = some (.cells #[.bool t228, (.slice Ao17 t229.length co17), .int .i64 t232] 25 (0, 0))) ∧ Aside0 (wc.heap[gb222]? = some (.cells #[.bool x223000_47, (.slice none 0 0), .int .i64 x223002_47] 25 (0, 0))) ∧ Aside0 (Below w.heap.size w wc))
   case first =>
    have H := HC48.out
    clear HC48
    by_cases c57 : (t223 == t228) = true
    ·rw [if_pos c57] at H
     have c57b0 : (t223 == t228) = true := c57
     (try (have c57b1 : decide (t223 = t228) = true := by simpa using c57))
     (try (have c57b2 : (t223 == t228) = true := by simpa using c57))
     clear c57
     (first | rw [c57b0] | (simp only [i64_w, i32_w]; rw [c57b0]) | skip)
     obtain ⟨t242, A58, H⟩ := zh H
     obtain ⟨⟨t245, t246, t249⟩, A59, H⟩ := zh H
     (try dsimp only at H)
     simp only [Option.some.injEq, Prod.mk.injEq] at H
     obtain ⟨rfl, rfl, rfl⟩ := H
     try go_wp2
     replace HO_221001 := zA (V_drew HO_221001.out)
     replace HO_222001 := zA (V_drew HO_222001.out)
     replace HO237 := zA (V_drew HO237.out)
     replace HO240 := zA (V_drew HO240.out)
     replace BK220 := zA (blk_drew BK220.out)
     replace BK221 := zA (blk_drew BK221.out)
     replace BK222 := zA (blk_drew BK222.out)
     replace HB := zA (below_drew1 HB.out)
     obtain ⟨Ao61, co61, eo61⟩ := V_slice HO237.out
     (first | subst eo61 | (injection eo61 with f1_ f2_ f3_; have f4_ := f1_.symm; have f5_ := f3_.symm; clear f1_ f2_ f3_; subst f4_; subst f5_))
     obtain ⟨Ao62, co62, eo62⟩ := V_slice HO240.out
     (first | subst eo62 | (injection eo62 with f1_ f2_ f3_; have f4_ := f1_.symm; have f5_ := f3_.symm; clear f1_ f2_ f3_; subst f4_; subst f5_))
     refine start_ (n := 8) (S := fun w' => z3 w' gb220 (.bool t223) (.slice Ao13 t224.length co13) (.int .i64 t227)) (ds := []) #[false, false, false, false, false, false, false, false] (by kernel_rfl) rfl rfl (zz BK220) (fun hHeld => ?_); refine with_tabW raw_Add.tab8 raw_Add.bits8 (fun HT_ HW_ => ?_)
     generalize w54.drew = w60 at HO_221001 HO_222001 HO237 HO240 BK220 BK221 BK222 HB hHeld ⊢
     refine pure_ (i := 0) (N := some 32) (v := ?_) (a' := ?_) #[true, false, false, false, false, false, false, false] rfl rfl (any_of HT_.out (by kernel_rfl)) (fun _ _ _ h => h) (Or.inl ⟨by rfl, ?_⟩) ?_ ?_
     rotate_left
     ·intro w'
      go_simp
      with_reducible rfl
     rotate_left
     ·exact zq
     refine pure_ (i := 2) (N := some 34) (v := ?_) (a' := ?_) #[true, false, true, false, false, false, false, false] rfl rfl (any_of HT_.out (by kernel_rfl)) (fun _ _ _ h => h) (Or.inl ⟨by rfl, ?_⟩) ?_ ?_
     rotate_left
     ·intro w'
      go_simp
      with_reducible rfl
     rotate_left
     ·exact zq
     refine pure_ (i := 3) (N := some 35) (v := ?_) (a' := ?_) #[true, false, true, true, false, false, false, false] rfl rfl (any_of HT_.out (by kernel_rfl)) (fun _ _ _ h => h) (Or.inl ⟨by rfl, ?_⟩) ?_ ?_
     rotate_left
     ·intro w'
      go_simp
      with_reducible rfl
     rotate_left
     ·exact zq
     refine pure_ (i := 5) (N := some 37) (v := ?_) (a' := ?_) #[true, false, true, true, false, true, false, false] rfl rfl (any_of HT_.out (by kernel_rfl)) (fun _ _ _ h => h) (Or.inl ⟨by rfl, ?_⟩) ?_ ?_
     rotate_left
     ·intro w'
      go_simp
      with_reducible rfl
     rotate_left
     ·exact zq
     refine take_ (i := 1) (N := some 33) (v := ?_) (a' := ?_) #[true, true, true, true, false, true, false, false] rfl rfl (take_ofW HT_.out HW_.out (by kernel_rfl)) (fun _ _ _ h => h) (Or.inl ⟨by rfl, ?_⟩) hHeld ?_ ?_
     rotate_left
     ·rintro w' ⟨s0, s1, s2⟩
      go_simp
      with_reducible rfl
     rotate_left
     ·exact zq
     refine one_ (i := 4) (N := some 36) #[true, true, true, true, true, true, false, false] rfl rfl (one_of HT_.out (by kernel_rfl)) (by decide) (fun K hK => ?_)
     refine goes_ Tryd.func113 (by kernel_rfl) rfl #[.slice Ao61 t235.length co61, .slice Ao62 t238.length co62] (by rfl) rfl rfl ga ?_
     with_reducible refine (limbs_Add.calls kj4 _ _ t235 _ _ t238 t242 _ ?side1 ?side2 ?side3 ?side4 A58.out).mono ?_
     (case side1 => exact zk (V_reads' HO237.out).2.2)
     (case side2 => exact (V_reads' HO237.out).2.1)
     (case side3 => exact zk (V_reads' HO240.out).2.2)
     (case side4 => exact (V_reads' HO240.out).2.1)
     rintro e w63 ⟨v243, rfl, ho0, hb⟩
     refine ⟨_, rfl, ?_⟩
     replace HO_221001 := zA (V_below (vu HO_221001.out) hb)
     replace HO_222001 := zA (V_below (vu HO_222001.out) hb)
     replace HO237 := zA (V_below (vu HO237.out) hb)
     replace HO240 := zA (V_below (vu HO240.out) hb)
     have HO244 := zA (V_lower (V_mono (ok' := fun k_ => ((P0_1_ k_ ∨ P1_1_ k_) ∨ w.heap.size ≤ k_) ∧ k_ ≠ gb220 ∧ k_ ≠ gb221 ∧ k_ ≠ gb222) ho0 (fun k_ hk_ => ⟨(.inr (Nat.le_trans (below_size zs) hk_)), (zj BK220 k_ hk_), (zj BK221 k_ hk_), (zj BK222 k_ hk_)⟩)) (below_size zs))
     replace BK220 := zb BK220 hb
     replace BK221 := zb BK221 hb
     replace BK222 := zb BK222 hb
     replace HB := zf hb
     (try clear hb)
     (try clear hb2)
     (try clear hk)
     (try clear hi)
     (try clear ho0)
     obtain ⟨Ao64, co64, eo64⟩ := V_slice HO244.out
     (first | subst eo64 | (injection eo64 with f1_ f2_ f3_; have f4_ := f1_.symm; have f5_ := f3_.symm; clear f1_ f2_ f3_; subst f4_; subst f5_))
     refine hK.out _ _ (zz BK220) (fun hHeld => ?_)
     clear hK K
     refine norm_ (a' := ?_) ?_ ?_
     rotate_left
     ·show Act.put _ (some 36) _ = _
      simp only [Act.put, List.setIfInBounds_toArray, List.set_cons_zero, List.set_cons_succ, i64_w, i32_w]
      rfl
     refine one_ (i := 6) (N := some 38) #[true, true, true, true, true, true, true, false] rfl rfl (one_of HT_.out (by kernel_rfl)) (by decide) (fun K hK => ?_)
     refine goes_ Tryd.func91 (by kernel_rfl) rfl #[.bool t223, .slice Ao64 t242.length co64, .int .i64 t241] (by rfl) rfl rfl ga ?_
     with_reducible refine (raw_Form.calls kj4 t223 (fun k_ => (((P0_1_ k_ ∨ P1_1_ k_) ∨ w.heap.size ≤ k_) ∧ (k_ ≠ gb220 ∧ (k_ ≠ gb221 ∧ k_ ≠ gb222)))) _ _ t242 t241 t245 t246 t249 _ ?side1 (laid_below hT zs) A59.out).mono ?_
     (case side1 => exact HO244.out)
     rintro e w65 ⟨v247, rfl, ho0, hb⟩
     refine ⟨_, rfl, ?_⟩
     replace HO_221001 := zA (V_below (vu HO_221001.out) hb)
     replace HO_222001 := zA (V_below (vu HO_222001.out) hb)
     replace HO237 := zA (V_below (vu HO237.out) hb)
     replace HO240 := zA (V_below (vu HO240.out) hb)
     replace HO244 := zA (V_below (vu HO244.out) hb)
     have HO248 := zA (V_lower (V_mono (ok' := fun k_ => ((P0_1_ k_ ∨ P1_1_ k_) ∨ w.heap.size ≤ k_) ∧ k_ ≠ gb220 ∧ k_ ≠ gb221 ∧ k_ ≠ gb222) ho0 (fun k_ hk_ => ⟨Or.elim hk_ (fun hs_ => hs_.1) (fun hn_ => (.inr (Nat.le_trans (below_size zs) hn_))), Or.elim hk_ (fun hs_ => hs_.2.1) (fun hn_ => (zj BK220 k_ hn_)), Or.elim hk_ (fun hs_ => hs_.2.2.1) (fun hn_ => (zj BK221 k_ hn_)), Or.elim hk_ (fun hs_ => hs_.2.2.2) (fun hn_ => (zj BK222 k_ hn_))⟩)) (below_size zs))
     replace BK220 := zb BK220 hb
     replace BK221 := zb BK221 hb
     replace BK222 := zb BK222 hb
     replace HB := zf hb
     (try clear hb)
     (try clear hb2)
     (try clear hk)
     (try clear hi)
     (try clear ho0)
     obtain ⟨Ao67, co67, eo67⟩ := V_slice HO248.out
     (first | subst eo67 | (injection eo67 with f1_ f2_ f3_; have f4_ := f1_.symm; have f5_ := f3_.symm; clear f1_ f2_ f3_; subst f4_; subst f5_))
     refine hK.out _ _ (zz BK220) (fun hHeld => ?_)
     clear hK K
     refine norm_ (a' := ?_) ?_ ?_
     rotate_left
     ·show Act.put _ (some 38) _ = _
      simp only [Act.put, List.setIfInBounds_toArray, List.set_cons_zero, List.set_cons_succ, i64_w, i32_w]
      rfl
     refine one_ (i := 7) (N := none) #[true, true, true, true, true, true, true, true] rfl rfl (one_of HT_.out (by kernel_rfl)) (by decide) (fun K hK => ?_)
     have hs66 : w65.cell? ⟨gb222, 0, none⟩ = some (.bool x223000_4) := (blk_cell BK222.out 0).trans rfl
     have hfs66 := blk_frozen BK222.out 0
     have hns66_0 := NB220_222.out
     have hns66_1 := NB221_222.out
     have hms66_0 := NB222_220.out
     have hms66_1 := NB222_221.out
     have hs68 : w65.cell? ⟨gb222, 1, none⟩ = some (.slice none 0 0) := (blk_cell BK222.out 1).trans rfl
     have hfs68 := blk_frozen BK222.out 1
     have hns68_0 := NB220_222.out
     have hns68_1 := NB221_222.out
     have hms68_0 := NB222_220.out
     have hms68_1 := NB222_221.out
     have hs69 : w65.cell? ⟨gb222, 2, none⟩ = some (.int .i64 x223002_4) := (blk_cell BK222.out 2).trans rfl
     have hfs69 := blk_frozen BK222.out 2
     have hns69_0 := NB220_222.out
     have hns69_1 := NB221_222.out
     have hms69_0 := NB222_220.out
     have hms69_1 := NB222_221.out
     refine skip_ (w1 := ?_) (by rfl) rfl ?_ ?_
     rotate_left
     ·go_simp
      rfl
     refine hK.out _ _ ⟨((cell_far (p := ⟨gb222, _, none⟩) NB220_222.out _).trans (((cell_far (p := ⟨gb222, _, none⟩) NB220_222.out _).trans (((cell_far (p := ⟨gb222, _, none⟩) NB220_222.out _).trans (hHeld.1)))))), ((cell_far (p := ⟨gb222, _, none⟩) NB220_222.out _).trans (((cell_far (p := ⟨gb222, _, none⟩) NB220_222.out _).trans (((cell_far (p := ⟨gb222, _, none⟩) NB220_222.out _).trans (hHeld.2.1)))))), ((cell_far (p := ⟨gb222, _, none⟩) NB220_222.out _).trans (((cell_far (p := ⟨gb222, _, none⟩) NB220_222.out _).trans (((cell_far (p := ⟨gb222, _, none⟩) NB220_222.out _).trans (hHeld.2.2))))))⟩ (fun hHeld => ?_)
     clear hK K
     refine done_ (done_of HT_.out (by kernel_rfl)) ?_
     try go_wp2
     refine bodyPost_ret (results_cell_row rfl _ _ gb222 25 #[.bool t245, .slice Ao67 t246.length co67, .int .i64 t249] (0, 0) _ rfl (zy BK222) Tryd.underlying25 rfl (by kernel_rfl)) rfl ?_
     exact ⟨_, er, vu (V_mono (zv gb222 (V_mono HO248.out (fun k_ hk => (⟨hk, hk.2.2.2⟩ : _ ∧ k_ ≠ gb222))) (fun _ hk => hk.2) _ _ _) (fun _ hk => hk.1.1)), zs⟩
    rw [if_neg c57] at H
    have c57b0 : (t223 == t228) = false := by simpa using c57
    (try (have c57b1 : decide (t223 = t228) = false := by simpa using c57))
    (try (have c57b2 : (t223 == t228) = false := by simpa using c57))
    (try (have c57b3 : ¬ (t223 = t228) := by simpa using c57))
    clear c57
    (first | rw [c57b0] | (simp only [i64_w, i32_w]; rw [c57b0]) | skip)
    have H' := zA H
    clear H
    go_wp2
    go_meet
    case rel => exact ⟨_, (x223000_4), (x223002_4), H', ⟨by have := HJ4.out; first | omega | exact Nat.le_refl _⟩, ⟨vu HO237.out⟩, ⟨vu HO240.out⟩, ⟨vu HO_221001.out⟩, ⟨vu HO_222001.out⟩, ⟨zu BK220⟩, ⟨zu BK221⟩, ⟨zu BK222⟩, ⟨zs⟩⟩
   case rest =>
    clear HC48
    try clear c21
    try clear c30
    try clear c57
    try clear c57b0
    try clear c57b1
    try clear c57b2
    try clear hcz27_0 hcz27_1 hcz27_2 hfz27_0 hfz27_1 hfz27_2
    try clear hcz28_0 hcz28_1 hcz28_2 hfz28_0 hfz28_1 hfz28_2
    try clear hcz36_0 hcz36_1 hcz36_2 hfz36_0 hfz36_1 hfz36_2
    try clear hcz38_0 hcz38_1 hcz38_2 hfz38_0 hfz38_1 hfz38_2
    try clear hcz39_0 hcz39_1 hcz39_2 hfz39_0 hfz39_1 hfz39_2
    try clear hcz45_0 hcz45_1 hcz45_2 hfz45_0 hfz45_1 hfz45_2
    try clear hcz55_0 hcz55_1 hcz55_2 hfz55_0 hfz55_1 hfz55_2
    try clear hcz56_0 hcz56_1 hcz56_2 hfz56_0 hfz56_1 hfz56_2
    obtain ⟨kq, x223000_47, x223002_47, HA, HJ47, HO_5, HO_6, HO_221001, HO_222001, BK220, BK221, BK222, HB⟩ := hcut
    cases kq with
    | zero => exact absurd HA.out (by simp [raw_Add.j1])
    | succ kj47 =>
     have H := HA.out
     clear HA
     simp only [raw_Add.j1] at H
     obtain ⟨t250, A70, H⟩ := zh H
     by_cases c71 : t250 ≥ 0
     ·rw [if_pos c71] at H
      have c71b0 := decide_eq_true c71
      clear c71
      obtain ⟨t251, A72, H⟩ := zh H
      obtain ⟨⟨t254, t255, t258⟩, A73, H⟩ := zh H
      (try dsimp only at H)
      simp only [Option.some.injEq, Prod.mk.injEq] at H
      obtain ⟨rfl, rfl, rfl⟩ := H
      obtain ⟨Ao74, co74, eo74⟩ := V_slice HO_5.out
      subst eo74
      obtain ⟨Ao75, co75, eo75⟩ := V_slice HO_6.out
      subst eo75
      try go_wp2_with (first | ((with_reducible refine zG 114 rfl ?_); refine zL (some 41) rfl rfl Tryd.func114 #[.slice Ao74 t235.length co74, .slice Ao75 t238.length co75] rfl ?_; (with_reducible refine (limbs_Cmp.calls kj47 _ _ t235 _ _ t238 t250 _ ?side1 ?side2 ?side3 ?side4 A70.out).mono ?_); (case side1 => exact zk (V_reads' HO_5.out).2.2); (case side2 => exact (V_reads' HO_5.out).2.1); (case side3 => exact zk (V_reads' HO_6.out).2.2); (case side4 => exact (V_reads' HO_6.out).2.1); rintro e w76 ⟨rfl, hb⟩; refine ⟨_, rfl, ?_⟩; replace HO_5 := zA (V_below (vu HO_5.out) hb); replace HO_6 := zA (V_below (vu HO_6.out) hb); replace HO_221001 := zA (V_below (vu HO_221001.out) hb); replace HO_222001 := zA (V_below (vu HO_222001.out) hb); replace BK220 := zb BK220 hb; replace BK221 := zb BK221 hb; replace BK222 := zb BK222 hb; replace HB := zf hb))
      replace HO_5 := zA (V_drew HO_5.out)
      replace HO_6 := zA (V_drew HO_6.out)
      replace HO_221001 := zA (V_drew HO_221001.out)
      replace HO_222001 := zA (V_drew HO_222001.out)
      replace BK220 := zA (blk_drew BK220.out)
      replace BK221 := zA (blk_drew BK221.out)
      replace BK222 := zA (blk_drew BK222.out)
      replace HB := zA (below_drew1 HB.out)
      refine start_ (n := 8) (S := fun w' => z3 w' gb220 (.bool t223) (.slice Ao13 t224.length co13) (.int .i64 t227)) (ds := []) #[false, false, false, false, false, false, false, false] (by kernel_rfl) rfl rfl (zz BK220) (fun hHeld => ?_); refine with_tabW raw_Add.tab10 raw_Add.bits10 (fun HT_ HW_ => ?_)
      generalize w76.drew = w77 at HO_5 HO_6 HO_221001 HO_222001 BK220 BK221 BK222 HB hHeld ⊢
      refine pure_ (i := 0) (N := some 43) (v := ?_) (a' := ?_) #[true, false, false, false, false, false, false, false] rfl rfl (any_of HT_.out (by kernel_rfl)) (fun _ _ _ h => h) (Or.inl ⟨by rfl, ?_⟩) ?_ ?_
      rotate_left
      ·intro w'
       go_simp
       with_reducible rfl
      rotate_left
      ·exact zq
      refine pure_ (i := 2) (N := some 45) (v := ?_) (a' := ?_) #[true, false, true, false, false, false, false, false] rfl rfl (any_of HT_.out (by kernel_rfl)) (fun _ _ _ h => h) (Or.inl ⟨by rfl, ?_⟩) ?_ ?_
      rotate_left
      ·intro w'
       go_simp
       with_reducible rfl
      rotate_left
      ·exact zq
      refine pure_ (i := 3) (N := some 46) (v := ?_) (a' := ?_) #[true, false, true, true, false, false, false, false] rfl rfl (any_of HT_.out (by kernel_rfl)) (fun _ _ _ h => h) (Or.inl ⟨by rfl, ?_⟩) ?_ ?_
      rotate_left
      ·intro w'
       go_simp
       with_reducible rfl
      rotate_left
      ·exact zq
      refine pure_ (i := 5) (N := some 48) (v := ?_) (a' := ?_) #[true, false, true, true, false, true, false, false] rfl rfl (any_of HT_.out (by kernel_rfl)) (fun _ _ _ h => h) (Or.inl ⟨by rfl, ?_⟩) ?_ ?_
      rotate_left
      ·intro w'
       go_simp
       with_reducible rfl
      rotate_left
      ·exact zq
      refine take_ (i := 1) (N := some 44) (v := ?_) (a' := ?_) #[true, true, true, true, false, true, false, false] rfl rfl (take_ofW HT_.out HW_.out (by kernel_rfl)) (fun _ _ _ h => h) (Or.inl ⟨by rfl, ?_⟩) hHeld ?_ ?_
      rotate_left
      ·rintro w' ⟨s0, s1, s2⟩
       go_simp
       with_reducible rfl
      rotate_left
      ·exact zq
      refine one_ (i := 4) (N := some 47) #[true, true, true, true, true, true, false, false] rfl rfl (one_of HT_.out (by kernel_rfl)) (by decide) (fun K hK => ?_)
      refine goes_ Tryd.func115 (by kernel_rfl) rfl #[.slice Ao74 t235.length co74, .slice Ao75 t238.length co75] (by rfl) rfl rfl ga ?_
      with_reducible refine (limbs_Sub.calls kj47 _ _ t235 _ _ t238 t251 _ ?side1 ?side2 ?side3 ?side4 A72.out).mono ?_
      (case side1 => exact zk (V_reads' HO_5.out).2.2)
      (case side2 => exact (V_reads' HO_5.out).2.1)
      (case side3 => exact zk (V_reads' HO_6.out).2.2)
      (case side4 => exact (V_reads' HO_6.out).2.1)
      rintro e w78 ⟨v252, rfl, ho0, hb⟩
      refine ⟨_, rfl, ?_⟩
      replace HO_5 := zA (V_below (vu HO_5.out) hb)
      replace HO_6 := zA (V_below (vu HO_6.out) hb)
      replace HO_221001 := zA (V_below (vu HO_221001.out) hb)
      replace HO_222001 := zA (V_below (vu HO_222001.out) hb)
      have HO253 := zA (V_lower (V_mono (ok' := fun k_ => ((P0_1_ k_ ∨ P1_1_ k_) ∨ w.heap.size ≤ k_) ∧ k_ ≠ gb220 ∧ k_ ≠ gb221 ∧ k_ ≠ gb222) ho0 (fun k_ hk_ => ⟨(.inr (Nat.le_trans (below_size zs) hk_)), (zj BK220 k_ hk_), (zj BK221 k_ hk_), (zj BK222 k_ hk_)⟩)) (below_size zs))
      replace BK220 := zb BK220 hb
      replace BK221 := zb BK221 hb
      replace BK222 := zb BK222 hb
      replace HB := zf hb
      (try clear hb)
      (try clear hb2)
      (try clear hk)
      (try clear hi)
      (try clear ho0)
      obtain ⟨Ao79, co79, eo79⟩ := V_slice HO253.out
      (first | subst eo79 | (injection eo79 with f1_ f2_ f3_; have f4_ := f1_.symm; have f5_ := f3_.symm; clear f1_ f2_ f3_; subst f4_; subst f5_))
      refine hK.out _ _ (zz BK220) (fun hHeld => ?_)
      clear hK K
      refine norm_ (a' := ?_) ?_ ?_
      rotate_left
      ·show Act.put _ (some 47) _ = _
       simp only [Act.put, List.setIfInBounds_toArray, List.set_cons_zero, List.set_cons_succ, i64_w, i32_w]
       rfl
      refine one_ (i := 6) (N := some 49) #[true, true, true, true, true, true, true, false] rfl rfl (one_of HT_.out (by kernel_rfl)) (by decide) (fun K hK => ?_)
      refine goes_ Tryd.func91 (by kernel_rfl) rfl #[.bool t223, .slice Ao79 t251.length co79, .int .i64 t241] (by rfl) rfl rfl ga ?_
      with_reducible refine (raw_Form.calls kj47 t223 (fun k_ => (((P0_1_ k_ ∨ P1_1_ k_) ∨ w.heap.size ≤ k_) ∧ (k_ ≠ gb220 ∧ (k_ ≠ gb221 ∧ k_ ≠ gb222)))) _ _ t251 t241 t254 t255 t258 _ ?side1 (laid_below hT zs) A73.out).mono ?_
      (case side1 => exact HO253.out)
      rintro e w80 ⟨v256, rfl, ho0, hb⟩
      refine ⟨_, rfl, ?_⟩
      replace HO_5 := zA (V_below (vu HO_5.out) hb)
      replace HO_6 := zA (V_below (vu HO_6.out) hb)
      replace HO_221001 := zA (V_below (vu HO_221001.out) hb)
      replace HO_222001 := zA (V_below (vu HO_222001.out) hb)
      replace HO253 := zA (V_below (vu HO253.out) hb)
      have HO257 := zA (V_lower (V_mono (ok' := fun k_ => ((P0_1_ k_ ∨ P1_1_ k_) ∨ w.heap.size ≤ k_) ∧ k_ ≠ gb220 ∧ k_ ≠ gb221 ∧ k_ ≠ gb222) ho0 (fun k_ hk_ => ⟨Or.elim hk_ (fun hs_ => hs_.1) (fun hn_ => (.inr (Nat.le_trans (below_size zs) hn_))), Or.elim hk_ (fun hs_ => hs_.2.1) (fun hn_ => (zj BK220 k_ hn_)), Or.elim hk_ (fun hs_ => hs_.2.2.1) (fun hn_ => (zj BK221 k_ hn_)), Or.elim hk_ (fun hs_ => hs_.2.2.2) (fun hn_ => (zj BK222 k_ hn_))⟩)) (below_size zs))
      replace BK220 := zb BK220 hb
      replace BK221 := zb BK221 hb
      replace BK222 := zb BK222 hb
      replace HB := zf hb
      (try clear hb)
      (try clear hb2)
      (try clear hk)
      (try clear hi)
      (try clear ho0)
      obtain ⟨Ao82, co82, eo82⟩ := V_slice HO257.out
      (first | subst eo82 | (injection eo82 with f1_ f2_ f3_; have f4_ := f1_.symm; have f5_ := f3_.symm; clear f1_ f2_ f3_; subst f4_; subst f5_))
      refine hK.out _ _ (zz BK220) (fun hHeld => ?_)
      clear hK K
      refine norm_ (a' := ?_) ?_ ?_
      rotate_left
      ·show Act.put _ (some 49) _ = _
       simp only [Act.put, List.setIfInBounds_toArray, List.set_cons_zero, List.set_cons_succ, i64_w, i32_w]
       rfl
      refine one_ (i := 7) (N := none) #[true, true, true, true, true, true, true, true] rfl rfl (one_of HT_.out (by kernel_rfl)) (by decide) (fun K hK => ?_)
      have hs81 : w80.cell? ⟨gb222, 0, none⟩ = some (.bool x223000_47) := (blk_cell BK222.out 0).trans rfl
      have hfs81 := blk_frozen BK222.out 0
      have hns81_0 := NB220_222.out
      have hns81_1 := NB221_222.out
      have hms81_0 := NB222_220.out
      have hms81_1 := NB222_221.out
      have hs83 : w80.cell? ⟨gb222, 1, none⟩ = some (.slice none 0 0) := (blk_cell BK222.out 1).trans rfl
      have hfs83 := blk_frozen BK222.out 1
      have hns83_0 := NB220_222.out
      have hns83_1 := NB221_222.out
      have hms83_0 := NB222_220.out
      have hms83_1 := NB222_221.out
      have hs84 : w80.cell? ⟨gb222, 2, none⟩ = some (.int .i64 x223002_47) := (blk_cell BK222.out 2).trans rfl
      have hfs84 := blk_frozen BK222.out 2
      have hns84_0 := NB220_222.out
      have hns84_1 := NB221_222.out
      have hms84_0 := NB222_220.out
      have hms84_1 := NB222_221.out
      refine skip_ (w1 := ?_) (by rfl) rfl ?_ ?_
      rotate_left
      ·go_simp
       rfl
      refine hK.out _ _ ⟨((cell_far (p := ⟨gb222, _, none⟩) NB220_222.out _).trans (((cell_far (p := ⟨gb222, _, none⟩) NB220_222.out _).trans (((cell_far (p := ⟨gb222, _, none⟩) NB220_222.out _).trans (hHeld.1)))))), ((cell_far (p := ⟨gb222, _, none⟩) NB220_222.out _).trans (((cell_far (p := ⟨gb222, _, none⟩) NB220_222.out _).trans (((cell_far (p := ⟨gb222, _, none⟩) NB220_222.out _).trans (hHeld.2.1)))))), ((cell_far (p := ⟨gb222, _, none⟩) NB220_222.out _).trans (((cell_far (p := ⟨gb222, _, none⟩) NB220_222.out _).trans (((cell_far (p := ⟨gb222, _, none⟩) NB220_222.out _).trans (hHeld.2.2))))))⟩ (fun hHeld => ?_)
      clear hK K
      refine done_ (done_of HT_.out (by kernel_rfl)) ?_
      try go_wp2
      refine bodyPost_ret (results_cell_row rfl _ _ gb222 25 #[.bool t254, .slice Ao82 t255.length co82, .int .i64 t258] (0, 0) _ rfl (zy BK222) Tryd.underlying25 rfl (by kernel_rfl)) rfl ?_
      exact ⟨_, er, vu (V_mono (zv gb222 (V_mono HO257.out (fun k_ hk => (⟨hk, hk.2.2.2⟩ : _ ∧ k_ ≠ gb222))) (fun _ hk => hk.2) _ _ _) (fun _ hk => hk.1.1)), zs⟩
     rw [if_neg c71] at H
     have c71b0 := decide_eq_false c71
     clear c71
     obtain ⟨t259, A85, H⟩ := zh H
     obtain ⟨⟨t262, t263, t266⟩, A86, H⟩ := zh H
     (try dsimp only at H)
     simp only [Option.some.injEq, Prod.mk.injEq] at H
     obtain ⟨rfl, rfl, rfl⟩ := H
     obtain ⟨Ao87, co87, eo87⟩ := V_slice HO_5.out
     subst eo87
     obtain ⟨Ao88, co88, eo88⟩ := V_slice HO_6.out
     subst eo88
     try go_wp2_with (first | ((with_reducible refine zG 114 rfl ?_); refine zL (some 41) rfl rfl Tryd.func114 #[.slice Ao87 t235.length co87, .slice Ao88 t238.length co88] rfl ?_; (with_reducible refine (limbs_Cmp.calls kj47 _ _ t235 _ _ t238 t250 _ ?side1 ?side2 ?side3 ?side4 A70.out).mono ?_); (case side1 => exact zk (V_reads' HO_5.out).2.2); (case side2 => exact (V_reads' HO_5.out).2.1); (case side3 => exact zk (V_reads' HO_6.out).2.2); (case side4 => exact (V_reads' HO_6.out).2.1); rintro e w89 ⟨rfl, hb⟩; refine ⟨_, rfl, ?_⟩; replace HO_5 := zA (V_below (vu HO_5.out) hb); replace HO_6 := zA (V_below (vu HO_6.out) hb); replace HO_221001 := zA (V_below (vu HO_221001.out) hb); replace HO_222001 := zA (V_below (vu HO_222001.out) hb); replace BK220 := zb BK220 hb; replace BK221 := zb BK221 hb; replace BK222 := zb BK222 hb; replace HB := zf hb))
     replace HO_5 := zA (V_drew HO_5.out)
     replace HO_6 := zA (V_drew HO_6.out)
     replace HO_221001 := zA (V_drew HO_221001.out)
     replace HO_222001 := zA (V_drew HO_222001.out)
     replace BK220 := zA (blk_drew BK220.out)
     replace BK221 := zA (blk_drew BK221.out)
     replace BK222 := zA (blk_drew BK222.out)
     replace HB := zA (below_drew1 HB.out)
     refine start_ (n := 8) (S := fun w' => z3 w' gb221 (.bool t228) (.slice Ao17 t229.length co17) (.int .i64 t232)) (ds := []) #[false, false, false, false, false, false, false, false] (by kernel_rfl) rfl rfl (zz BK221) (fun hHeld => ?_); refine with_tabW raw_Add.tab11 raw_Add.bits11 (fun HT_ HW_ => ?_)
     generalize w89.drew = w90 at HO_5 HO_6 HO_221001 HO_222001 BK220 BK221 BK222 HB hHeld ⊢
     refine pure_ (i := 0) (N := some 50) (v := ?_) (a' := ?_) #[true, false, false, false, false, false, false, false] rfl rfl (any_of HT_.out (by kernel_rfl)) (fun _ _ _ h => h) (Or.inl ⟨by rfl, ?_⟩) ?_ ?_
     rotate_left
     ·intro w'
      go_simp
      with_reducible rfl
     rotate_left
     ·exact zq
     refine pure_ (i := 2) (N := some 52) (v := ?_) (a' := ?_) #[true, false, true, false, false, false, false, false] rfl rfl (any_of HT_.out (by kernel_rfl)) (fun _ _ _ h => h) (Or.inl ⟨by rfl, ?_⟩) ?_ ?_
     rotate_left
     ·intro w'
      go_simp
      with_reducible rfl
     rotate_left
     ·exact zq
     refine pure_ (i := 3) (N := some 53) (v := ?_) (a' := ?_) #[true, false, true, true, false, false, false, false] rfl rfl (any_of HT_.out (by kernel_rfl)) (fun _ _ _ h => h) (Or.inl ⟨by rfl, ?_⟩) ?_ ?_
     rotate_left
     ·intro w'
      go_simp
      with_reducible rfl
     rotate_left
     ·exact zq
     refine pure_ (i := 5) (N := some 55) (v := ?_) (a' := ?_) #[true, false, true, true, false, true, false, false] rfl rfl (any_of HT_.out (by kernel_rfl)) (fun _ _ _ h => h) (Or.inl ⟨by rfl, ?_⟩) ?_ ?_
     rotate_left
     ·intro w'
      go_simp
      with_reducible rfl
     rotate_left
     ·exact zq
     refine take_ (i := 1) (N := some 51) (v := ?_) (a' := ?_) #[true, true, true, true, false, true, false, false] rfl rfl (take_ofW HT_.out HW_.out (by kernel_rfl)) (fun _ _ _ h => h) (Or.inl ⟨by rfl, ?_⟩) hHeld ?_ ?_
     rotate_left
     ·rintro w' ⟨s0, s1, s2⟩
      go_simp
      with_reducible rfl
     rotate_left
     ·exact zq
     refine one_ (i := 4) (N := some 54) #[true, true, true, true, true, true, false, false] rfl rfl (one_of HT_.out (by kernel_rfl)) (by decide) (fun K hK => ?_)
     refine goes_ Tryd.func115 (by kernel_rfl) rfl #[.slice Ao88 t238.length co88, .slice Ao87 t235.length co87] (by rfl) rfl rfl ga ?_
     with_reducible refine (limbs_Sub.calls kj47 _ _ t238 _ _ t235 t259 _ ?side1 ?side2 ?side3 ?side4 A85.out).mono ?_
     (case side1 => exact zk (V_reads' HO_6.out).2.2)
     (case side2 => exact (V_reads' HO_6.out).2.1)
     (case side3 => exact zk (V_reads' HO_5.out).2.2)
     (case side4 => exact (V_reads' HO_5.out).2.1)
     rintro e w91 ⟨v260, rfl, ho0, hb⟩
     refine ⟨_, rfl, ?_⟩
     replace HO_5 := zA (V_below (vu HO_5.out) hb)
     replace HO_6 := zA (V_below (vu HO_6.out) hb)
     replace HO_221001 := zA (V_below (vu HO_221001.out) hb)
     replace HO_222001 := zA (V_below (vu HO_222001.out) hb)
     have HO261 := zA (V_lower (V_mono (ok' := fun k_ => ((P0_1_ k_ ∨ P1_1_ k_) ∨ w.heap.size ≤ k_) ∧ k_ ≠ gb220 ∧ k_ ≠ gb221 ∧ k_ ≠ gb222) ho0 (fun k_ hk_ => ⟨(.inr (Nat.le_trans (below_size zs) hk_)), (zj BK220 k_ hk_), (zj BK221 k_ hk_), (zj BK222 k_ hk_)⟩)) (below_size zs))
     replace BK220 := zb BK220 hb
     replace BK221 := zb BK221 hb
     replace BK222 := zb BK222 hb
     replace HB := zf hb
     (try clear hb)
     (try clear hb2)
     (try clear hk)
     (try clear hi)
     (try clear ho0)
     obtain ⟨Ao92, co92, eo92⟩ := V_slice HO261.out
     (first | subst eo92 | (injection eo92 with f1_ f2_ f3_; have f4_ := f1_.symm; have f5_ := f3_.symm; clear f1_ f2_ f3_; subst f4_; subst f5_))
     refine hK.out _ _ (zz BK221) (fun hHeld => ?_)
     clear hK K
     refine norm_ (a' := ?_) ?_ ?_
     rotate_left
     ·show Act.put _ (some 54) _ = _
      simp only [Act.put, List.setIfInBounds_toArray, List.set_cons_zero, List.set_cons_succ, i64_w, i32_w]
      rfl
     refine one_ (i := 6) (N := some 56) #[true, true, true, true, true, true, true, false] rfl rfl (one_of HT_.out (by kernel_rfl)) (by decide) (fun K hK => ?_)
     refine goes_ Tryd.func91 (by kernel_rfl) rfl #[.bool t228, .slice Ao92 t259.length co92, .int .i64 t241] (by rfl) rfl rfl ga ?_
     with_reducible refine (raw_Form.calls kj47 t228 (fun k_ => (((P0_1_ k_ ∨ P1_1_ k_) ∨ w.heap.size ≤ k_) ∧ (k_ ≠ gb220 ∧ (k_ ≠ gb221 ∧ k_ ≠ gb222)))) _ _ t259 t241 t262 t263 t266 _ ?side1 (laid_below hT zs) A86.out).mono ?_
     (case side1 => exact HO261.out)
     rintro e w93 ⟨v264, rfl, ho0, hb⟩
     refine ⟨_, rfl, ?_⟩
     replace HO_5 := zA (V_below (vu HO_5.out) hb)
     replace HO_6 := zA (V_below (vu HO_6.out) hb)
     replace HO_221001 := zA (V_below (vu HO_221001.out) hb)
     replace HO_222001 := zA (V_below (vu HO_222001.out) hb)
     replace HO261 := zA (V_below (vu HO261.out) hb)
     have HO265 := zA (V_lower (V_mono (ok' := fun k_ => ((P0_1_ k_ ∨ P1_1_ k_) ∨ w.heap.size ≤ k_) ∧ k_ ≠ gb220 ∧ k_ ≠ gb221 ∧ k_ ≠ gb222) ho0 (fun k_ hk_ => ⟨Or.elim hk_ (fun hs_ => hs_.1) (fun hn_ => (.inr (Nat.le_trans (below_size zs) hn_))), Or.elim hk_ (fun hs_ => hs_.2.1) (fun hn_ => (zj BK220 k_ hn_)), Or.elim hk_ (fun hs_ => hs_.2.2.1) (fun hn_ => (zj BK221 k_ hn_)), Or.elim hk_ (fun hs_ => hs_.2.2.2) (fun hn_ => (zj BK222 k_ hn_))⟩)) (below_size zs))
     replace BK220 := zb BK220 hb
     replace BK221 := zb BK221 hb
     replace BK222 := zb BK222 hb
     replace HB := zf hb
     (try clear hb)
     (try clear hb2)
     (try clear hk)
     (try clear hi)
     (try clear ho0)
     obtain ⟨Ao95, co95, eo95⟩ := V_slice HO265.out
     (first | subst eo95 | (injection eo95 with f1_ f2_ f3_; have f4_ := f1_.symm; have f5_ := f3_.symm; clear f1_ f2_ f3_; subst f4_; subst f5_))
     refine hK.out _ _ (zz BK221) (fun hHeld => ?_)
     clear hK K
     refine norm_ (a' := ?_) ?_ ?_
     rotate_left
     ·show Act.put _ (some 56) _ = _
      simp only [Act.put, List.setIfInBounds_toArray, List.set_cons_zero, List.set_cons_succ, i64_w, i32_w]
      rfl
     refine one_ (i := 7) (N := none) #[true, true, true, true, true, true, true, true] rfl rfl (one_of HT_.out (by kernel_rfl)) (by decide) (fun K hK => ?_)
     have hs94 : w93.cell? ⟨gb222, 0, none⟩ = some (.bool x223000_47) := (blk_cell BK222.out 0).trans rfl
     have hfs94 := blk_frozen BK222.out 0
     have hns94_0 := NB220_222.out
     have hns94_1 := NB221_222.out
     have hms94_0 := NB222_220.out
     have hms94_1 := NB222_221.out
     have hs96 : w93.cell? ⟨gb222, 1, none⟩ = some (.slice none 0 0) := (blk_cell BK222.out 1).trans rfl
     have hfs96 := blk_frozen BK222.out 1
     have hns96_0 := NB220_222.out
     have hns96_1 := NB221_222.out
     have hms96_0 := NB222_220.out
     have hms96_1 := NB222_221.out
     have hs97 : w93.cell? ⟨gb222, 2, none⟩ = some (.int .i64 x223002_47) := (blk_cell BK222.out 2).trans rfl
     have hfs97 := blk_frozen BK222.out 2
     have hns97_0 := NB220_222.out
     have hns97_1 := NB221_222.out
     have hms97_0 := NB222_220.out
     have hms97_1 := NB222_221.out
     refine skip_ (w1 := ?_) (by rfl) rfl ?_ ?_
     rotate_left
     ·go_simp
      rfl
     refine hK.out _ _ ⟨((cell_far (p := ⟨gb222, _, none⟩) NB221_222.out _).trans (((cell_far (p := ⟨gb222, _, none⟩) NB221_222.out _).trans (((cell_far (p := ⟨gb222, _, none⟩) NB221_222.out _).trans (hHeld.1)))))), ((cell_far (p := ⟨gb222, _, none⟩) NB221_222.out _).trans (((cell_far (p := ⟨gb222, _, none⟩) NB221_222.out _).trans (((cell_far (p := ⟨gb222, _, none⟩) NB221_222.out _).trans (hHeld.2.1)))))), ((cell_far (p := ⟨gb222, _, none⟩) NB221_222.out _).trans (((cell_far (p := ⟨gb222, _, none⟩) NB221_222.out _).trans (((cell_far (p := ⟨gb222, _, none⟩) NB221_222.out _).trans (hHeld.2.2))))))⟩ (fun hHeld => ?_)
     clear hK K
     refine done_ (done_of HT_.out (by kernel_rfl)) ?_
     try go_wp2
     refine bodyPost_ret (results_cell_row rfl _ _ gb222 25 #[.bool t262, .slice Ao95 t263.length co95, .int .i64 t266] (0, 0) _ rfl (zy BK222) Tryd.underlying25 rfl (by kernel_rfl)) rfl ?_
     exact ⟨_, er, vu (V_mono (zv gb222 (V_mono HO265.out (fun k_ hk => (⟨hk, hk.2.2.2⟩ : _ ∧ k_ ≠ gb222))) (fun _ hk => hk.2) _ _ _) (fun _ hk => hk.1.1)), zs⟩
end Go.Proofs.YtemfckibdojbbaaDoor.PAll
