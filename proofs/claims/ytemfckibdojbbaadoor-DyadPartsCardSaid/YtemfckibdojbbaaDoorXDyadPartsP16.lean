/- Printed functions, merged by a program of this session. -/
import Derived.Test.YtemfckibdojbbaaDoorXDyadPartsP0
import Derived.Test.YtemfckibdojbbaaDoorXDyadPartsP14
import Derived.Test.YtemfckibdojbbaaDoorXDyadPartsP15
import Derived.Laws.StructEq
import Derived.Test.YtemfckibdojbbaaDoorXDyadPartsSh
namespace Go.Proofs.YtemfckibdojbbaaDoor.PAll
open Go.RowKit Go.Proofs.YtemfckibdojbbaaDoorW.PrintWords Go.Proofs.YtemfckibdojbbaaDoorW.PrintLast Go.Proofs.YtemfckibdojbbaaDoorW.PrintMore Go.Proofs.YtemfckibdojbbaaDoorW.PrintWords.Kd
attribute [local go_sem] max2_int min2_int max_two min_two max_three min_three max_four min_four   -- for this text's walks alone
set_option linter.unusedVariables false
set_option linter.unusedSimpArgs false
attribute [local go_sem] ext135 ext136
mutual
def ulpref04_Plus.j0 : Nat → Bool → List Int → Int → Bool → List Int → Int → Option (Bool × List Int × Int)
 | 0, _, _, _, _, _, _ => none
 | k + 1, x640000, x640001, x640002, x641000, x641001, x641002 => if (x641001.length : Int) = 0 then (some (x640000, x640001, x640002)) else (ulpref04_Plus.j1 k x640000 x640001 x640002 x641000 x641001 x641002)
def ulpref04_Plus.j1 : Nat → Bool → List Int → Int → Bool → List Int → Int → Option (Bool × List Int × Int)
 | 0, _, _, _, _, _, _ => none
 | k + 1, x640000, x640001, x640002, x641000, x641001, x641002 => (ulpref03_Shl.f k x640001 (wrap64 (x640002 - (mn x640002 x641002)))).bind fun t641 => ((ulpref03_Shl.f k x641001 (wrap64 (x641002 - (mn x640002 x641002)))).bind fun t644 => (if (x640000 == x641000) = true then ((ulpref03_Add.f k t641 t644).bind fun t647 => ((ulpref04_Form.f k x640000 t647 (mn x640002 x641002)).bind fun bt650 => (some (bt650.1, bt650.2.1, bt650.2.2)))) else ((ulpref03_Cmp.f k t641 t644).bind fun t655 => (if t655 ≥ 0 then ((ulpref03_Sub.f k t641 t644).bind fun t656 => ((ulpref04_Form.f k x640000 t656 (mn x640002 x641002)).bind fun bt659 => (some (bt659.1, bt659.2.1, bt659.2.2)))) else ((ulpref03_Sub.f k t644 t641).bind fun t664 => ((ulpref04_Form.f k x641000 t664 (mn x640002 x641002)).bind fun bt667 => (some (bt667.1, bt667.2.1, bt667.2.2))))))))
end
def ulpref04_Plus.f (k : Nat) (a0_0 : Bool) (l0_1 : List Int) (a0_2 : Int) (a1_0 : Bool) (l1_1 : List Int) (a1_2 : Int) : Option (Bool × List Int × Int) := (ulpref04_One.f k a0_0 l0_1 a0_2).bind fun bt629 => ((ulpref04_One.f k a1_0 l1_1 a1_2).bind fun bt634 => (if (bt629.2.1.length : Int) = 0 then (some (bt634.1, bt634.2.1, bt634.2.2)) else (ulpref04_Plus.j0 k bt629.1 bt629.2.1 bt629.2.2 bt634.1 bt634.2.1 bt634.2.2)))
def ulpref04_Plus.T1 : Bool × List (List Nat × List Nat) := (true, [([], []), ([0], [0]), ([], []), ([2, 1], [2]), ([], []), ([], []), ([4, 1, 3, 0, 1, 4, 5], [1, 4]), ([5, 3, 6, 0, 1, 2, 3, 4, 5, 6], [3, 5])])
def ulpref04_Plus.B1 : List Nat := [0, 1, 0, 7, 0, 0, 63, 127]
theorem ulpref04_Plus.tab1 : rtab .any (opsOf Tryd.f68 1) = ulpref04_Plus.T1 := by kernel_rfl
theorem ulpref04_Plus.bits1 : waitsOk ulpref04_Plus.T1.2 ulpref04_Plus.B1 = true := by kernel_rfl
def ulpref04_Plus.T10 : Bool × List (List Nat × List Nat) := (true, [([], []), ([0], [0]), ([], []), ([], []), ([2, 3], [2, 3]), ([], []), ([1, 4, 5, 4], [1, 4, 5]), ([6, 6, 0, 1, 2, 3, 4, 5, 6], [6])])
def ulpref04_Plus.B10 : List Nat := [0, 1, 0, 0, 12, 0, 63, 127]
theorem ulpref04_Plus.tab10 : rtab .any (opsOf Tryd.f68 10) = ulpref04_Plus.T10 := by kernel_rfl
theorem ulpref04_Plus.bits10 : waitsOk ulpref04_Plus.T10.2 ulpref04_Plus.B10 = true := by kernel_rfl
def ulpref04_Plus.T12 : Bool × List (List Nat × List Nat) := (true, [([], []), ([0], [0]), ([], []), ([], []), ([2, 3], [2, 3]), ([], []), ([1, 4, 5, 4], [1, 4, 5]), ([6, 6, 0, 1, 2, 3, 4, 5, 6], [6])])
def ulpref04_Plus.B12 : List Nat := [0, 1, 0, 0, 12, 0, 63, 127]
theorem ulpref04_Plus.tab12 : rtab .any (opsOf Tryd.f68 12) = ulpref04_Plus.T12 := by kernel_rfl
theorem ulpref04_Plus.bits12 : waitsOk ulpref04_Plus.T12.2 ulpref04_Plus.B12 = true := by kernel_rfl
def ulpref04_Plus.T13 : Bool × List (List Nat × List Nat) := (true, [([], []), ([0], [0]), ([], []), ([], []), ([2, 3], [2, 3]), ([], []), ([1, 4, 5, 4], [1, 4, 5]), ([6, 6, 0, 1, 2, 3, 4, 5, 6], [6])])
def ulpref04_Plus.B13 : List Nat := [0, 1, 0, 0, 12, 0, 63, 127]
theorem ulpref04_Plus.tab13 : rtab .any (opsOf Tryd.f68 13) = ulpref04_Plus.T13 := by kernel_rfl
theorem ulpref04_Plus.bits13 : waitsOk ulpref04_Plus.T13.2 ulpref04_Plus.B13 = true := by kernel_rfl
set_option maxHeartbeats 8000000 in
set_option maxRecDepth 100000 in
theorem ulpref04_Plus.calls (k : Nat) (a0_0 : Bool) (A0_1 : Option Addr) (c0_1 : Nat) (l0_1 : List Int) (a0_2 : Int) (a1_0 : Bool) (A1_1 : Option Addr) (c1_1 : Nat) (l1_1 : List Int) (a1_2 : Int) (r1 : Bool) (r2 : List Int) (r3 : Int) (w : World) (hr0_1 : Kd.C (Kd.int .u64) w A0_1 l0_1.length l0_1) (hc0_1 : l0_1.length ≤ c0_1) (hr1_1 : Kd.C (Kd.int .u64) w A1_1 l1_1.length l1_1) (hc1_1 : l1_1.length ≤ c1_1) (h : ulpref04_Plus.f k a0_0 l0_1 a0_2 a1_0 l1_1 a1_2 = some (r1, r2, r3)) :
  Calls Tryd.prog 68 #[.agg #[.bool a0_0, .slice A0_1 l0_1.length c0_1, .int .i64 a0_2], .agg #[.bool a1_0, .slice A1_1 l1_1.length c1_1, .int .i64 a1_2]] w fun e w' => ∃ v1_ : Value, e = .returned (.agg #[.bool r1, v1_, .int .i64 r3]) ∧ Kd.R (Kd.int .u64) 43 w' w.heap.size (fun _ => True) v1_ r2 ∧ Below w.heap.size w w' := by
 have hu25 := Tryd.underlying25
 have HR0_1 := zA hr0_1
 have HC0_1 := zA hc0_1
 clear hr0_1 hc0_1
 have HR1_1 := zA hr1_1
 have HC1_1 := zA hc1_1
 clear hr1_1 hc1_1
 have HB := zA (Below.refl w.heap.size w)
 have H : ((ulpref04_One.f k a0_0 l0_1 a0_2).bind fun bt629 => ((ulpref04_One.f k a1_0 l1_1 a1_2).bind fun bt634 => (if (bt629.2.1.length : Int) = 0 then (some (bt634.1, bt634.2.1, bt634.2.2)) else (ulpref04_Plus.j0 k bt629.1 bt629.2.1 bt629.2.2 bt634.1 bt634.2.1 bt634.2.2)))) = some (r1, r2, r3) := h
 clear h
 obtain ⟨⟨t629, t630, t633⟩, A3, H⟩ := zh H
 (try dsimp only at H)
 obtain ⟨⟨t634, t635, t638⟩, A4, H⟩ := zh H
 (try dsimp only at H)
 have HC5 := zA H
 clear H
 go_enter Tryd.func68, Tryd.ntmps68
 try go_wp2_with (first | ((with_reducible refine zD 2 rfl ?_); refine zn (N := 2) (cs := #[.bool a0_0, .slice A0_1 l0_1.length c0_1, .int .i64 a0_2]) (t := 25) rfl rfl ?_; intro gb626 hg w6 hbox hb; have BK626 := zA (hbox); have GW626 := zw hg; have GE626 := zw hg; replace HB := ze hb; clear hb hbox hg) | ((with_reducible refine zD 3 rfl ?_); refine zn (N := 3) (cs := #[.bool a1_0, .slice A1_1 l1_1.length c1_1, .int .i64 a1_2]) (t := 25) rfl rfl ?_; intro gb627 hg w7 hbox hb; have BK627 := zA (hbox); have GW627 := zx hg; have GE627 := zx hg; replace HB := zf hb; have NB626_627 := zl BK626 hg; have NB627_626 := zg BK626 hg; replace BK626 := zb BK626 hb; clear hb hbox hg) | ((with_reducible refine zD 4 rfl ?_); refine zn (N := 4) (cs := #[.bool false, .slice none 0 0, .int .i64 0]) (t := 25) rfl rfl ?_; intro gb628 hg w8 hbox hb; have BK628 := zA (hbox); have GW628 := zx hg; have GE628 := zx hg; replace HB := zf hb; have NB626_628 := zl BK626 hg; have NB628_626 := zg BK626 hg; replace BK626 := zb BK626 hb; have NB627_628 := zl BK627 hg; have NB628_627 := zg BK627 hg; replace BK627 := zb BK627 hb; clear hb hbox hg))
 replace BK626 := zA (blk_drew BK626.out)
 replace BK627 := zA (blk_drew BK627.out)
 replace BK628 := zA (blk_drew BK628.out)
 replace HB := zA (below_drew1 HB.out)
 refine start_ (n := 8) (S := fun w' => z4 w' gb626 (.bool a0_0) (.slice A0_1 l0_1.length c0_1) (.int .i64 a0_2) (z3 w' gb627 (.bool a1_0) (.slice A1_1 l1_1.length c1_1) (.int .i64 a1_2))) (ds := []) #[false, false, false, false, false, false, false, false] (by kernel_rfl) rfl rfl (za BK626 (zz BK627)) (fun hHeld => ?_); refine with_tabW ulpref04_Plus.tab1 ulpref04_Plus.bits1 (fun HT_ HW_ => ?_)
 generalize w8.drew = w9 at BK626 BK627 BK628 HB hHeld ⊢
 refine take_ (i := 0) (N := some 10) (v := ?_) (a' := ?_) #[true, false, false, false, false, false, false, false] rfl rfl (take_ofW HT_.out HW_.out (by kernel_rfl)) (fun _ _ _ h => h) (Or.inl ⟨by rfl, ?_⟩) hHeld ?_ ?_
 rotate_left
 ·rintro w' ⟨s0, s1, s2, s3, s4, s5⟩
  go_simp
  with_reducible rfl
 rotate_left
 ·exact zq
 refine take_ (i := 2) (N := some 12) (v := ?_) (a' := ?_) #[true, false, true, false, false, false, false, false] rfl rfl (take_ofW HT_.out HW_.out (by kernel_rfl)) (fun _ _ _ h => h) (Or.inl ⟨by rfl, ?_⟩) hHeld ?_ ?_
 rotate_left
 ·rintro w' ⟨s0, s1, s2, s3, s4, s5⟩
  go_simp
  with_reducible rfl
 rotate_left
 ·exact zq
 refine join_ (σ := Value × Value × Nat × Nat) 2 #[true, true, true, true, true, true, false, false] (fun s_ => [(11, .agg #[.bool t629, s_.1, .int .i64 t633]), (13, .agg #[.bool t634, s_.2.1, .int .i64 t638]), (5, .pointer (some ⟨s_.2.2.1, 0, none⟩)), (6, .pointer (some ⟨s_.2.2.2, 0, none⟩))]) (fun s_ w' => (z4 w' gb626 (.bool a0_0) (.slice A0_1 l0_1.length c0_1) (.int .i64 a0_2) (z3 w' gb627 (.bool a1_0) (.slice A1_1 l1_1.length c1_1) (.int .i64 a1_2))) ∧ (Kd.R (Kd.int .u64) 43 w' w.heap.size (fun k_ => some k_ ≠ (s_.2.1 : Value).ownBlock) s_.1 t630) ∧ (Kd.R (Kd.int .u64) 43 w' w.heap.size (fun k_ => some k_ ≠ (s_.1 : Value).ownBlock) s_.2.1 t635) ∧ (w'.heap[gb626]? = some (.cells #[.bool a0_0, .slice A0_1 l0_1.length c0_1, .int .i64 a0_2] 25 (0, 0))) ∧ (w'.heap[gb627]? = some (.cells #[.bool a1_0, .slice A1_1 l1_1.length c1_1, .int .i64 a1_2] 25 (0, 0))) ∧ (w'.heap[gb628]? = some (.cells #[.bool false, .slice none 0 0, .int .i64 0] 25 (0, 0))) ∧ (w'.heap[s_.2.2.1]? = some (.cells #[.bool false, .slice none 0 0, .int .i64 0] 25 (0, 0))) ∧ (w'.heap[s_.2.2.2]? = some (.cells #[.bool false, .slice none 0 0, .int .i64 0] 25 (0, 0))) ∧ (w.heap.size ≤ s_.2.2.1) ∧ (w.heap.size ≤ s_.2.2.1) ∧ (gb626 ≠ s_.2.2.1) ∧ (s_.2.2.1 ≠ gb626) ∧ (gb627 ≠ s_.2.2.1) ∧ (s_.2.2.1 ≠ gb627) ∧ (gb628 ≠ s_.2.2.1) ∧ (s_.2.2.1 ≠ gb628) ∧ (s_.2.2.2 ≠ s_.2.2.1) ∧ (s_.2.2.1 ≠ s_.2.2.2) ∧ (w.heap.size ≤ s_.2.2.2) ∧ (w.heap.size ≤ s_.2.2.2) ∧ (gb626 ≠ s_.2.2.2) ∧ (s_.2.2.2 ≠ gb626) ∧ (gb627 ≠ s_.2.2.2) ∧ (s_.2.2.2 ≠ gb627) ∧ (gb628 ≠ s_.2.2.2) ∧ (s_.2.2.2 ≠ gb628) ∧ (Below w.heap.size w w')) ?_ ?_
 rotate_left
 ·intro hJ1_3_4_5
  refine join_ (σ := Value × Value × Nat) 3 #[true, true, true, true, true, false, false, false] (fun s_ => [(11, .agg #[.bool t629, s_.1, .int .i64 t633]), (13, .agg #[.bool t634, s_.2.1, .int .i64 t638]), (5, .pointer (some ⟨s_.2.2, 0, none⟩))]) (fun s_ w' => (z4 w' gb626 (.bool a0_0) (.slice A0_1 l0_1.length c0_1) (.int .i64 a0_2) (z3 w' gb627 (.bool a1_0) (.slice A1_1 l1_1.length c1_1) (.int .i64 a1_2))) ∧ (Kd.R (Kd.int .u64) 43 w' w.heap.size (fun k_ => some k_ ≠ (s_.2.1 : Value).ownBlock) s_.1 t630) ∧ (Kd.R (Kd.int .u64) 43 w' w.heap.size (fun k_ => some k_ ≠ (s_.1 : Value).ownBlock) s_.2.1 t635) ∧ (w'.heap[gb626]? = some (.cells #[.bool a0_0, .slice A0_1 l0_1.length c0_1, .int .i64 a0_2] 25 (0, 0))) ∧ (w'.heap[gb627]? = some (.cells #[.bool a1_0, .slice A1_1 l1_1.length c1_1, .int .i64 a1_2] 25 (0, 0))) ∧ (w'.heap[gb628]? = some (.cells #[.bool false, .slice none 0 0, .int .i64 0] 25 (0, 0))) ∧ (w'.heap[s_.2.2]? = some (.cells #[.bool false, .slice none 0 0, .int .i64 0] 25 (0, 0))) ∧ (w.heap.size ≤ s_.2.2) ∧ (w.heap.size ≤ s_.2.2) ∧ (gb626 ≠ s_.2.2) ∧ (s_.2.2 ≠ gb626) ∧ (gb627 ≠ s_.2.2) ∧ (s_.2.2 ≠ gb627) ∧ (gb628 ≠ s_.2.2) ∧ (s_.2.2 ≠ gb628) ∧ (Below w.heap.size w w')) ?_ ?_
  rotate_left
  ·intro hJ1_3_4
   refine join_ (σ := Value × Value × Nat) 3 #[true, true, true, true, false, true, false, false] (fun s_ => [(11, .agg #[.bool t629, s_.1, .int .i64 t633]), (13, .agg #[.bool t634, s_.2.1, .int .i64 t638]), (6, .pointer (some ⟨s_.2.2, 0, none⟩))]) (fun s_ w' => (z4 w' gb626 (.bool a0_0) (.slice A0_1 l0_1.length c0_1) (.int .i64 a0_2) (z3 w' gb627 (.bool a1_0) (.slice A1_1 l1_1.length c1_1) (.int .i64 a1_2))) ∧ (Kd.R (Kd.int .u64) 43 w' w.heap.size (fun k_ => some k_ ≠ (s_.2.1 : Value).ownBlock) s_.1 t630) ∧ (Kd.R (Kd.int .u64) 43 w' w.heap.size (fun k_ => some k_ ≠ (s_.1 : Value).ownBlock) s_.2.1 t635) ∧ (w'.heap[gb626]? = some (.cells #[.bool a0_0, .slice A0_1 l0_1.length c0_1, .int .i64 a0_2] 25 (0, 0))) ∧ (w'.heap[gb627]? = some (.cells #[.bool a1_0, .slice A1_1 l1_1.length c1_1, .int .i64 a1_2] 25 (0, 0))) ∧ (w'.heap[gb628]? = some (.cells #[.bool false, .slice none 0 0, .int .i64 0] 25 (0, 0))) ∧ (w'.heap[s_.2.2]? = some (.cells #[.bool false, .slice none 0 0, .int .i64 0] 25 (0, 0))) ∧ (w.heap.size ≤ s_.2.2) ∧ (w.heap.size ≤ s_.2.2) ∧ (gb626 ≠ s_.2.2) ∧ (s_.2.2 ≠ gb626) ∧ (gb627 ≠ s_.2.2) ∧ (s_.2.2 ≠ gb627) ∧ (gb628 ≠ s_.2.2) ∧ (s_.2.2 ≠ gb628) ∧ (Below w.heap.size w w')) ?_ ?_
   rotate_left
   ·intro hJ1_3_5
    refine join_ (σ := Value × Nat × Nat) 3 #[true, true, true, false, true, true, false, false] (fun s_ => [(11, .agg #[.bool t629, s_.1, .int .i64 t633]), (5, .pointer (some ⟨s_.2.1, 0, none⟩)), (6, .pointer (some ⟨s_.2.2, 0, none⟩))]) (fun s_ w' => (z4 w' gb626 (.bool a0_0) (.slice A0_1 l0_1.length c0_1) (.int .i64 a0_2) (z3 w' gb627 (.bool a1_0) (.slice A1_1 l1_1.length c1_1) (.int .i64 a1_2))) ∧ (Kd.R (Kd.int .u64) 43 w' w.heap.size (fun _ => True) s_.1 t630) ∧ (w'.heap[gb626]? = some (.cells #[.bool a0_0, .slice A0_1 l0_1.length c0_1, .int .i64 a0_2] 25 (0, 0))) ∧ (w'.heap[gb627]? = some (.cells #[.bool a1_0, .slice A1_1 l1_1.length c1_1, .int .i64 a1_2] 25 (0, 0))) ∧ (w'.heap[gb628]? = some (.cells #[.bool false, .slice none 0 0, .int .i64 0] 25 (0, 0))) ∧ (w'.heap[s_.2.1]? = some (.cells #[.bool false, .slice none 0 0, .int .i64 0] 25 (0, 0))) ∧ (w'.heap[s_.2.2]? = some (.cells #[.bool false, .slice none 0 0, .int .i64 0] 25 (0, 0))) ∧ (w.heap.size ≤ s_.2.1) ∧ (w.heap.size ≤ s_.2.1) ∧ (gb626 ≠ s_.2.1) ∧ (s_.2.1 ≠ gb626) ∧ (gb627 ≠ s_.2.1) ∧ (s_.2.1 ≠ gb627) ∧ (gb628 ≠ s_.2.1) ∧ (s_.2.1 ≠ gb628) ∧ (s_.2.2 ≠ s_.2.1) ∧ (s_.2.1 ≠ s_.2.2) ∧ (w.heap.size ≤ s_.2.2) ∧ (w.heap.size ≤ s_.2.2) ∧ (gb626 ≠ s_.2.2) ∧ (s_.2.2 ≠ gb626) ∧ (gb627 ≠ s_.2.2) ∧ (s_.2.2 ≠ gb627) ∧ (gb628 ≠ s_.2.2) ∧ (s_.2.2 ≠ gb628) ∧ (Below w.heap.size w w')) ?_ ?_
    rotate_left
    ·intro hJ1_4_5
     refine join_ (σ := Value × Value) 4 #[true, true, true, true, false, false, false, false] (fun s_ => [(11, .agg #[.bool t629, s_.1, .int .i64 t633]), (13, .agg #[.bool t634, s_.2, .int .i64 t638])]) (fun s_ w' => (z4 w' gb626 (.bool a0_0) (.slice A0_1 l0_1.length c0_1) (.int .i64 a0_2) (z3 w' gb627 (.bool a1_0) (.slice A1_1 l1_1.length c1_1) (.int .i64 a1_2))) ∧ (Kd.R (Kd.int .u64) 43 w' w.heap.size (fun k_ => some k_ ≠ (s_.2 : Value).ownBlock) s_.1 t630) ∧ (Kd.R (Kd.int .u64) 43 w' w.heap.size (fun k_ => some k_ ≠ (s_.1 : Value).ownBlock) s_.2 t635) ∧ (w'.heap[gb626]? = some (.cells #[.bool a0_0, .slice A0_1 l0_1.length c0_1, .int .i64 a0_2] 25 (0, 0))) ∧ (w'.heap[gb627]? = some (.cells #[.bool a1_0, .slice A1_1 l1_1.length c1_1, .int .i64 a1_2] 25 (0, 0))) ∧ (w'.heap[gb628]? = some (.cells #[.bool false, .slice none 0 0, .int .i64 0] 25 (0, 0))) ∧ (Below w.heap.size w w')) ?_ ?_
     rotate_left
     ·intro hJ1_3
      refine join_ (σ := Value × Nat) 4 #[true, true, true, false, true, false, false, false] (fun s_ => [(11, .agg #[.bool t629, s_.1, .int .i64 t633]), (5, .pointer (some ⟨s_.2, 0, none⟩))]) (fun s_ w' => (z4 w' gb626 (.bool a0_0) (.slice A0_1 l0_1.length c0_1) (.int .i64 a0_2) (z3 w' gb627 (.bool a1_0) (.slice A1_1 l1_1.length c1_1) (.int .i64 a1_2))) ∧ (Kd.R (Kd.int .u64) 43 w' w.heap.size (fun _ => True) s_.1 t630) ∧ (w'.heap[gb626]? = some (.cells #[.bool a0_0, .slice A0_1 l0_1.length c0_1, .int .i64 a0_2] 25 (0, 0))) ∧ (w'.heap[gb627]? = some (.cells #[.bool a1_0, .slice A1_1 l1_1.length c1_1, .int .i64 a1_2] 25 (0, 0))) ∧ (w'.heap[gb628]? = some (.cells #[.bool false, .slice none 0 0, .int .i64 0] 25 (0, 0))) ∧ (w'.heap[s_.2]? = some (.cells #[.bool false, .slice none 0 0, .int .i64 0] 25 (0, 0))) ∧ (w.heap.size ≤ s_.2) ∧ (w.heap.size ≤ s_.2) ∧ (gb626 ≠ s_.2) ∧ (s_.2 ≠ gb626) ∧ (gb627 ≠ s_.2) ∧ (s_.2 ≠ gb627) ∧ (gb628 ≠ s_.2) ∧ (s_.2 ≠ gb628) ∧ (Below w.heap.size w w')) ?_ ?_
      rotate_left
      ·intro hJ1_4
       refine join_ (σ := Value × Nat) 4 #[true, true, true, false, false, true, false, false] (fun s_ => [(11, .agg #[.bool t629, s_.1, .int .i64 t633]), (6, .pointer (some ⟨s_.2, 0, none⟩))]) (fun s_ w' => (z4 w' gb626 (.bool a0_0) (.slice A0_1 l0_1.length c0_1) (.int .i64 a0_2) (z3 w' gb627 (.bool a1_0) (.slice A1_1 l1_1.length c1_1) (.int .i64 a1_2))) ∧ (Kd.R (Kd.int .u64) 43 w' w.heap.size (fun _ => True) s_.1 t630) ∧ (w'.heap[gb626]? = some (.cells #[.bool a0_0, .slice A0_1 l0_1.length c0_1, .int .i64 a0_2] 25 (0, 0))) ∧ (w'.heap[gb627]? = some (.cells #[.bool a1_0, .slice A1_1 l1_1.length c1_1, .int .i64 a1_2] 25 (0, 0))) ∧ (w'.heap[gb628]? = some (.cells #[.bool false, .slice none 0 0, .int .i64 0] 25 (0, 0))) ∧ (w'.heap[s_.2]? = some (.cells #[.bool false, .slice none 0 0, .int .i64 0] 25 (0, 0))) ∧ (w.heap.size ≤ s_.2) ∧ (w.heap.size ≤ s_.2) ∧ (gb626 ≠ s_.2) ∧ (s_.2 ≠ gb626) ∧ (gb627 ≠ s_.2) ∧ (s_.2 ≠ gb627) ∧ (gb628 ≠ s_.2) ∧ (s_.2 ≠ gb628) ∧ (Below w.heap.size w w')) ?_ ?_
       rotate_left
       ·intro hJ1_5
        refine join_ (σ := Nat × Nat) 4 #[true, false, true, false, true, true, false, false] (fun s_ => [(5, .pointer (some ⟨s_.1, 0, none⟩)), (6, .pointer (some ⟨s_.2, 0, none⟩))]) (fun s_ w' => (z4 w' gb626 (.bool a0_0) (.slice A0_1 l0_1.length c0_1) (.int .i64 a0_2) (z3 w' gb627 (.bool a1_0) (.slice A1_1 l1_1.length c1_1) (.int .i64 a1_2))) ∧ (w'.heap[gb626]? = some (.cells #[.bool a0_0, .slice A0_1 l0_1.length c0_1, .int .i64 a0_2] 25 (0, 0))) ∧ (w'.heap[gb627]? = some (.cells #[.bool a1_0, .slice A1_1 l1_1.length c1_1, .int .i64 a1_2] 25 (0, 0))) ∧ (w'.heap[gb628]? = some (.cells #[.bool false, .slice none 0 0, .int .i64 0] 25 (0, 0))) ∧ (w'.heap[s_.1]? = some (.cells #[.bool false, .slice none 0 0, .int .i64 0] 25 (0, 0))) ∧ (w'.heap[s_.2]? = some (.cells #[.bool false, .slice none 0 0, .int .i64 0] 25 (0, 0))) ∧ (w.heap.size ≤ s_.1) ∧ (w.heap.size ≤ s_.1) ∧ (gb626 ≠ s_.1) ∧ (s_.1 ≠ gb626) ∧ (gb627 ≠ s_.1) ∧ (s_.1 ≠ gb627) ∧ (gb628 ≠ s_.1) ∧ (s_.1 ≠ gb628) ∧ (s_.2 ≠ s_.1) ∧ (s_.1 ≠ s_.2) ∧ (w.heap.size ≤ s_.2) ∧ (w.heap.size ≤ s_.2) ∧ (gb626 ≠ s_.2) ∧ (s_.2 ≠ gb626) ∧ (gb627 ≠ s_.2) ∧ (s_.2 ≠ gb627) ∧ (gb628 ≠ s_.2) ∧ (s_.2 ≠ gb628) ∧ (Below w.heap.size w w')) ?_ ?_
        rotate_left
        ·intro hJ4_5
         refine join_ (σ := Value) 5 #[true, true, true, false, false, false, false, false] (fun s_ => [(11, .agg #[.bool t629, s_, .int .i64 t633])]) (fun s_ w' => (z4 w' gb626 (.bool a0_0) (.slice A0_1 l0_1.length c0_1) (.int .i64 a0_2) (z3 w' gb627 (.bool a1_0) (.slice A1_1 l1_1.length c1_1) (.int .i64 a1_2))) ∧ (Kd.R (Kd.int .u64) 43 w' w.heap.size (fun _ => True) s_ t630) ∧ (w'.heap[gb626]? = some (.cells #[.bool a0_0, .slice A0_1 l0_1.length c0_1, .int .i64 a0_2] 25 (0, 0))) ∧ (w'.heap[gb627]? = some (.cells #[.bool a1_0, .slice A1_1 l1_1.length c1_1, .int .i64 a1_2] 25 (0, 0))) ∧ (w'.heap[gb628]? = some (.cells #[.bool false, .slice none 0 0, .int .i64 0] 25 (0, 0))) ∧ (Below w.heap.size w w')) ?_ ?_
         rotate_left
         ·intro hJ1
          refine join_ (σ := Nat) 5 #[true, false, true, false, true, false, false, false] (fun s_ => [(5, .pointer (some ⟨s_, 0, none⟩))]) (fun s_ w' => (z4 w' gb626 (.bool a0_0) (.slice A0_1 l0_1.length c0_1) (.int .i64 a0_2) (z3 w' gb627 (.bool a1_0) (.slice A1_1 l1_1.length c1_1) (.int .i64 a1_2))) ∧ (w'.heap[gb626]? = some (.cells #[.bool a0_0, .slice A0_1 l0_1.length c0_1, .int .i64 a0_2] 25 (0, 0))) ∧ (w'.heap[gb627]? = some (.cells #[.bool a1_0, .slice A1_1 l1_1.length c1_1, .int .i64 a1_2] 25 (0, 0))) ∧ (w'.heap[gb628]? = some (.cells #[.bool false, .slice none 0 0, .int .i64 0] 25 (0, 0))) ∧ (w'.heap[s_]? = some (.cells #[.bool false, .slice none 0 0, .int .i64 0] 25 (0, 0))) ∧ (w.heap.size ≤ s_) ∧ (w.heap.size ≤ s_) ∧ (gb626 ≠ s_) ∧ (s_ ≠ gb626) ∧ (gb627 ≠ s_) ∧ (s_ ≠ gb627) ∧ (gb628 ≠ s_) ∧ (s_ ≠ gb628) ∧ (Below w.heap.size w w')) ?_ ?_
          rotate_left
          ·intro hJ4
           refine join_ (σ := Nat) 5 #[true, false, true, false, false, true, false, false] (fun s_ => [(6, .pointer (some ⟨s_, 0, none⟩))]) (fun s_ w' => (z4 w' gb626 (.bool a0_0) (.slice A0_1 l0_1.length c0_1) (.int .i64 a0_2) (z3 w' gb627 (.bool a1_0) (.slice A1_1 l1_1.length c1_1) (.int .i64 a1_2))) ∧ (w'.heap[gb626]? = some (.cells #[.bool a0_0, .slice A0_1 l0_1.length c0_1, .int .i64 a0_2] 25 (0, 0))) ∧ (w'.heap[gb627]? = some (.cells #[.bool a1_0, .slice A1_1 l1_1.length c1_1, .int .i64 a1_2] 25 (0, 0))) ∧ (w'.heap[gb628]? = some (.cells #[.bool false, .slice none 0 0, .int .i64 0] 25 (0, 0))) ∧ (w'.heap[s_]? = some (.cells #[.bool false, .slice none 0 0, .int .i64 0] 25 (0, 0))) ∧ (w.heap.size ≤ s_) ∧ (w.heap.size ≤ s_) ∧ (gb626 ≠ s_) ∧ (s_ ≠ gb626) ∧ (gb627 ≠ s_) ∧ (s_ ≠ gb627) ∧ (gb628 ≠ s_) ∧ (s_ ≠ gb628) ∧ (Below w.heap.size w w')) ?_ ?_
           rotate_left
           ·intro hJ5
            refine three_ (i := 1) (j := 4) (k := 5) (Ni := some 11) (Nj := some 5) (Nk := some 6) #[true, true, true, false, false, false, false, false] #[true, false, true, false, true, false, false, false] #[true, false, true, false, false, true, false, false] rfl rfl rfl rfl rfl rfl (three_of HT_.out (by kernel_rfl)) (by decide) (by decide) (by decide) (fun K hK => ?_) (fun K hK => ?_) (fun K hK => ?_)
            ·skip
             refine goes_ Tryd.func69 (by kernel_rfl) rfl #[.agg #[.bool a0_0, .slice A0_1 l0_1.length c0_1, .int .i64 a0_2]] (by rfl) rfl rfl ga ?_
             with_reducible refine (ulpref04_One.calls k a0_0 _ _ l0_1 a0_2 t629 t630 t633 _ ?side1 ?side2 A3.out).mono ?_
             (case side1 => exact zk (C_below HR0_1.out HB.out))
             (case side2 => exact HC0_1.out)
             rintro e w10 ⟨v631, rfl, ho0, hb⟩
             refine ⟨_, rfl, ?_⟩
             have HO632 := zA (R_lower ho0 (below_size zs))
             replace BK626 := zb BK626 hb
             replace BK627 := zb BK627 hb
             replace BK628 := zb BK628 hb
             replace HB := zf hb
             (try clear hb)
             (try clear hb2)
             (try clear hk)
             (try clear hi)
             (try clear ho0)
             refine hK.out _ _ (za BK626 (zz BK627)) (fun hHeld => ?_)
             clear hK K
             refine norm_ (a' := ?_) ?_ ?_
             rotate_left
             ·show Act.put _ (some 11) _ = _
              simp only [Act.put, List.setIfInBounds_toArray, List.set_cons_zero, List.set_cons_succ, i64_w, i32_w]
              rfl
             exact norm_ zm (hJ1 (v631) _ ⟨hHeld, (ru HO632.out), (zu BK626), (zu BK627), (zu BK628), zs⟩)
            ·skip
             refine box_step ?hg (N := 5) ?hd (cs := #[.bool false, .slice none 0 0, .int .i64 0]) (t := 25) ?hr ?_; (case hd => rfl); (case hg => rfl); (case hr => first | (go_simp; done) | (go_simp; rfl))
             intro gb639 hg w10 hbox hb
             have BK639 := zA (hbox)
             have GW639 := zx hg
             have GE639 := zx hg
             replace HB := zf hb
             have NB626_639 := zl BK626 hg
             have NB639_626 := zg BK626 hg
             replace BK626 := zb BK626 hb
             have NB627_639 := zl BK627 hg
             have NB639_627 := zg BK627 hg
             replace BK627 := zb BK627 hb
             have NB628_639 := zl BK628 hg
             have NB639_628 := zg BK628 hg
             replace BK628 := zb BK628 hb
             clear hb hbox hg
             refine hK.out _ _ (za BK626 (zz BK627)) (fun hHeld => ?_)
             clear hK K
             refine norm_ (a' := ?_) ?_ ?_
             rotate_left
             ·show Act.put _ (some 5) _ = _
              simp only [Act.put, List.setIfInBounds_toArray, List.set_cons_zero, List.set_cons_succ, i64_w, i32_w]
              rfl
             exact norm_ zm (hJ4 (gb639) _ ⟨hHeld, (zu BK626), (zu BK627), (zu BK628), (zu BK639), GW639.out, GE639.out, NB626_639.out, NB639_626.out, NB627_639.out, NB639_627.out, NB628_639.out, NB639_628.out, zs⟩)
            skip
            refine box_step ?hg (N := 6) ?hd (cs := #[.bool false, .slice none 0 0, .int .i64 0]) (t := 25) ?hr ?_; (case hd => rfl); (case hg => rfl); (case hr => first | (go_simp; done) | (go_simp; rfl))
            intro gb640 hg w10 hbox hb
            have BK640 := zA (hbox)
            have GW640 := zx hg
            have GE640 := zx hg
            replace HB := zf hb
            have NB626_640 := zl BK626 hg
            have NB640_626 := zg BK626 hg
            replace BK626 := zb BK626 hb
            have NB627_640 := zl BK627 hg
            have NB640_627 := zg BK627 hg
            replace BK627 := zb BK627 hb
            have NB628_640 := zl BK628 hg
            have NB640_628 := zg BK628 hg
            replace BK628 := zb BK628 hb
            clear hb hbox hg
            refine hK.out _ _ (za BK626 (zz BK627)) (fun hHeld => ?_)
            clear hK K
            refine norm_ (a' := ?_) ?_ ?_
            rotate_left
            ·show Act.put _ (some 6) _ = _
             simp only [Act.put, List.setIfInBounds_toArray, List.set_cons_zero, List.set_cons_succ, i64_w, i32_w]
             rfl
            exact norm_ zm (hJ5 (gb640) _ ⟨hHeld, (zu BK626), (zu BK627), (zu BK628), (zu BK640), GW640.out, GE640.out, NB626_640.out, NB640_626.out, NB627_640.out, NB640_627.out, NB628_640.out, NB640_628.out, zs⟩)
           skip
           rintro gb640 w11 ⟨hS_, h0_, h1_, h2_, h3_, h4_, h5_, h6_, h7_, h8_, h9_, h10_, h11_, h12_⟩
           have n0_ := zA h0_
           have n1_ := zA h1_
           have n2_ := zA h2_
           have n3_ := zA h3_
           have n4_ := zA h4_
           have n5_ := zA h5_
           have n6_ := zA h6_
           have n7_ := zA h7_
           have n8_ := zA h8_
           have n9_ := zA h9_
           have n10_ := zA h10_
           have n11_ := zA h11_
           have n12_ := zA h12_
           clear BK626
           clear BK627
           clear BK628
           clear HB
           clear h0_ h1_ h2_ h3_ h4_ h5_ h6_ h7_ h8_ h9_ h10_ h11_ h12_
           have BK626 := n0_
           have BK627 := n1_
           have BK628 := n2_
           have BK640 := n3_
           have GW640 := n4_
           have GE640 := n5_
           have NB626_640 := n6_
           have NB640_626 := n7_
           have NB627_640 := n8_
           have NB640_627 := n9_
           have NB628_640 := n10_
           have NB640_628 := n11_
           have HB := n12_
           clear n0_ n1_ n2_ n3_ n4_ n5_ n6_ n7_ n8_ n9_ n10_ n11_ n12_
           have hHeld : z4 w11 gb626 (.bool a0_0) (.slice A0_1 l0_1.length c0_1) (.int .i64 a0_2) (z3 w11 gb627 (.bool a1_0) (.slice A1_1 l1_1.length c1_1) (.int .i64 a1_2)) := hS_
           refine norm_ (a' := ?_) ?_ ?_
           rotate_left
           ·simp only [putAll, Act.put, List.setIfInBounds_toArray, List.set_cons_zero, List.set_cons_succ]
            rfl
           refine two_ (i := 1) (j := 4) (Ni := some 11) (Nj := some 5) #[true, true, true, false, false, true, false, false] #[true, false, true, false, true, true, false, false] rfl rfl rfl rfl (two_of HT_.out (by kernel_rfl)) (by decide) (by decide) (fun K hK => ?_) (fun K hK => ?_)
           ·skip
            refine goes_ Tryd.func69 (by kernel_rfl) rfl #[.agg #[.bool a0_0, .slice A0_1 l0_1.length c0_1, .int .i64 a0_2]] (by rfl) rfl rfl ga ?_
            with_reducible refine (ulpref04_One.calls k a0_0 _ _ l0_1 a0_2 t629 t630 t633 _ ?side1 ?side2 A3.out).mono ?_
            (case side1 => exact zk (C_below HR0_1.out HB.out))
            (case side2 => exact HC0_1.out)
            rintro e w12 ⟨v631, rfl, ho0, hb⟩
            refine ⟨_, rfl, ?_⟩
            have HO632 := zA (R_lower ho0 (below_size zs))
            replace BK626 := zb BK626 hb
            replace BK627 := zb BK627 hb
            replace BK628 := zb BK628 hb
            replace BK640 := zb BK640 hb
            replace HB := zf hb
            (try clear hb)
            (try clear hb2)
            (try clear hk)
            (try clear hi)
            (try clear ho0)
            refine hK.out _ _ (za BK626 (zz BK627)) (fun hHeld => ?_)
            clear hK K
            refine norm_ (a' := ?_) ?_ ?_
            rotate_left
            ·show Act.put _ (some 11) _ = _
             simp only [Act.put, List.setIfInBounds_toArray, List.set_cons_zero, List.set_cons_succ, i64_w, i32_w]
             rfl
            exact norm_ zm (hJ1_5 (v631, gb640) _ ⟨hHeld, (ru HO632.out), (zu BK626), (zu BK627), (zu BK628), (zu BK640), GW640.out, GE640.out, NB626_640.out, NB640_626.out, NB627_640.out, NB640_627.out, NB628_640.out, NB640_628.out, zs⟩)
           skip
           refine box_step ?hg (N := 5) ?hd (cs := #[.bool false, .slice none 0 0, .int .i64 0]) (t := 25) ?hr ?_; (case hd => rfl); (case hg => rfl); (case hr => first | (go_simp; done) | (go_simp; rfl))
           intro gb639 hg w12 hbox hb
           have BK639 := zA (hbox)
           have GW639 := zx hg
           have GE639 := zx hg
           replace HB := zf hb
           have NB626_639 := zl BK626 hg
           have NB639_626 := zg BK626 hg
           replace BK626 := zb BK626 hb
           have NB627_639 := zl BK627 hg
           have NB639_627 := zg BK627 hg
           replace BK627 := zb BK627 hb
           have NB628_639 := zl BK628 hg
           have NB639_628 := zg BK628 hg
           replace BK628 := zb BK628 hb
           have NB640_639 := zl BK640 hg
           have NB639_640 := zg BK640 hg
           replace BK640 := zb BK640 hb
           clear hb hbox hg
           refine hK.out _ _ (za BK626 (zz BK627)) (fun hHeld => ?_)
           clear hK K
           refine norm_ (a' := ?_) ?_ ?_
           rotate_left
           ·show Act.put _ (some 5) _ = _
            simp only [Act.put, List.setIfInBounds_toArray, List.set_cons_zero, List.set_cons_succ, i64_w, i32_w]
            rfl
           exact norm_ zm (hJ4_5 (gb639, gb640) _ ⟨hHeld, (zu BK626), (zu BK627), (zu BK628), (zu BK639), (zu BK640), GW639.out, GE639.out, NB626_639.out, NB639_626.out, NB627_639.out, NB639_627.out, NB628_639.out, NB639_628.out, NB640_639.out, NB639_640.out, GW640.out, GE640.out, NB626_640.out, NB640_626.out, NB627_640.out, NB640_627.out, NB628_640.out, NB640_628.out, zs⟩)
          skip
          rintro gb639 w11 ⟨hS_, h0_, h1_, h2_, h3_, h4_, h5_, h6_, h7_, h8_, h9_, h10_, h11_, h12_⟩
          have n0_ := zA h0_
          have n1_ := zA h1_
          have n2_ := zA h2_
          have n3_ := zA h3_
          have n4_ := zA h4_
          have n5_ := zA h5_
          have n6_ := zA h6_
          have n7_ := zA h7_
          have n8_ := zA h8_
          have n9_ := zA h9_
          have n10_ := zA h10_
          have n11_ := zA h11_
          have n12_ := zA h12_
          clear BK626
          clear BK627
          clear BK628
          clear HB
          clear h0_ h1_ h2_ h3_ h4_ h5_ h6_ h7_ h8_ h9_ h10_ h11_ h12_
          have BK626 := n0_
          have BK627 := n1_
          have BK628 := n2_
          have BK639 := n3_
          have GW639 := n4_
          have GE639 := n5_
          have NB626_639 := n6_
          have NB639_626 := n7_
          have NB627_639 := n8_
          have NB639_627 := n9_
          have NB628_639 := n10_
          have NB639_628 := n11_
          have HB := n12_
          clear n0_ n1_ n2_ n3_ n4_ n5_ n6_ n7_ n8_ n9_ n10_ n11_ n12_
          have hHeld : z4 w11 gb626 (.bool a0_0) (.slice A0_1 l0_1.length c0_1) (.int .i64 a0_2) (z3 w11 gb627 (.bool a1_0) (.slice A1_1 l1_1.length c1_1) (.int .i64 a1_2)) := hS_
          refine norm_ (a' := ?_) ?_ ?_
          rotate_left
          ·simp only [putAll, Act.put, List.setIfInBounds_toArray, List.set_cons_zero, List.set_cons_succ]
           rfl
          refine two_ (i := 1) (j := 5) (Ni := some 11) (Nj := some 6) #[true, true, true, false, true, false, false, false] #[true, false, true, false, true, true, false, false] rfl rfl rfl rfl (two_of HT_.out (by kernel_rfl)) (by decide) (by decide) (fun K hK => ?_) (fun K hK => ?_)
          ·skip
           refine goes_ Tryd.func69 (by kernel_rfl) rfl #[.agg #[.bool a0_0, .slice A0_1 l0_1.length c0_1, .int .i64 a0_2]] (by rfl) rfl rfl ga ?_
           with_reducible refine (ulpref04_One.calls k a0_0 _ _ l0_1 a0_2 t629 t630 t633 _ ?side1 ?side2 A3.out).mono ?_
           (case side1 => exact zk (C_below HR0_1.out HB.out))
           (case side2 => exact HC0_1.out)
           rintro e w12 ⟨v631, rfl, ho0, hb⟩
           refine ⟨_, rfl, ?_⟩
           have HO632 := zA (R_lower ho0 (below_size zs))
           replace BK626 := zb BK626 hb
           replace BK627 := zb BK627 hb
           replace BK628 := zb BK628 hb
           replace BK639 := zb BK639 hb
           replace HB := zf hb
           (try clear hb)
           (try clear hb2)
           (try clear hk)
           (try clear hi)
           (try clear ho0)
           refine hK.out _ _ (za BK626 (zz BK627)) (fun hHeld => ?_)
           clear hK K
           refine norm_ (a' := ?_) ?_ ?_
           rotate_left
           ·show Act.put _ (some 11) _ = _
            simp only [Act.put, List.setIfInBounds_toArray, List.set_cons_zero, List.set_cons_succ, i64_w, i32_w]
            rfl
           exact norm_ zm (hJ1_4 (v631, gb639) _ ⟨hHeld, (ru HO632.out), (zu BK626), (zu BK627), (zu BK628), (zu BK639), GW639.out, GE639.out, NB626_639.out, NB639_626.out, NB627_639.out, NB639_627.out, NB628_639.out, NB639_628.out, zs⟩)
          skip
          refine box_step ?hg (N := 6) ?hd (cs := #[.bool false, .slice none 0 0, .int .i64 0]) (t := 25) ?hr ?_; (case hd => rfl); (case hg => rfl); (case hr => first | (go_simp; done) | (go_simp; rfl))
          intro gb640 hg w12 hbox hb
          have BK640 := zA (hbox)
          have GW640 := zx hg
          have GE640 := zx hg
          replace HB := zf hb
          have NB626_640 := zl BK626 hg
          have NB640_626 := zg BK626 hg
          replace BK626 := zb BK626 hb
          have NB627_640 := zl BK627 hg
          have NB640_627 := zg BK627 hg
          replace BK627 := zb BK627 hb
          have NB628_640 := zl BK628 hg
          have NB640_628 := zg BK628 hg
          replace BK628 := zb BK628 hb
          have NB639_640 := zl BK639 hg
          have NB640_639 := zg BK639 hg
          replace BK639 := zb BK639 hb
          clear hb hbox hg
          refine hK.out _ _ (za BK626 (zz BK627)) (fun hHeld => ?_)
          clear hK K
          refine norm_ (a' := ?_) ?_ ?_
          rotate_left
          ·show Act.put _ (some 6) _ = _
           simp only [Act.put, List.setIfInBounds_toArray, List.set_cons_zero, List.set_cons_succ, i64_w, i32_w]
           rfl
          exact norm_ zm (hJ4_5 (gb639, gb640) _ ⟨hHeld, (zu BK626), (zu BK627), (zu BK628), (zu BK639), (zu BK640), GW639.out, GE639.out, NB626_639.out, NB639_626.out, NB627_639.out, NB639_627.out, NB628_639.out, NB639_628.out, NB640_639.out, NB639_640.out, GW640.out, GE640.out, NB626_640.out, NB640_626.out, NB627_640.out, NB640_627.out, NB628_640.out, NB640_628.out, zs⟩)
         skip
         rintro v631 w11 ⟨hS_, h0_, h1_, h2_, h3_, h4_⟩
         have n0_ := zA h0_
         have n1_ := zA h1_
         have n2_ := zA h2_
         have n3_ := zA h3_
         have n4_ := zA h4_
         clear BK626
         clear BK627
         clear BK628
         clear HB
         clear h0_ h1_ h2_ h3_ h4_
         have HO632 := n0_
         have BK626 := n1_
         have BK627 := n2_
         have BK628 := n3_
         have HB := n4_
         clear n0_ n1_ n2_ n3_ n4_
         have hHeld : z4 w11 gb626 (.bool a0_0) (.slice A0_1 l0_1.length c0_1) (.int .i64 a0_2) (z3 w11 gb627 (.bool a1_0) (.slice A1_1 l1_1.length c1_1) (.int .i64 a1_2)) := hS_
         refine norm_ (a' := ?_) ?_ ?_
         rotate_left
         ·simp only [putAll, Act.put, List.setIfInBounds_toArray, List.set_cons_zero, List.set_cons_succ]
          rfl
         refine three_ (i := 3) (j := 4) (k := 5) (Ni := some 13) (Nj := some 5) (Nk := some 6) #[true, true, true, true, false, false, false, false] #[true, true, true, false, true, false, false, false] #[true, true, true, false, false, true, false, false] rfl rfl rfl rfl rfl rfl (three_of HT_.out (by kernel_rfl)) (by decide) (by decide) (by decide) (fun K hK => ?_) (fun K hK => ?_) (fun K hK => ?_)
         ·skip
          refine goes_ Tryd.func69 (by kernel_rfl) rfl #[.agg #[.bool a1_0, .slice A1_1 l1_1.length c1_1, .int .i64 a1_2]] (by rfl) rfl rfl ga ?_
          with_reducible refine (ulpref04_One.calls k a1_0 _ _ l1_1 a1_2 t634 t635 t638 _ ?side1 ?side2 A4.out).mono ?_
          (case side1 => exact zk (C_below HR1_1.out HB.out))
          (case side2 => exact HC1_1.out)
          rintro e w12 ⟨v636, rfl, ho0, hb⟩
          refine ⟨_, rfl, ?_⟩
          have HO637 := zA (R_lower (R_new' ho0 (R_lt (ru HO632.out))) (below_size zs))
          replace HO632 := zA (R_elder' (ru HO632.out) (R_base ho0) hb)
          replace BK626 := zb BK626 hb
          replace BK627 := zb BK627 hb
          replace BK628 := zb BK628 hb
          replace HB := zf hb
          (try clear hb)
          (try clear hb2)
          (try clear hk)
          (try clear hi)
          (try clear ho0)
          refine hK.out _ _ (za BK626 (zz BK627)) (fun hHeld => ?_)
          clear hK K
          refine norm_ (a' := ?_) ?_ ?_
          rotate_left
          ·show Act.put _ (some 13) _ = _
           simp only [Act.put, List.setIfInBounds_toArray, List.set_cons_zero, List.set_cons_succ, i64_w, i32_w]
           rfl
          exact norm_ zm (hJ1_3 (v631, v636) _ ⟨hHeld, (ru (R_mono HO632.out (fun _ hk => hk.2))), (ru (R_mono HO637.out (fun _ hk => hk.2))), (zu BK626), (zu BK627), (zu BK628), zs⟩)
         ·skip
          refine box_step ?hg (N := 5) ?hd (cs := #[.bool false, .slice none 0 0, .int .i64 0]) (t := 25) ?hr ?_; (case hd => rfl); (case hg => rfl); (case hr => first | (go_simp; done) | (go_simp; rfl))
          intro gb639 hg w12 hbox hb
          replace HO632 := zA (R_below (ru HO632.out) hb)
          have BK639 := zA (hbox)
          have GW639 := zx hg
          have GE639 := zx hg
          replace HB := zf hb
          have NB626_639 := zl BK626 hg
          have NB639_626 := zg BK626 hg
          replace BK626 := zb BK626 hb
          have NB627_639 := zl BK627 hg
          have NB639_627 := zg BK627 hg
          replace BK627 := zb BK627 hb
          have NB628_639 := zl BK628 hg
          have NB639_628 := zg BK628 hg
          replace BK628 := zb BK628 hb
          clear hb hbox hg
          refine hK.out _ _ (za BK626 (zz BK627)) (fun hHeld => ?_)
          clear hK K
          refine norm_ (a' := ?_) ?_ ?_
          rotate_left
          ·show Act.put _ (some 5) _ = _
           simp only [Act.put, List.setIfInBounds_toArray, List.set_cons_zero, List.set_cons_succ, i64_w, i32_w]
           rfl
          exact norm_ zm (hJ1_4 (v631, gb639) _ ⟨hHeld, (ru HO632.out), (zu BK626), (zu BK627), (zu BK628), (zu BK639), GW639.out, GE639.out, NB626_639.out, NB639_626.out, NB627_639.out, NB639_627.out, NB628_639.out, NB639_628.out, zs⟩)
         skip
         refine box_step ?hg (N := 6) ?hd (cs := #[.bool false, .slice none 0 0, .int .i64 0]) (t := 25) ?hr ?_; (case hd => rfl); (case hg => rfl); (case hr => first | (go_simp; done) | (go_simp; rfl))
         intro gb640 hg w12 hbox hb
         replace HO632 := zA (R_below (ru HO632.out) hb)
         have BK640 := zA (hbox)
         have GW640 := zx hg
         have GE640 := zx hg
         replace HB := zf hb
         have NB626_640 := zl BK626 hg
         have NB640_626 := zg BK626 hg
         replace BK626 := zb BK626 hb
         have NB627_640 := zl BK627 hg
         have NB640_627 := zg BK627 hg
         replace BK627 := zb BK627 hb
         have NB628_640 := zl BK628 hg
         have NB640_628 := zg BK628 hg
         replace BK628 := zb BK628 hb
         clear hb hbox hg
         refine hK.out _ _ (za BK626 (zz BK627)) (fun hHeld => ?_)
         clear hK K
         refine norm_ (a' := ?_) ?_ ?_
         rotate_left
         ·show Act.put _ (some 6) _ = _
          simp only [Act.put, List.setIfInBounds_toArray, List.set_cons_zero, List.set_cons_succ, i64_w, i32_w]
          rfl
         exact norm_ zm (hJ1_5 (v631, gb640) _ ⟨hHeld, (ru HO632.out), (zu BK626), (zu BK627), (zu BK628), (zu BK640), GW640.out, GE640.out, NB626_640.out, NB640_626.out, NB627_640.out, NB640_627.out, NB628_640.out, NB640_628.out, zs⟩)
        skip
        rintro ⟨gb639, gb640⟩ w12 ⟨hS_, h0_, h1_, h2_, h3_, h4_, h5_, h6_, h7_, h8_, h9_, h10_, h11_, h12_, h13_, h14_, h15_, h16_, h17_, h18_, h19_, h20_, h21_, h22_, h23_⟩
        have n0_ := zA h0_
        have n1_ := zA h1_
        have n2_ := zA h2_
        have n3_ := zA h3_
        have n4_ := zA h4_
        have n5_ := zA h5_
        have n6_ := zA h6_
        have n7_ := zA h7_
        have n8_ := zA h8_
        have n9_ := zA h9_
        have n10_ := zA h10_
        have n11_ := zA h11_
        have n12_ := zA h12_
        have n13_ := zA h13_
        have n14_ := zA h14_
        have n15_ := zA h15_
        have n16_ := zA h16_
        have n17_ := zA h17_
        have n18_ := zA h18_
        have n19_ := zA h19_
        have n20_ := zA h20_
        have n21_ := zA h21_
        have n22_ := zA h22_
        have n23_ := zA h23_
        clear BK626
        clear BK627
        clear BK628
        clear HB
        clear h0_ h1_ h2_ h3_ h4_ h5_ h6_ h7_ h8_ h9_ h10_ h11_ h12_ h13_ h14_ h15_ h16_ h17_ h18_ h19_ h20_ h21_ h22_ h23_
        have BK626 := n0_
        have BK627 := n1_
        have BK628 := n2_
        have BK639 := n3_
        have BK640 := n4_
        have GW639 := n5_
        have GE639 := n6_
        have NB626_639 := n7_
        have NB639_626 := n8_
        have NB627_639 := n9_
        have NB639_627 := n10_
        have NB628_639 := n11_
        have NB639_628 := n12_
        have NB640_639 := n13_
        have NB639_640 := n14_
        have GW640 := n15_
        have GE640 := n16_
        have NB626_640 := n17_
        have NB640_626 := n18_
        have NB627_640 := n19_
        have NB640_627 := n20_
        have NB628_640 := n21_
        have NB640_628 := n22_
        have HB := n23_
        clear n0_ n1_ n2_ n3_ n4_ n5_ n6_ n7_ n8_ n9_ n10_ n11_ n12_ n13_ n14_ n15_ n16_ n17_ n18_ n19_ n20_ n21_ n22_ n23_
        have hHeld : z4 w12 gb626 (.bool a0_0) (.slice A0_1 l0_1.length c0_1) (.int .i64 a0_2) (z3 w12 gb627 (.bool a1_0) (.slice A1_1 l1_1.length c1_1) (.int .i64 a1_2)) := hS_
        refine norm_ (a' := ?_) ?_ ?_
        rotate_left
        ·simp only [putAll, Act.put, List.setIfInBounds_toArray, List.set_cons_zero, List.set_cons_succ]
         rfl
        refine one_ (i := 1) (N := some 11) #[true, true, true, false, true, true, false, false] rfl rfl (one_of HT_.out (by kernel_rfl)) (by decide) (fun K hK => ?_)
        refine goes_ Tryd.func69 (by kernel_rfl) rfl #[.agg #[.bool a0_0, .slice A0_1 l0_1.length c0_1, .int .i64 a0_2]] (by rfl) rfl rfl ga ?_
        with_reducible refine (ulpref04_One.calls k a0_0 _ _ l0_1 a0_2 t629 t630 t633 _ ?side1 ?side2 A3.out).mono ?_
        (case side1 => exact zk (C_below HR0_1.out HB.out))
        (case side2 => exact HC0_1.out)
        rintro e w13 ⟨v631, rfl, ho0, hb⟩
        refine ⟨_, rfl, ?_⟩
        have HO632 := zA (R_lower ho0 (below_size zs))
        replace BK626 := zb BK626 hb
        replace BK627 := zb BK627 hb
        replace BK628 := zb BK628 hb
        replace BK639 := zb BK639 hb
        replace BK640 := zb BK640 hb
        replace HB := zf hb
        (try clear hb)
        (try clear hb2)
        (try clear hk)
        (try clear hi)
        (try clear ho0)
        refine hK.out _ _ (za BK626 (zz BK627)) (fun hHeld => ?_)
        clear hK K
        refine norm_ (a' := ?_) ?_ ?_
        rotate_left
        ·show Act.put _ (some 11) _ = _
         simp only [Act.put, List.setIfInBounds_toArray, List.set_cons_zero, List.set_cons_succ, i64_w, i32_w]
         rfl
        exact norm_ zm (hJ1_4_5 (v631, gb639, gb640) _ ⟨hHeld, (ru HO632.out), (zu BK626), (zu BK627), (zu BK628), (zu BK639), (zu BK640), GW639.out, GE639.out, NB626_639.out, NB639_626.out, NB627_639.out, NB639_627.out, NB628_639.out, NB639_628.out, NB640_639.out, NB639_640.out, GW640.out, GE640.out, NB626_640.out, NB640_626.out, NB627_640.out, NB640_627.out, NB628_640.out, NB640_628.out, zs⟩)
       skip
       rintro ⟨v631, gb640⟩ w12 ⟨hS_, h0_, h1_, h2_, h3_, h4_, h5_, h6_, h7_, h8_, h9_, h10_, h11_, h12_, h13_⟩
       have n0_ := zA h0_
       have n1_ := zA h1_
       have n2_ := zA h2_
       have n3_ := zA h3_
       have n4_ := zA h4_
       have n5_ := zA h5_
       have n6_ := zA h6_
       have n7_ := zA h7_
       have n8_ := zA h8_
       have n9_ := zA h9_
       have n10_ := zA h10_
       have n11_ := zA h11_
       have n12_ := zA h12_
       have n13_ := zA h13_
       clear BK626
       clear BK627
       clear BK628
       clear HB
       clear h0_ h1_ h2_ h3_ h4_ h5_ h6_ h7_ h8_ h9_ h10_ h11_ h12_ h13_
       have HO632 := n0_
       have BK626 := n1_
       have BK627 := n2_
       have BK628 := n3_
       have BK640 := n4_
       have GW640 := n5_
       have GE640 := n6_
       have NB626_640 := n7_
       have NB640_626 := n8_
       have NB627_640 := n9_
       have NB640_627 := n10_
       have NB628_640 := n11_
       have NB640_628 := n12_
       have HB := n13_
       clear n0_ n1_ n2_ n3_ n4_ n5_ n6_ n7_ n8_ n9_ n10_ n11_ n12_ n13_
       have hHeld : z4 w12 gb626 (.bool a0_0) (.slice A0_1 l0_1.length c0_1) (.int .i64 a0_2) (z3 w12 gb627 (.bool a1_0) (.slice A1_1 l1_1.length c1_1) (.int .i64 a1_2)) := hS_
       refine norm_ (a' := ?_) ?_ ?_
       rotate_left
       ·simp only [putAll, Act.put, List.setIfInBounds_toArray, List.set_cons_zero, List.set_cons_succ]
        rfl
       refine two_ (i := 3) (j := 4) (Ni := some 13) (Nj := some 5) #[true, true, true, true, false, true, false, false] #[true, true, true, false, true, true, false, false] rfl rfl rfl rfl (two_of HT_.out (by kernel_rfl)) (by decide) (by decide) (fun K hK => ?_) (fun K hK => ?_)
       ·skip
        refine goes_ Tryd.func69 (by kernel_rfl) rfl #[.agg #[.bool a1_0, .slice A1_1 l1_1.length c1_1, .int .i64 a1_2]] (by rfl) rfl rfl ga ?_
        with_reducible refine (ulpref04_One.calls k a1_0 _ _ l1_1 a1_2 t634 t635 t638 _ ?side1 ?side2 A4.out).mono ?_
        (case side1 => exact zk (C_below HR1_1.out HB.out))
        (case side2 => exact HC1_1.out)
        rintro e w13 ⟨v636, rfl, ho0, hb⟩
        refine ⟨_, rfl, ?_⟩
        have HO637 := zA (R_lower (R_new' ho0 (R_lt (ru HO632.out))) (below_size zs))
        replace HO632 := zA (R_elder' (ru HO632.out) (R_base ho0) hb)
        replace BK626 := zb BK626 hb
        replace BK627 := zb BK627 hb
        replace BK628 := zb BK628 hb
        replace BK640 := zb BK640 hb
        replace HB := zf hb
        (try clear hb)
        (try clear hb2)
        (try clear hk)
        (try clear hi)
        (try clear ho0)
        refine hK.out _ _ (za BK626 (zz BK627)) (fun hHeld => ?_)
        clear hK K
        refine norm_ (a' := ?_) ?_ ?_
        rotate_left
        ·show Act.put _ (some 13) _ = _
         simp only [Act.put, List.setIfInBounds_toArray, List.set_cons_zero, List.set_cons_succ, i64_w, i32_w]
         rfl
        exact norm_ zm (hJ1_3_5 (v631, v636, gb640) _ ⟨hHeld, (ru (R_mono HO632.out (fun _ hk => hk.2))), (ru (R_mono HO637.out (fun _ hk => hk.2))), (zu BK626), (zu BK627), (zu BK628), (zu BK640), GW640.out, GE640.out, NB626_640.out, NB640_626.out, NB627_640.out, NB640_627.out, NB628_640.out, NB640_628.out, zs⟩)
       skip
       refine box_step ?hg (N := 5) ?hd (cs := #[.bool false, .slice none 0 0, .int .i64 0]) (t := 25) ?hr ?_; (case hd => rfl); (case hg => rfl); (case hr => first | (go_simp; done) | (go_simp; rfl))
       intro gb639 hg w13 hbox hb
       replace HO632 := zA (R_below (ru HO632.out) hb)
       have BK639 := zA (hbox)
       have GW639 := zx hg
       have GE639 := zx hg
       replace HB := zf hb
       have NB626_639 := zl BK626 hg
       have NB639_626 := zg BK626 hg
       replace BK626 := zb BK626 hb
       have NB627_639 := zl BK627 hg
       have NB639_627 := zg BK627 hg
       replace BK627 := zb BK627 hb
       have NB628_639 := zl BK628 hg
       have NB639_628 := zg BK628 hg
       replace BK628 := zb BK628 hb
       have NB640_639 := zl BK640 hg
       have NB639_640 := zg BK640 hg
       replace BK640 := zb BK640 hb
       clear hb hbox hg
       refine hK.out _ _ (za BK626 (zz BK627)) (fun hHeld => ?_)
       clear hK K
       refine norm_ (a' := ?_) ?_ ?_
       rotate_left
       ·show Act.put _ (some 5) _ = _
        simp only [Act.put, List.setIfInBounds_toArray, List.set_cons_zero, List.set_cons_succ, i64_w, i32_w]
        rfl
       exact norm_ zm (hJ1_4_5 (v631, gb639, gb640) _ ⟨hHeld, (ru HO632.out), (zu BK626), (zu BK627), (zu BK628), (zu BK639), (zu BK640), GW639.out, GE639.out, NB626_639.out, NB639_626.out, NB627_639.out, NB639_627.out, NB628_639.out, NB639_628.out, NB640_639.out, NB639_640.out, GW640.out, GE640.out, NB626_640.out, NB640_626.out, NB627_640.out, NB640_627.out, NB628_640.out, NB640_628.out, zs⟩)
      skip
      rintro ⟨v631, gb639⟩ w12 ⟨hS_, h0_, h1_, h2_, h3_, h4_, h5_, h6_, h7_, h8_, h9_, h10_, h11_, h12_, h13_⟩
      have n0_ := zA h0_
      have n1_ := zA h1_
      have n2_ := zA h2_
      have n3_ := zA h3_
      have n4_ := zA h4_
      have n5_ := zA h5_
      have n6_ := zA h6_
      have n7_ := zA h7_
      have n8_ := zA h8_
      have n9_ := zA h9_
      have n10_ := zA h10_
      have n11_ := zA h11_
      have n12_ := zA h12_
      have n13_ := zA h13_
      clear BK626
      clear BK627
      clear BK628
      clear HB
      clear h0_ h1_ h2_ h3_ h4_ h5_ h6_ h7_ h8_ h9_ h10_ h11_ h12_ h13_
      have HO632 := n0_
      have BK626 := n1_
      have BK627 := n2_
      have BK628 := n3_
      have BK639 := n4_
      have GW639 := n5_
      have GE639 := n6_
      have NB626_639 := n7_
      have NB639_626 := n8_
      have NB627_639 := n9_
      have NB639_627 := n10_
      have NB628_639 := n11_
      have NB639_628 := n12_
      have HB := n13_
      clear n0_ n1_ n2_ n3_ n4_ n5_ n6_ n7_ n8_ n9_ n10_ n11_ n12_ n13_
      have hHeld : z4 w12 gb626 (.bool a0_0) (.slice A0_1 l0_1.length c0_1) (.int .i64 a0_2) (z3 w12 gb627 (.bool a1_0) (.slice A1_1 l1_1.length c1_1) (.int .i64 a1_2)) := hS_
      refine norm_ (a' := ?_) ?_ ?_
      rotate_left
      ·simp only [putAll, Act.put, List.setIfInBounds_toArray, List.set_cons_zero, List.set_cons_succ]
       rfl
      refine two_ (i := 3) (j := 5) (Ni := some 13) (Nj := some 6) #[true, true, true, true, true, false, false, false] #[true, true, true, false, true, true, false, false] rfl rfl rfl rfl (two_of HT_.out (by kernel_rfl)) (by decide) (by decide) (fun K hK => ?_) (fun K hK => ?_)
      ·skip
       refine goes_ Tryd.func69 (by kernel_rfl) rfl #[.agg #[.bool a1_0, .slice A1_1 l1_1.length c1_1, .int .i64 a1_2]] (by rfl) rfl rfl ga ?_
       with_reducible refine (ulpref04_One.calls k a1_0 _ _ l1_1 a1_2 t634 t635 t638 _ ?side1 ?side2 A4.out).mono ?_
       (case side1 => exact zk (C_below HR1_1.out HB.out))
       (case side2 => exact HC1_1.out)
       rintro e w13 ⟨v636, rfl, ho0, hb⟩
       refine ⟨_, rfl, ?_⟩
       have HO637 := zA (R_lower (R_new' ho0 (R_lt (ru HO632.out))) (below_size zs))
       replace HO632 := zA (R_elder' (ru HO632.out) (R_base ho0) hb)
       replace BK626 := zb BK626 hb
       replace BK627 := zb BK627 hb
       replace BK628 := zb BK628 hb
       replace BK639 := zb BK639 hb
       replace HB := zf hb
       (try clear hb)
       (try clear hb2)
       (try clear hk)
       (try clear hi)
       (try clear ho0)
       refine hK.out _ _ (za BK626 (zz BK627)) (fun hHeld => ?_)
       clear hK K
       refine norm_ (a' := ?_) ?_ ?_
       rotate_left
       ·show Act.put _ (some 13) _ = _
        simp only [Act.put, List.setIfInBounds_toArray, List.set_cons_zero, List.set_cons_succ, i64_w, i32_w]
        rfl
       exact norm_ zm (hJ1_3_4 (v631, v636, gb639) _ ⟨hHeld, (ru (R_mono HO632.out (fun _ hk => hk.2))), (ru (R_mono HO637.out (fun _ hk => hk.2))), (zu BK626), (zu BK627), (zu BK628), (zu BK639), GW639.out, GE639.out, NB626_639.out, NB639_626.out, NB627_639.out, NB639_627.out, NB628_639.out, NB639_628.out, zs⟩)
      skip
      refine box_step ?hg (N := 6) ?hd (cs := #[.bool false, .slice none 0 0, .int .i64 0]) (t := 25) ?hr ?_; (case hd => rfl); (case hg => rfl); (case hr => first | (go_simp; done) | (go_simp; rfl))
      intro gb640 hg w13 hbox hb
      replace HO632 := zA (R_below (ru HO632.out) hb)
      have BK640 := zA (hbox)
      have GW640 := zx hg
      have GE640 := zx hg
      replace HB := zf hb
      have NB626_640 := zl BK626 hg
      have NB640_626 := zg BK626 hg
      replace BK626 := zb BK626 hb
      have NB627_640 := zl BK627 hg
      have NB640_627 := zg BK627 hg
      replace BK627 := zb BK627 hb
      have NB628_640 := zl BK628 hg
      have NB640_628 := zg BK628 hg
      replace BK628 := zb BK628 hb
      have NB639_640 := zl BK639 hg
      have NB640_639 := zg BK639 hg
      replace BK639 := zb BK639 hb
      clear hb hbox hg
      refine hK.out _ _ (za BK626 (zz BK627)) (fun hHeld => ?_)
      clear hK K
      refine norm_ (a' := ?_) ?_ ?_
      rotate_left
      ·show Act.put _ (some 6) _ = _
       simp only [Act.put, List.setIfInBounds_toArray, List.set_cons_zero, List.set_cons_succ, i64_w, i32_w]
       rfl
      exact norm_ zm (hJ1_4_5 (v631, gb639, gb640) _ ⟨hHeld, (ru HO632.out), (zu BK626), (zu BK627), (zu BK628), (zu BK639), (zu BK640), GW639.out, GE639.out, NB626_639.out, NB639_626.out, NB627_639.out, NB639_627.out, NB628_639.out, NB639_628.out, NB640_639.out, NB639_640.out, GW640.out, GE640.out, NB626_640.out, NB640_626.out, NB627_640.out, NB640_627.out, NB628_640.out, NB640_628.out, zs⟩)
     skip
     rintro ⟨v631, v636⟩ w12 ⟨hS_, h0_, h1_, h2_, h3_, h4_, h5_⟩
     have n0_ := zA h0_
     have n1_ := zA h1_
     have n2_ := zA h2_
     have n3_ := zA h3_
     have n4_ := zA h4_
     have n5_ := zA h5_
     clear BK626
     clear BK627
     clear BK628
     clear HB
     clear h0_ h1_ h2_ h3_ h4_ h5_
     have HO632 := n0_
     have HO637 := n1_
     have BK626 := n2_
     have BK627 := n3_
     have BK628 := n4_
     have HB := n5_
     clear n0_ n1_ n2_ n3_ n4_ n5_
     have hHeld : z4 w12 gb626 (.bool a0_0) (.slice A0_1 l0_1.length c0_1) (.int .i64 a0_2) (z3 w12 gb627 (.bool a1_0) (.slice A1_1 l1_1.length c1_1) (.int .i64 a1_2)) := hS_
     refine norm_ (a' := ?_) ?_ ?_
     rotate_left
     ·simp only [putAll, Act.put, List.setIfInBounds_toArray, List.set_cons_zero, List.set_cons_succ]
      rfl
     refine two_ (i := 4) (j := 5) (Ni := some 5) (Nj := some 6) #[true, true, true, true, true, false, false, false] #[true, true, true, true, false, true, false, false] rfl rfl rfl rfl (two_of HT_.out (by kernel_rfl)) (by decide) (by decide) (fun K hK => ?_) (fun K hK => ?_)
     ·skip
      refine box_step ?hg (N := 5) ?hd (cs := #[.bool false, .slice none 0 0, .int .i64 0]) (t := 25) ?hr ?_; (case hd => rfl); (case hg => rfl); (case hr => first | (go_simp; done) | (go_simp; rfl))
      intro gb639 hg w13 hbox hb
      replace HO632 := zA (R_below (ru HO632.out) hb)
      replace HO637 := zA (R_below (ru HO637.out) hb)
      have BK639 := zA (hbox)
      have GW639 := zx hg
      have GE639 := zx hg
      replace HB := zf hb
      have NB626_639 := zl BK626 hg
      have NB639_626 := zg BK626 hg
      replace BK626 := zb BK626 hb
      have NB627_639 := zl BK627 hg
      have NB639_627 := zg BK627 hg
      replace BK627 := zb BK627 hb
      have NB628_639 := zl BK628 hg
      have NB639_628 := zg BK628 hg
      replace BK628 := zb BK628 hb
      clear hb hbox hg
      refine hK.out _ _ (za BK626 (zz BK627)) (fun hHeld => ?_)
      clear hK K
      refine norm_ (a' := ?_) ?_ ?_
      rotate_left
      ·show Act.put _ (some 5) _ = _
       simp only [Act.put, List.setIfInBounds_toArray, List.set_cons_zero, List.set_cons_succ, i64_w, i32_w]
       rfl
      exact norm_ zm (hJ1_3_4 (v631, v636, gb639) _ ⟨hHeld, (ru HO632.out), (ru HO637.out), (zu BK626), (zu BK627), (zu BK628), (zu BK639), GW639.out, GE639.out, NB626_639.out, NB639_626.out, NB627_639.out, NB639_627.out, NB628_639.out, NB639_628.out, zs⟩)
     skip
     refine box_step ?hg (N := 6) ?hd (cs := #[.bool false, .slice none 0 0, .int .i64 0]) (t := 25) ?hr ?_; (case hd => rfl); (case hg => rfl); (case hr => first | (go_simp; done) | (go_simp; rfl))
     intro gb640 hg w13 hbox hb
     replace HO632 := zA (R_below (ru HO632.out) hb)
     replace HO637 := zA (R_below (ru HO637.out) hb)
     have BK640 := zA (hbox)
     have GW640 := zx hg
     have GE640 := zx hg
     replace HB := zf hb
     have NB626_640 := zl BK626 hg
     have NB640_626 := zg BK626 hg
     replace BK626 := zb BK626 hb
     have NB627_640 := zl BK627 hg
     have NB640_627 := zg BK627 hg
     replace BK627 := zb BK627 hb
     have NB628_640 := zl BK628 hg
     have NB640_628 := zg BK628 hg
     replace BK628 := zb BK628 hb
     clear hb hbox hg
     refine hK.out _ _ (za BK626 (zz BK627)) (fun hHeld => ?_)
     clear hK K
     refine norm_ (a' := ?_) ?_ ?_
     rotate_left
     ·show Act.put _ (some 6) _ = _
      simp only [Act.put, List.setIfInBounds_toArray, List.set_cons_zero, List.set_cons_succ, i64_w, i32_w]
      rfl
     exact norm_ zm (hJ1_3_5 (v631, v636, gb640) _ ⟨hHeld, (ru HO632.out), (ru HO637.out), (zu BK626), (zu BK627), (zu BK628), (zu BK640), GW640.out, GE640.out, NB626_640.out, NB640_626.out, NB627_640.out, NB640_627.out, NB628_640.out, NB640_628.out, zs⟩)
    skip
    rintro ⟨v631, gb639, gb640⟩ w13 ⟨hS_, h0_, h1_, h2_, h3_, h4_, h5_, h6_, h7_, h8_, h9_, h10_, h11_, h12_, h13_, h14_, h15_, h16_, h17_, h18_, h19_, h20_, h21_, h22_, h23_, h24_⟩
    have n0_ := zA h0_
    have n1_ := zA h1_
    have n2_ := zA h2_
    have n3_ := zA h3_
    have n4_ := zA h4_
    have n5_ := zA h5_
    have n6_ := zA h6_
    have n7_ := zA h7_
    have n8_ := zA h8_
    have n9_ := zA h9_
    have n10_ := zA h10_
    have n11_ := zA h11_
    have n12_ := zA h12_
    have n13_ := zA h13_
    have n14_ := zA h14_
    have n15_ := zA h15_
    have n16_ := zA h16_
    have n17_ := zA h17_
    have n18_ := zA h18_
    have n19_ := zA h19_
    have n20_ := zA h20_
    have n21_ := zA h21_
    have n22_ := zA h22_
    have n23_ := zA h23_
    have n24_ := zA h24_
    clear BK626
    clear BK627
    clear BK628
    clear HB
    clear h0_ h1_ h2_ h3_ h4_ h5_ h6_ h7_ h8_ h9_ h10_ h11_ h12_ h13_ h14_ h15_ h16_ h17_ h18_ h19_ h20_ h21_ h22_ h23_ h24_
    have HO632 := n0_
    have BK626 := n1_
    have BK627 := n2_
    have BK628 := n3_
    have BK639 := n4_
    have BK640 := n5_
    have GW639 := n6_
    have GE639 := n7_
    have NB626_639 := n8_
    have NB639_626 := n9_
    have NB627_639 := n10_
    have NB639_627 := n11_
    have NB628_639 := n12_
    have NB639_628 := n13_
    have NB640_639 := n14_
    have NB639_640 := n15_
    have GW640 := n16_
    have GE640 := n17_
    have NB626_640 := n18_
    have NB640_626 := n19_
    have NB627_640 := n20_
    have NB640_627 := n21_
    have NB628_640 := n22_
    have NB640_628 := n23_
    have HB := n24_
    clear n0_ n1_ n2_ n3_ n4_ n5_ n6_ n7_ n8_ n9_ n10_ n11_ n12_ n13_ n14_ n15_ n16_ n17_ n18_ n19_ n20_ n21_ n22_ n23_ n24_
    have hHeld : z4 w13 gb626 (.bool a0_0) (.slice A0_1 l0_1.length c0_1) (.int .i64 a0_2) (z3 w13 gb627 (.bool a1_0) (.slice A1_1 l1_1.length c1_1) (.int .i64 a1_2)) := hS_
    refine norm_ (a' := ?_) ?_ ?_
    rotate_left
    ·simp only [putAll, Act.put, List.setIfInBounds_toArray, List.set_cons_zero, List.set_cons_succ]
     rfl
    refine one_ (i := 3) (N := some 13) #[true, true, true, true, true, true, false, false] rfl rfl (one_of HT_.out (by kernel_rfl)) (by decide) (fun K hK => ?_)
    refine goes_ Tryd.func69 (by kernel_rfl) rfl #[.agg #[.bool a1_0, .slice A1_1 l1_1.length c1_1, .int .i64 a1_2]] (by rfl) rfl rfl ga ?_
    with_reducible refine (ulpref04_One.calls k a1_0 _ _ l1_1 a1_2 t634 t635 t638 _ ?side1 ?side2 A4.out).mono ?_
    (case side1 => exact zk (C_below HR1_1.out HB.out))
    (case side2 => exact HC1_1.out)
    rintro e w14 ⟨v636, rfl, ho0, hb⟩
    refine ⟨_, rfl, ?_⟩
    have HO637 := zA (R_lower (R_new' ho0 (R_lt (ru HO632.out))) (below_size zs))
    replace HO632 := zA (R_elder' (ru HO632.out) (R_base ho0) hb)
    replace BK626 := zb BK626 hb
    replace BK627 := zb BK627 hb
    replace BK628 := zb BK628 hb
    replace BK639 := zb BK639 hb
    replace BK640 := zb BK640 hb
    replace HB := zf hb
    (try clear hb)
    (try clear hb2)
    (try clear hk)
    (try clear hi)
    (try clear ho0)
    refine hK.out _ _ (za BK626 (zz BK627)) (fun hHeld => ?_)
    clear hK K
    refine norm_ (a' := ?_) ?_ ?_
    rotate_left
    ·show Act.put _ (some 13) _ = _
     simp only [Act.put, List.setIfInBounds_toArray, List.set_cons_zero, List.set_cons_succ, i64_w, i32_w]
     rfl
    exact norm_ zm (hJ1_3_4_5 (v631, v636, gb639, gb640) _ ⟨hHeld, (ru (R_mono HO632.out (fun _ hk => hk.2))), (ru (R_mono HO637.out (fun _ hk => hk.2))), (zu BK626), (zu BK627), (zu BK628), (zu BK639), (zu BK640), GW639.out, GE639.out, NB626_639.out, NB639_626.out, NB627_639.out, NB639_627.out, NB628_639.out, NB639_628.out, NB640_639.out, NB639_640.out, GW640.out, GE640.out, NB626_640.out, NB640_626.out, NB627_640.out, NB640_627.out, NB628_640.out, NB640_628.out, zs⟩)
   skip
   rintro ⟨v631, v636, gb640⟩ w13 ⟨hS_, h0_, h1_, h2_, h3_, h4_, h5_, h6_, h7_, h8_, h9_, h10_, h11_, h12_, h13_, h14_⟩
   have n0_ := zA h0_
   have n1_ := zA h1_
   have n2_ := zA h2_
   have n3_ := zA h3_
   have n4_ := zA h4_
   have n5_ := zA h5_
   have n6_ := zA h6_
   have n7_ := zA h7_
   have n8_ := zA h8_
   have n9_ := zA h9_
   have n10_ := zA h10_
   have n11_ := zA h11_
   have n12_ := zA h12_
   have n13_ := zA h13_
   have n14_ := zA h14_
   clear BK626
   clear BK627
   clear BK628
   clear HB
   clear h0_ h1_ h2_ h3_ h4_ h5_ h6_ h7_ h8_ h9_ h10_ h11_ h12_ h13_ h14_
   have HO632 := n0_
   have HO637 := n1_
   have BK626 := n2_
   have BK627 := n3_
   have BK628 := n4_
   have BK640 := n5_
   have GW640 := n6_
   have GE640 := n7_
   have NB626_640 := n8_
   have NB640_626 := n9_
   have NB627_640 := n10_
   have NB640_627 := n11_
   have NB628_640 := n12_
   have NB640_628 := n13_
   have HB := n14_
   clear n0_ n1_ n2_ n3_ n4_ n5_ n6_ n7_ n8_ n9_ n10_ n11_ n12_ n13_ n14_
   have hHeld : z4 w13 gb626 (.bool a0_0) (.slice A0_1 l0_1.length c0_1) (.int .i64 a0_2) (z3 w13 gb627 (.bool a1_0) (.slice A1_1 l1_1.length c1_1) (.int .i64 a1_2)) := hS_
   refine norm_ (a' := ?_) ?_ ?_
   rotate_left
   ·simp only [putAll, Act.put, List.setIfInBounds_toArray, List.set_cons_zero, List.set_cons_succ]
    rfl
   refine one_ (i := 4) (N := some 5) #[true, true, true, true, true, true, false, false] rfl rfl (one_of HT_.out (by kernel_rfl)) (by decide) (fun K hK => ?_)
   refine box_step ?hg (N := 5) ?hd (cs := #[.bool false, .slice none 0 0, .int .i64 0]) (t := 25) ?hr ?_; (case hd => rfl); (case hg => rfl); (case hr => first | (go_simp; done) | (go_simp; rfl))
   intro gb639 hg w14 hbox hb
   replace HO632 := zA (R_below (ru HO632.out) hb)
   replace HO637 := zA (R_below (ru HO637.out) hb)
   have BK639 := zA (hbox)
   have GW639 := zx hg
   have GE639 := zx hg
   replace HB := zf hb
   have NB626_639 := zl BK626 hg
   have NB639_626 := zg BK626 hg
   replace BK626 := zb BK626 hb
   have NB627_639 := zl BK627 hg
   have NB639_627 := zg BK627 hg
   replace BK627 := zb BK627 hb
   have NB628_639 := zl BK628 hg
   have NB639_628 := zg BK628 hg
   replace BK628 := zb BK628 hb
   have NB640_639 := zl BK640 hg
   have NB639_640 := zg BK640 hg
   replace BK640 := zb BK640 hb
   clear hb hbox hg
   refine hK.out _ _ (za BK626 (zz BK627)) (fun hHeld => ?_)
   clear hK K
   refine norm_ (a' := ?_) ?_ ?_
   rotate_left
   ·show Act.put _ (some 5) _ = _
    simp only [Act.put, List.setIfInBounds_toArray, List.set_cons_zero, List.set_cons_succ, i64_w, i32_w]
    rfl
   exact norm_ zm (hJ1_3_4_5 (v631, v636, gb639, gb640) _ ⟨hHeld, (ru HO632.out), (ru HO637.out), (zu BK626), (zu BK627), (zu BK628), (zu BK639), (zu BK640), GW639.out, GE639.out, NB626_639.out, NB639_626.out, NB627_639.out, NB639_627.out, NB628_639.out, NB639_628.out, NB640_639.out, NB639_640.out, GW640.out, GE640.out, NB626_640.out, NB640_626.out, NB627_640.out, NB640_627.out, NB628_640.out, NB640_628.out, zs⟩)
  skip
  rintro ⟨v631, v636, gb639⟩ w13 ⟨hS_, h0_, h1_, h2_, h3_, h4_, h5_, h6_, h7_, h8_, h9_, h10_, h11_, h12_, h13_, h14_⟩
  have n0_ := zA h0_
  have n1_ := zA h1_
  have n2_ := zA h2_
  have n3_ := zA h3_
  have n4_ := zA h4_
  have n5_ := zA h5_
  have n6_ := zA h6_
  have n7_ := zA h7_
  have n8_ := zA h8_
  have n9_ := zA h9_
  have n10_ := zA h10_
  have n11_ := zA h11_
  have n12_ := zA h12_
  have n13_ := zA h13_
  have n14_ := zA h14_
  clear BK626
  clear BK627
  clear BK628
  clear HB
  clear h0_ h1_ h2_ h3_ h4_ h5_ h6_ h7_ h8_ h9_ h10_ h11_ h12_ h13_ h14_
  have HO632 := n0_
  have HO637 := n1_
  have BK626 := n2_
  have BK627 := n3_
  have BK628 := n4_
  have BK639 := n5_
  have GW639 := n6_
  have GE639 := n7_
  have NB626_639 := n8_
  have NB639_626 := n9_
  have NB627_639 := n10_
  have NB639_627 := n11_
  have NB628_639 := n12_
  have NB639_628 := n13_
  have HB := n14_
  clear n0_ n1_ n2_ n3_ n4_ n5_ n6_ n7_ n8_ n9_ n10_ n11_ n12_ n13_ n14_
  have hHeld : z4 w13 gb626 (.bool a0_0) (.slice A0_1 l0_1.length c0_1) (.int .i64 a0_2) (z3 w13 gb627 (.bool a1_0) (.slice A1_1 l1_1.length c1_1) (.int .i64 a1_2)) := hS_
  refine norm_ (a' := ?_) ?_ ?_
  rotate_left
  ·simp only [putAll, Act.put, List.setIfInBounds_toArray, List.set_cons_zero, List.set_cons_succ]
   rfl
  refine one_ (i := 5) (N := some 6) #[true, true, true, true, true, true, false, false] rfl rfl (one_of HT_.out (by kernel_rfl)) (by decide) (fun K hK => ?_)
  refine box_step ?hg (N := 6) ?hd (cs := #[.bool false, .slice none 0 0, .int .i64 0]) (t := 25) ?hr ?_; (case hd => rfl); (case hg => rfl); (case hr => first | (go_simp; done) | (go_simp; rfl))
  intro gb640 hg w14 hbox hb
  replace HO632 := zA (R_below (ru HO632.out) hb)
  replace HO637 := zA (R_below (ru HO637.out) hb)
  have BK640 := zA (hbox)
  have GW640 := zx hg
  have GE640 := zx hg
  replace HB := zf hb
  have NB626_640 := zl BK626 hg
  have NB640_626 := zg BK626 hg
  replace BK626 := zb BK626 hb
  have NB627_640 := zl BK627 hg
  have NB640_627 := zg BK627 hg
  replace BK627 := zb BK627 hb
  have NB628_640 := zl BK628 hg
  have NB640_628 := zg BK628 hg
  replace BK628 := zb BK628 hb
  have NB639_640 := zl BK639 hg
  have NB640_639 := zg BK639 hg
  replace BK639 := zb BK639 hb
  clear hb hbox hg
  refine hK.out _ _ (za BK626 (zz BK627)) (fun hHeld => ?_)
  clear hK K
  refine norm_ (a' := ?_) ?_ ?_
  rotate_left
  ·show Act.put _ (some 6) _ = _
   simp only [Act.put, List.setIfInBounds_toArray, List.set_cons_zero, List.set_cons_succ, i64_w, i32_w]
   rfl
  exact norm_ zm (hJ1_3_4_5 (v631, v636, gb639, gb640) _ ⟨hHeld, (ru HO632.out), (ru HO637.out), (zu BK626), (zu BK627), (zu BK628), (zu BK639), (zu BK640), GW639.out, GE639.out, NB626_639.out, NB639_626.out, NB627_639.out, NB639_627.out, NB628_639.out, NB639_628.out, NB640_639.out, NB639_640.out, GW640.out, GE640.out, NB626_640.out, NB640_626.out, NB627_640.out, NB640_627.out, NB628_640.out, NB640_628.out, zs⟩)
 rintro ⟨v631, v636, gb639, gb640⟩ w14 ⟨hS_, h0_, h1_, h2_, h3_, h4_, h5_, h6_, h7_, h8_, h9_, h10_, h11_, h12_, h13_, h14_, h15_, h16_, h17_, h18_, h19_, h20_, h21_, h22_, h23_, h24_, h25_⟩
 have n0_ := zA h0_
 have n1_ := zA h1_
 have n2_ := zA h2_
 have n3_ := zA h3_
 have n4_ := zA h4_
 have n5_ := zA h5_
 have n6_ := zA h6_
 have n7_ := zA h7_
 have n8_ := zA h8_
 have n9_ := zA h9_
 have n10_ := zA h10_
 have n11_ := zA h11_
 have n12_ := zA h12_
 have n13_ := zA h13_
 have n14_ := zA h14_
 have n15_ := zA h15_
 have n16_ := zA h16_
 have n17_ := zA h17_
 have n18_ := zA h18_
 have n19_ := zA h19_
 have n20_ := zA h20_
 have n21_ := zA h21_
 have n22_ := zA h22_
 have n23_ := zA h23_
 have n24_ := zA h24_
 have n25_ := zA h25_
 clear BK626
 clear BK627
 clear BK628
 clear HB
 clear h0_ h1_ h2_ h3_ h4_ h5_ h6_ h7_ h8_ h9_ h10_ h11_ h12_ h13_ h14_ h15_ h16_ h17_ h18_ h19_ h20_ h21_ h22_ h23_ h24_ h25_
 have HO632 := n0_
 have HO637 := n1_
 have BK626 := n2_
 have BK627 := n3_
 have BK628 := n4_
 have BK639 := n5_
 have BK640 := n6_
 have GW639 := n7_
 have GE639 := n8_
 have NB626_639 := n9_
 have NB639_626 := n10_
 have NB627_639 := n11_
 have NB639_627 := n12_
 have NB628_639 := n13_
 have NB639_628 := n14_
 have NB640_639 := n15_
 have NB639_640 := n16_
 have GW640 := n17_
 have GE640 := n18_
 have NB626_640 := n19_
 have NB640_626 := n20_
 have NB627_640 := n21_
 have NB640_627 := n22_
 have NB628_640 := n23_
 have NB640_628 := n24_
 have HB := n25_
 clear n0_ n1_ n2_ n3_ n4_ n5_ n6_ n7_ n8_ n9_ n10_ n11_ n12_ n13_ n14_ n15_ n16_ n17_ n18_ n19_ n20_ n21_ n22_ n23_ n24_ n25_
 have hHeld : z4 w14 gb626 (.bool a0_0) (.slice A0_1 l0_1.length c0_1) (.int .i64 a0_2) (z3 w14 gb627 (.bool a1_0) (.slice A1_1 l1_1.length c1_1) (.int .i64 a1_2)) := hS_
 obtain ⟨Ao16, co16, eo16⟩ := R_slice HO632.out
 (first | subst eo16 | (injection eo16 with f1_ f2_ f3_; have f4_ := f1_.symm; have f5_ := f3_.symm; clear f1_ f2_ f3_; subst f4_; subst f5_))
 obtain ⟨Ao20, co20, eo20⟩ := R_slice HO637.out
 (first | subst eo20 | (injection eo20 with f1_ f2_ f3_; have f4_ := f1_.symm; have f5_ := f3_.symm; clear f1_ f2_ f3_; subst f4_; subst f5_))
 refine norm_ (a' := ?_) ?_ ?_
 rotate_left
 ·simp only [putAll, Act.put, List.setIfInBounds_toArray, List.set_cons_zero, List.set_cons_succ]
  rfl
 refine one_ (i := 6) (N := none) #[true, true, true, true, true, true, true, false] rfl rfl (one_of HT_.out (by kernel_rfl)) (by decide) (fun K hK => ?_)
 have hs15 : w14.cell? ⟨gb639, 0, none⟩ = some (.bool false) := (blk_cell BK639.out 0).trans rfl
 have hfs15 := blk_frozen BK639.out 0
 have hns15_0 := NB626_639.out
 have hns15_1 := NB627_639.out
 have hns15_2 := NB628_639.out
 have hns15_4 := NB640_639.out
 have hms15_0 := NB639_626.out
 have hms15_1 := NB639_627.out
 have hms15_2 := NB639_628.out
 have hms15_4 := NB639_640.out
 have hs17 : w14.cell? ⟨gb639, 1, none⟩ = some (.slice none 0 0) := (blk_cell BK639.out 1).trans rfl
 have hfs17 := blk_frozen BK639.out 1
 have hns17_0 := NB626_639.out
 have hns17_1 := NB627_639.out
 have hns17_2 := NB628_639.out
 have hns17_4 := NB640_639.out
 have hms17_0 := NB639_626.out
 have hms17_1 := NB639_627.out
 have hms17_2 := NB639_628.out
 have hms17_4 := NB639_640.out
 have hs18 : w14.cell? ⟨gb639, 2, none⟩ = some (.int .i64 0) := (blk_cell BK639.out 2).trans rfl
 have hfs18 := blk_frozen BK639.out 2
 have hns18_0 := NB626_639.out
 have hns18_1 := NB627_639.out
 have hns18_2 := NB628_639.out
 have hns18_4 := NB640_639.out
 have hms18_0 := NB639_626.out
 have hms18_1 := NB639_627.out
 have hms18_2 := NB639_628.out
 have hms18_4 := NB639_640.out
 refine skip_ (w1 := ?_) (by rfl) rfl ?_ ?_
 rotate_left
 ·go_simp
  rfl
 refine hK.out _ _ ⟨((cell_far (p := ⟨gb639, _, none⟩) NB626_639.out _).trans (((cell_far (p := ⟨gb639, _, none⟩) NB626_639.out _).trans (((cell_far (p := ⟨gb639, _, none⟩) NB626_639.out _).trans (hHeld.1)))))), ((cell_far (p := ⟨gb639, _, none⟩) NB626_639.out _).trans (((cell_far (p := ⟨gb639, _, none⟩) NB626_639.out _).trans (((cell_far (p := ⟨gb639, _, none⟩) NB626_639.out _).trans (hHeld.2.1)))))), ((cell_far (p := ⟨gb639, _, none⟩) NB626_639.out _).trans (((cell_far (p := ⟨gb639, _, none⟩) NB626_639.out _).trans (((cell_far (p := ⟨gb639, _, none⟩) NB626_639.out _).trans (hHeld.2.2.1)))))), ((cell_far (p := ⟨gb639, _, none⟩) NB627_639.out _).trans (((cell_far (p := ⟨gb639, _, none⟩) NB627_639.out _).trans (((cell_far (p := ⟨gb639, _, none⟩) NB627_639.out _).trans (hHeld.2.2.2.1)))))), ((cell_far (p := ⟨gb639, _, none⟩) NB627_639.out _).trans (((cell_far (p := ⟨gb639, _, none⟩) NB627_639.out _).trans (((cell_far (p := ⟨gb639, _, none⟩) NB627_639.out _).trans (hHeld.2.2.2.2.1)))))), ((cell_far (p := ⟨gb639, _, none⟩) NB627_639.out _).trans (((cell_far (p := ⟨gb639, _, none⟩) NB627_639.out _).trans (((cell_far (p := ⟨gb639, _, none⟩) NB627_639.out _).trans (hHeld.2.2.2.2.2))))))⟩ (fun hHeld => ?_)
 clear hK K
 refine one_ (i := 7) (N := none) #[true, true, true, true, true, true, true, true] rfl rfl (one_of HT_.out (by kernel_rfl)) (by decide) (fun K hK => ?_)
 have hs19 : w14.cell? ⟨gb640, 0, none⟩ = some (.bool false) := (blk_cell BK640.out 0).trans rfl
 have hfs19 := blk_frozen BK640.out 0
 have hns19_0 := NB626_640.out
 have hns19_1 := NB627_640.out
 have hns19_2 := NB628_640.out
 have hns19_3 := NB639_640.out
 have hms19_0 := NB640_626.out
 have hms19_1 := NB640_627.out
 have hms19_2 := NB640_628.out
 have hms19_3 := NB640_639.out
 have hs21 : w14.cell? ⟨gb640, 1, none⟩ = some (.slice none 0 0) := (blk_cell BK640.out 1).trans rfl
 have hfs21 := blk_frozen BK640.out 1
 have hns21_0 := NB626_640.out
 have hns21_1 := NB627_640.out
 have hns21_2 := NB628_640.out
 have hns21_3 := NB639_640.out
 have hms21_0 := NB640_626.out
 have hms21_1 := NB640_627.out
 have hms21_2 := NB640_628.out
 have hms21_3 := NB640_639.out
 have hs22 : w14.cell? ⟨gb640, 2, none⟩ = some (.int .i64 0) := (blk_cell BK640.out 2).trans rfl
 have hfs22 := blk_frozen BK640.out 2
 have hns22_0 := NB626_640.out
 have hns22_1 := NB627_640.out
 have hns22_2 := NB628_640.out
 have hns22_3 := NB639_640.out
 have hms22_0 := NB640_626.out
 have hms22_1 := NB640_627.out
 have hms22_2 := NB640_628.out
 have hms22_3 := NB640_639.out
 refine skip_ (w1 := ?_) (by rfl) rfl ?_ ?_
 rotate_left
 ·go_simp
  rfl
 refine hK.out _ _ ⟨((cell_far (p := ⟨gb640, _, none⟩) NB626_640.out _).trans (((cell_far (p := ⟨gb640, _, none⟩) NB626_640.out _).trans (((cell_far (p := ⟨gb640, _, none⟩) NB626_640.out _).trans (hHeld.1)))))), ((cell_far (p := ⟨gb640, _, none⟩) NB626_640.out _).trans (((cell_far (p := ⟨gb640, _, none⟩) NB626_640.out _).trans (((cell_far (p := ⟨gb640, _, none⟩) NB626_640.out _).trans (hHeld.2.1)))))), ((cell_far (p := ⟨gb640, _, none⟩) NB626_640.out _).trans (((cell_far (p := ⟨gb640, _, none⟩) NB626_640.out _).trans (((cell_far (p := ⟨gb640, _, none⟩) NB626_640.out _).trans (hHeld.2.2.1)))))), ((cell_far (p := ⟨gb640, _, none⟩) NB627_640.out _).trans (((cell_far (p := ⟨gb640, _, none⟩) NB627_640.out _).trans (((cell_far (p := ⟨gb640, _, none⟩) NB627_640.out _).trans (hHeld.2.2.2.1)))))), ((cell_far (p := ⟨gb640, _, none⟩) NB627_640.out _).trans (((cell_far (p := ⟨gb640, _, none⟩) NB627_640.out _).trans (((cell_far (p := ⟨gb640, _, none⟩) NB627_640.out _).trans (hHeld.2.2.2.2.1)))))), ((cell_far (p := ⟨gb640, _, none⟩) NB627_640.out _).trans (((cell_far (p := ⟨gb640, _, none⟩) NB627_640.out _).trans (((cell_far (p := ⟨gb640, _, none⟩) NB627_640.out _).trans (hHeld.2.2.2.2.2))))))⟩ (fun hHeld => ?_)
 clear hK K
 refine done_ (done_of HT_.out (by kernel_rfl)) ?_
 have hnb23 := NB639_626.out
 have hnc23 := NB626_639.out
 have hnb24 := NB639_627.out
 have hnc24 := NB627_639.out
 have hnb25 := NB639_628.out
 have hnc25 := NB628_639.out
 have hnb26 := NB639_640.out
 have hnc26 := NB640_639.out
 obtain ⟨_, _, _, _, _, _⟩ := zc BK639
 go_upto_if 17 with (fail)
 go_cut [] (fun wc => ∃ (kq : Nat) (x629000_4 : Bool) (x629002_4 : Int), Aside0 (ulpref04_Plus.j0 kq t629 t630 t633 t634 t635 t638 = some (r1, r2, r3)) ∧ Aside0 (kq ≤ k) ∧ Aside0 (Kd.R (Kd.int .u64) 43 wc w.heap.size (fun k_ => some k_ ≠ ((.slice Ao20 t635.length co20) : Value).ownBlock) (.slice Ao16 t630.length co16) t630) ∧ Aside0 (Kd.R (Kd.int .u64) 43 wc w.heap.size (fun k_ => some k_ ≠ ((.slice Ao16 t630.length co16) : Value).ownBlock) (.slice Ao20 t635.length co20) t635) ∧ Aside0 (wc.heap[gb626]? = some (.cells #[.bool a0_0, (.slice A0_1 l0_1.length c0_1), .int .i64 a0_2] 25 (0, 0))) ∧ Aside0 (wc.heap[gb627]? = some (.cells #[.bool a1_0, (.slice A1_1 l1_1.length c1_1), .int .i64 a1_2] 25 (0, 0))) ∧ Aside0 (wc.heap[gb628]? = some (.cells #[.bool x629000_4, (.slice none 0 0), .int .i64 x629002_4] 25 (0, 0))) ∧ Aside0 (wc.heap[gb639]? = some (.cells #[.bool t629, (.slice Ao16 t630.length co16), .int .i64 t633] 25 (0, 0))) ∧ Aside0 (wc.heap[gb640]? = some (.cells #[.bool t634, (.slice Ao20 t635.length co20), .int .i64 t638] 25 (0, 0))) ∧ Aside0 (Below w.heap.size w wc))
 case first =>
  have H := HC5.out
  clear HC5
  by_cases c28 : (t630.length : Int) = 0
  ·rw [if_pos c28] at H
   have c28b0 := beq_iff_eq.mpr c28
   have c28b1 := bne_eq_false_iff_eq.mpr c28
   clear c28
   (first | rw [c28b0] | (simp only [i64_w, i32_w]; rw [c28b0]) | skip)
   simp only [Option.some.injEq, Prod.mk.injEq] at H
   obtain ⟨rfl, rfl, rfl⟩ := H
   have hnb29 := NB640_626.out
   have hnc29 := NB626_640.out
   have hnb30 := NB640_627.out
   have hnc30 := NB627_640.out
   have hnb31 := NB640_628.out
   have hnc31 := NB628_640.out
   have hnb32 := NB640_639.out
   have hnc32 := NB639_640.out
   obtain ⟨_, _, _, _, _, _⟩ := zc BK640
   have hnb34 := NB628_626.out
   have hnc34 := NB626_628.out
   have hnb35 := NB628_627.out
   have hnc35 := NB627_628.out
   have hnb36 := NB628_639.out
   have hnc36 := NB639_628.out
   obtain ⟨_, _, _, _, _, _⟩ := zc BK628
   go_wp2
   refine bodyPost_ret (results_cell_row rfl _ _ gb628 25 #[.bool t634, .slice Ao20 t635.length co20, .int .i64 t638] (0, 0) _ rfl (by (with_reducible repeat (first | refine blk_drewN ?_ _ | refine blk_drew ?_ | refine blk_alloc ?_ _)); refine blk_put (cs := #[.bool t634, .slice Ao20 t635.length co20, .int .i64 0]) ?_ 2 _ rfl; refine blk_put (cs := #[.bool t634, .slice none 0 0, .int .i64 0]) ?_ 1 _ rfl; refine blk_put (cs := #[.bool false, .slice none 0 0, .int .i64 0]) ?_ 0 _ rfl; refine blk_far ?_ NB628_640.out _; refine blk_far ?_ NB628_640.out _; refine blk_far ?_ NB628_640.out _; refine blk_far ?_ NB628_639.out _; refine blk_far ?_ NB628_639.out _; refine blk_far ?_ NB628_639.out _; exact BK628.out) Tryd.underlying25 rfl (by kernel_rfl)) rfl ?_
   exact ⟨_, er, ru (R_mono (R_far (p := ⟨gb628, 2, none⟩) (R_far (p := ⟨gb628, 1, none⟩) (R_far (p := ⟨gb628, 0, none⟩) (R_far (p := ⟨gb640, 2, none⟩) (R_far (p := ⟨gb640, 1, none⟩) (R_far (p := ⟨gb640, 0, none⟩) (zr gb639 (R_types (R_types (R_types HO637.out BK639.out (by decide)) BK640.out (by decide)) BK628.out (by decide)) (fun _ hk => hk.1.1.2) _ _ _) (fun _ hk => hk.1.2) (.bool t634)) (fun _ hk => hk.1.2) (.slice Ao20 t635.length co20)) (fun _ hk => hk.1.2) (.int .i64 t638)) (fun _ hk => hk.2) (.bool t634)) (fun _ hk => hk.2) (.slice Ao20 t635.length co20)) (fun _ hk => hk.2) (.int .i64 t638)) (fun _ hk => trivial)), zs⟩
  rw [if_neg c28] at H
  have c28b0 := beq_eq_false_iff_ne.mpr c28
  have c28b1 := bne_iff_ne.mpr c28
  have c28b2 : ¬ (t630 = []) := fun h_ => c28 (by rw [h_]; rfl)
  (first | rw [c28b0] | (simp only [i64_w, i32_w]; rw [c28b0]) | skip)
  have H' := zA H
  clear H
  go_wp2
  go_meet
  case rel => exact ⟨_, (false), (0), H', ⟨by first | omega | exact Nat.le_refl _⟩, ⟨ru (R_mono (zr gb640 (zr gb639 (R_types (R_types HO632.out BK639.out (by decide)) BK640.out (by decide)) (fun _ hk => hk.1.2) _ _ _) (fun _ hk => hk.2) _ _ _) (fun _ hk => hk.1.1))⟩, ⟨ru (R_mono (zr gb640 (zr gb639 (R_types (R_types HO637.out BK639.out (by decide)) BK640.out (by decide)) (fun _ hk => hk.1.2) _ _ _) (fun _ hk => hk.2) _ _ _) (fun _ hk => hk.1.1))⟩, ⟨by (with_reducible repeat (first | refine blk_drewN ?_ _ | refine blk_drew ?_ | refine blk_alloc ?_ _)); refine blk_far ?_ NB626_640.out _; refine blk_far ?_ NB626_640.out _; refine blk_far ?_ NB626_640.out _; refine blk_far ?_ NB626_639.out _; refine blk_far ?_ NB626_639.out _; refine blk_far ?_ NB626_639.out _; exact BK626.out⟩, ⟨by (with_reducible repeat (first | refine blk_drewN ?_ _ | refine blk_drew ?_ | refine blk_alloc ?_ _)); refine blk_far ?_ NB627_640.out _; refine blk_far ?_ NB627_640.out _; refine blk_far ?_ NB627_640.out _; refine blk_far ?_ NB627_639.out _; refine blk_far ?_ NB627_639.out _; refine blk_far ?_ NB627_639.out _; exact BK627.out⟩, ⟨by (with_reducible repeat (first | refine blk_drewN ?_ _ | refine blk_drew ?_ | refine blk_alloc ?_ _)); refine blk_far ?_ NB628_640.out _; refine blk_far ?_ NB628_640.out _; refine blk_far ?_ NB628_640.out _; refine blk_far ?_ NB628_639.out _; refine blk_far ?_ NB628_639.out _; refine blk_far ?_ NB628_639.out _; exact BK628.out⟩, ⟨by (with_reducible repeat (first | refine blk_drewN ?_ _ | refine blk_drew ?_ | refine blk_alloc ?_ _)); refine blk_far ?_ NB639_640.out _; refine blk_far ?_ NB639_640.out _; refine blk_far ?_ NB639_640.out _; refine blk_put (cs := #[.bool t629, .slice Ao16 t630.length co16, .int .i64 0]) ?_ 2 _ rfl; refine blk_put (cs := #[.bool t629, .slice none 0 0, .int .i64 0]) ?_ 1 _ rfl; refine blk_put (cs := #[.bool false, .slice none 0 0, .int .i64 0]) ?_ 0 _ rfl; exact BK639.out⟩, ⟨by (with_reducible repeat (first | refine blk_drewN ?_ _ | refine blk_drew ?_ | refine blk_alloc ?_ _)); refine blk_put (cs := #[.bool t634, .slice Ao20 t635.length co20, .int .i64 0]) ?_ 2 _ rfl; refine blk_put (cs := #[.bool t634, .slice none 0 0, .int .i64 0]) ?_ 1 _ rfl; refine blk_put (cs := #[.bool false, .slice none 0 0, .int .i64 0]) ?_ 0 _ rfl; refine blk_far ?_ NB640_639.out _; refine blk_far ?_ NB640_639.out _; refine blk_far ?_ NB640_639.out _; exact BK640.out⟩, ⟨zs⟩⟩
 case rest =>
  clear HC5
  try clear c28
  try clear c28b0
  try clear c28b1
  try clear c28b2
  obtain ⟨kq, x629000_4, x629002_4, HA, HJ4, HO_640001, HO_641001, BK626, BK627, BK628, BK639, BK640, HB⟩ := hcut
  cases kq with
  | zero => exact absurd HA.out (by simp [ulpref04_Plus.j0])
  | succ kj4 =>
   have H := HA.out
   clear HA
   simp only [ulpref04_Plus.j0] at H
   have HC38 := zA H
   clear H
   have hnb39 := NB640_626.out
   have hnc39 := NB626_640.out
   have hnb40 := NB640_627.out
   have hnc40 := NB627_640.out
   have hnb41 := NB640_628.out
   have hnc41 := NB628_640.out
   have hnb42 := NB640_639.out
   have hnc42 := NB639_640.out
   obtain ⟨_, _, _, _, _, _⟩ := zc BK640
   go_upto_if 22 with (fail)
   go_cut [] (fun wc => ∃ (kq : Nat) (x629000_37 : Bool) (x629002_37 : Int), Aside0 (ulpref04_Plus.j1 kq t629 t630 t633 t634 t635 t638 = some (r1, r2, r3)) ∧ Aside0 (kq ≤ kj4) ∧ Aside0 (Kd.R (Kd.int .u64) 43 wc w.heap.size (fun k_ => some k_ ≠ ((.slice Ao20 t635.length co20) : Value).ownBlock) (.slice Ao16 t630.length co16) t630) ∧ Aside0 (Kd.R (Kd.int .u64) 43 wc w.heap.size (fun k_ => some k_ ≠ ((.slice Ao16 t630.length co16) : Value).ownBlock) (.slice Ao20 t635.length co20) t635) ∧ Aside0 (wc.heap[gb626]? = some (.cells #[.bool a0_0, (.slice A0_1 l0_1.length c0_1), .int .i64 a0_2] 25 (0, 0))) ∧ Aside0 (wc.heap[gb627]? = some (.cells #[.bool a1_0, (.slice A1_1 l1_1.length c1_1), .int .i64 a1_2] 25 (0, 0))) ∧ Aside0 (wc.heap[gb628]? = some (.cells #[.bool x629000_37, (.slice none 0 0), .int .i64 x629002_37] 25 (0, 0))) ∧ Aside0 (wc.heap[gb639]? = some (.cells #[.bool t629, (.slice Ao16 t630.length co16), .int .i64 t633] 25 (0, 0))) ∧ Aside0 (wc.heap[gb640]? = some (.cells #[.bool t634, (.slice Ao20 t635.length co20), .int .i64 t638] 25 (0, 0))) ∧ Aside0 (Below w.heap.size w wc))
   case first =>
    have H := HC38.out
    clear HC38
    by_cases c44 : (t635.length : Int) = 0
    ·rw [if_pos c44] at H
     have c44b0 := beq_iff_eq.mpr c44
     have c44b1 := bne_eq_false_iff_eq.mpr c44
     clear c44
     (first | rw [c44b0] | (simp only [i64_w, i32_w]; rw [c44b0]) | skip)
     simp only [Option.some.injEq, Prod.mk.injEq] at H
     obtain ⟨rfl, rfl, rfl⟩ := H
     have hnb45 := NB639_626.out
     have hnc45 := NB626_639.out
     have hnb46 := NB639_627.out
     have hnc46 := NB627_639.out
     have hnb47 := NB639_628.out
     have hnc47 := NB628_639.out
     have hnb48 := NB639_640.out
     have hnc48 := NB640_639.out
     obtain ⟨_, _, _, _, _, _⟩ := zc BK639
     have hnb50 := NB628_626.out
     have hnc50 := NB626_628.out
     have hnb51 := NB628_627.out
     have hnc51 := NB627_628.out
     have hnb52 := NB628_640.out
     have hnc52 := NB640_628.out
     obtain ⟨_, _, _, _, _, _⟩ := zc BK628
     go_wp2
     refine bodyPost_ret (results_cell_row rfl _ _ gb628 25 #[.bool t629, .slice Ao16 t630.length co16, .int .i64 t633] (0, 0) _ rfl (zy BK628) Tryd.underlying25 rfl (by kernel_rfl)) rfl ?_
     exact ⟨_, er, ru (R_mono (zr gb628 (R_types HO_640001.out BK628.out (by decide)) (fun _ hk => hk.2) _ _ _) (fun _ hk => trivial)), zs⟩
    rw [if_neg c44] at H
    have c44b0 := beq_eq_false_iff_ne.mpr c44
    have c44b1 := bne_iff_ne.mpr c44
    have c44b2 : ¬ (t635 = []) := fun h_ => c44 (by rw [h_]; rfl)
    (first | rw [c44b0] | (simp only [i64_w, i32_w]; rw [c44b0]) | skip)
    have H' := zA H
    clear H
    go_wp2
    go_meet
    case rel => exact ⟨_, (x629000_4), (x629002_4), H', ⟨by have := HJ4.out; first | omega | exact Nat.le_refl _⟩, ⟨ru HO_640001.out⟩, ⟨ru HO_641001.out⟩, ⟨zu BK626⟩, ⟨zu BK627⟩, ⟨zu BK628⟩, ⟨zu BK639⟩, ⟨zu BK640⟩, ⟨zs⟩⟩
   case rest =>
    clear HC38
    try clear c28
    try clear c28b0
    try clear c28b1
    try clear c28b2
    try clear c44
    try clear c44b0
    try clear c44b1
    try clear c44b2
    obtain ⟨kq, x629000_37, x629002_37, HA, HJ37, HO_640001, HO_641001, BK626, BK627, BK628, BK639, BK640, HB⟩ := hcut
    cases kq with
    | zero => exact absurd HA.out (by simp [ulpref04_Plus.j1])
    | succ kj37 =>
     have H := HA.out
     clear HA
     simp only [ulpref04_Plus.j1] at H
     obtain ⟨ji54, hji54⟩ : ∃ j_ : Int, (mn t633 t638) = j_ := ⟨_, rfl⟩
     replace H : ((ulpref03_Shl.f kj37 t630 (wrap64 (t633 - (ji54)))).bind fun t641 => ((ulpref03_Shl.f kj37 t635 (wrap64 (t638 - (ji54)))).bind fun t644 => (if (t629 == t634) = true then ((ulpref03_Add.f kj37 t641 t644).bind fun t647 => ((ulpref04_Form.f kj37 t629 t647 (ji54)).bind fun bt650 => (some (bt650.1, bt650.2.1, bt650.2.2)))) else ((ulpref03_Cmp.f kj37 t641 t644).bind fun t655 => (if t655 ≥ 0 then ((ulpref03_Sub.f kj37 t641 t644).bind fun t656 => ((ulpref04_Form.f kj37 t629 t656 (ji54)).bind fun bt659 => (some (bt659.1, bt659.2.1, bt659.2.2)))) else ((ulpref03_Sub.f kj37 t644 t641).bind fun t664 => ((ulpref04_Form.f kj37 t634 t664 (ji54)).bind fun bt667 => (some (bt667.1, bt667.2.1, bt667.2.2))))))))) = some (r1, r2, r3) := zQ hji54 H
     have hji54_ : (if t638 < t633 then t638 else t633) = ji54 := hji54
     obtain ⟨t641, A55, H⟩ := zh H
     obtain ⟨t644, A56, H⟩ := zh H
     by_cases c57 : (t629 == t634) = true
     ·rw [if_pos c57] at H
      have c57b0 : (t629 == t634) = true := c57
      (try (have c57b1 : decide (t629 = t634) = true := by simpa using c57))
      (try (have c57b2 : (t629 == t634) = true := by simpa using c57))
      clear c57
      obtain ⟨t647, A58, H⟩ := zh H
      obtain ⟨⟨t650, t651, t654⟩, A59, H⟩ := zh H
      (try dsimp only at H)
      simp only [Option.some.injEq, Prod.mk.injEq] at H
      obtain ⟨rfl, rfl, rfl⟩ := H
      have hnb60 := NB639_626.out
      have hnc60 := NB626_639.out
      have hnb61 := NB639_627.out
      have hnc61 := NB627_639.out
      have hnb62 := NB639_628.out
      have hnc62 := NB628_639.out
      have hnb63 := NB639_640.out
      have hnc63 := NB640_639.out
      obtain ⟨_, _, _, _, _, _⟩ := zc BK639
      have hnb65 := NB640_626.out
      have hnc65 := NB626_640.out
      have hnb66 := NB640_627.out
      have hnc66 := NB627_640.out
      have hnb67 := NB640_628.out
      have hnc67 := NB628_640.out
      obtain ⟨_, _, _, _, _, _⟩ := zc BK640
      try go_wp2_with (first | ((with_reducible refine zG 118 rfl ?_); refine goesL_ (some 35) rfl rfl Tryd.func118 (by kernel_rfl) rfl #[.slice Ao16 t630.length co16, .int .i64 (wrap64 (t633 - (ji54)))] rfl (by (try simp only [List.map_toArray, List.map_cons, List.map_nil]); first | done | (simp only [hji54]; rfl) | rfl | (simp only [List.length_drop, List.length_take]; rfl)) ?_; (with_reducible refine (ulpref03_Shl.calls kj37 _ _ t630 (wrap64 (t633 - (ji54))) t641 _ ?side1 ?side2 A55.out).mono ?_); (case side1 => exact zk (R_reads' HO_640001.out).2.2); (case side2 => exact (R_reads' HO_640001.out).2.1); rintro e w69 ⟨v642, rfl, ho0, hb⟩; refine ⟨_, rfl, ?_⟩; have HO643 := zA (R_lower (R_new' (R_new' ho0 (R_lt (ru HO_640001.out))) (R_lt (ru HO_641001.out))) (below_size zs)); replace HO_640001 := zA (R_elder' (ru HO_640001.out) (R_base ho0) hb); replace HO_641001 := zA (R_elder' (ru HO_641001.out) (R_base ho0) hb); replace BK626 := zb BK626 hb; replace BK627 := zb BK627 hb; replace BK628 := zb BK628 hb; replace BK639 := zb BK639 hb; replace BK640 := zb BK640 hb; replace HB := zf hb; (try clear ho0); obtain ⟨hcz70_0, hcz70_1, hcz70_2, hfz70_0, hfz70_1, hfz70_2⟩ := zc BK640) | ((with_reducible refine zG 118 rfl ?_); refine goesL_ (some 42) rfl rfl Tryd.func118 (by kernel_rfl) rfl #[.slice Ao20 t635.length co20, .int .i64 (wrap64 (t638 - (ji54)))] rfl (by (try simp only [List.map_toArray, List.map_cons, List.map_nil]); first | done | (simp only [hji54]; rfl) | rfl | (simp only [List.length_drop, List.length_take]; rfl)) ?_; (with_reducible refine (ulpref03_Shl.calls kj37 _ _ t635 (wrap64 (t638 - (ji54))) t644 _ ?side1 ?side2 A56.out).mono ?_); (case side1 => exact zk (R_reads' HO_641001.out).2.2); (case side2 => exact (R_reads' HO_641001.out).2.1); rintro e w71 ⟨v645, rfl, ho0, hb⟩; refine ⟨_, rfl, ?_⟩; have HO646 := zA (R_lower (R_new' (R_new' (R_new' ho0 (R_lt (ru HO_640001.out))) (R_lt (ru HO_641001.out))) (R_lt (ru HO643.out))) (below_size zs)); replace HO_640001 := zA (R_elder' (ru HO_640001.out) (R_base ho0) hb); replace HO_641001 := zA (R_elder' (ru HO_641001.out) (R_base ho0) hb); replace HO643 := zA (R_elder' (ru HO643.out) (R_base ho0) hb); replace BK626 := zb BK626 hb; replace BK627 := zb BK627 hb; replace BK628 := zb BK628 hb; replace BK639 := zb BK639 hb; replace BK640 := zb BK640 hb; replace HB := zf hb; (try clear ho0); obtain ⟨hcz72_0, hcz72_1, hcz72_2, hfz72_0, hfz72_1, hfz72_2⟩ := zc BK639; obtain ⟨hcz73_0, hcz73_1, hcz73_2, hfz73_0, hfz73_1, hfz73_2⟩ := zc BK640))
      replace HO_640001 := zA (R_drew HO_640001.out)
      replace HO_641001 := zA (R_drew HO_641001.out)
      replace HO643 := zA (R_drew HO643.out)
      replace HO646 := zA (R_drew HO646.out)
      replace BK626 := zA (blk_drew BK626.out)
      replace BK627 := zA (blk_drew BK627.out)
      replace BK628 := zA (blk_drew BK628.out)
      replace BK639 := zA (blk_drew BK639.out)
      replace BK640 := zA (blk_drew BK640.out)
      replace HB := zA (below_drew1 HB.out)
      obtain ⟨Ao75, co75, eo75⟩ := R_slice HO643.out
      (first | subst eo75 | (injection eo75 with f1_ f2_ f3_; have f4_ := f1_.symm; have f5_ := f3_.symm; clear f1_ f2_ f3_; subst f4_; subst f5_))
      obtain ⟨Ao76, co76, eo76⟩ := R_slice HO646.out
      (first | subst eo76 | (injection eo76 with f1_ f2_ f3_; have f4_ := f1_.symm; have f5_ := f3_.symm; clear f1_ f2_ f3_; subst f4_; subst f5_))
      refine start_ (n := 8) (S := fun w' => z3 w' gb639 (.bool t629) (.slice Ao16 t630.length co16) (.int .i64 t633)) (ds := []) #[false, false, false, false, false, false, false, false] (by kernel_rfl) rfl rfl (zz BK639) (fun hHeld => ?_); refine with_tabW ulpref04_Plus.tab10 ulpref04_Plus.bits10 (fun HT_ HW_ => ?_)
      generalize w71.drew = w74 at HO_640001 HO_641001 HO643 HO646 BK626 BK627 BK628 BK639 BK640 HB hHeld ⊢
      refine pure_ (i := 0) (N := some 49) (v := ?_) (a' := ?_) #[true, false, false, false, false, false, false, false] rfl rfl (any_of HT_.out (by kernel_rfl)) (fun _ _ _ h => h) (Or.inl ⟨by rfl, ?_⟩) ?_ ?_
      rotate_left
      ·intro w'
       go_simp
       with_reducible rfl
      rotate_left
      ·exact zq
      refine pure_ (i := 2) (N := some 51) (v := ?_) (a' := ?_) #[true, false, true, false, false, false, false, false] rfl rfl (any_of HT_.out (by kernel_rfl)) (fun _ _ _ h => h) (Or.inl ⟨by rfl, ?_⟩) ?_ ?_
      rotate_left
      ·intro w'
       go_simp
       with_reducible rfl
      rotate_left
      ·exact zq
      refine pure_ (i := 3) (N := some 52) (v := ?_) (a' := ?_) #[true, false, true, true, false, false, false, false] rfl rfl (any_of HT_.out (by kernel_rfl)) (fun _ _ _ h => h) (Or.inl ⟨by rfl, ?_⟩) ?_ ?_
      rotate_left
      ·intro w'
       go_simp
       with_reducible rfl
      rotate_left
      ·exact zq
      refine pure_ (i := 5) (N := some 54) (v := ?_) (a' := ?_) #[true, false, true, true, false, true, false, false] rfl rfl (any_of HT_.out (by kernel_rfl)) (fun _ _ _ h => h) (Or.inl ⟨by rfl, ?_⟩) ?_ ?_
      rotate_left
      ·intro w'
       go_simp
       with_reducible rfl
      rotate_left
      ·exact zq
      refine take_ (i := 1) (N := some 50) (v := ?_) (a' := ?_) #[true, true, true, true, false, true, false, false] rfl rfl (take_ofW HT_.out HW_.out (by kernel_rfl)) (fun _ _ _ h => h) (Or.inl ⟨by rfl, ?_⟩) hHeld ?_ ?_
      rotate_left
      ·rintro w' ⟨s0, s1, s2⟩
       go_simp
       with_reducible rfl
      rotate_left
      ·exact zq
      refine one_ (i := 4) (N := some 53) #[true, true, true, true, true, true, false, false] rfl rfl (one_of HT_.out (by kernel_rfl)) (by decide) (fun K hK => ?_)
      refine goes_ Tryd.func119 (by kernel_rfl) rfl #[.slice Ao75 t641.length co75, .slice Ao76 t644.length co76] (by rfl) rfl rfl ga ?_
      with_reducible refine (ulpref03_Add.calls kj37 _ _ t641 _ _ t644 t647 _ ?side1 ?side2 ?side3 ?side4 A58.out).mono ?_
      (case side1 => exact zk (R_reads' HO643.out).2.2)
      (case side2 => exact (R_reads' HO643.out).2.1)
      (case side3 => exact zk (R_reads' HO646.out).2.2)
      (case side4 => exact (R_reads' HO646.out).2.1)
      rintro e w77 ⟨v648, rfl, ho0, hb⟩
      refine ⟨_, rfl, ?_⟩
      have HO649 := zA (R_lower (R_new' (R_new' (R_new' (R_new' ho0 (R_lt (ru HO_640001.out))) (R_lt (ru HO_641001.out))) (R_lt (ru HO643.out))) (R_lt (ru HO646.out))) (below_size zs))
      replace HO_640001 := zA (R_elder' (ru HO_640001.out) (R_base ho0) hb)
      replace HO_641001 := zA (R_elder' (ru HO_641001.out) (R_base ho0) hb)
      replace HO643 := zA (R_elder' (ru HO643.out) (R_base ho0) hb)
      replace HO646 := zA (R_elder' (ru HO646.out) (R_base ho0) hb)
      replace BK626 := zb BK626 hb
      replace BK627 := zb BK627 hb
      replace BK628 := zb BK628 hb
      replace BK639 := zb BK639 hb
      replace BK640 := zb BK640 hb
      replace HB := zf hb
      (try clear hb)
      (try clear hb2)
      (try clear hk)
      (try clear hi)
      (try clear ho0)
      obtain ⟨Ao78, co78, eo78⟩ := R_slice HO649.out
      (first | subst eo78 | (injection eo78 with f1_ f2_ f3_; have f4_ := f1_.symm; have f5_ := f3_.symm; clear f1_ f2_ f3_; subst f4_; subst f5_))
      refine hK.out _ _ (zz BK639) (fun hHeld => ?_)
      clear hK K
      refine norm_ (a' := ?_) ?_ ?_
      rotate_left
      ·show Act.put _ (some 53) _ = _
       simp only [Act.put, List.setIfInBounds_toArray, List.set_cons_zero, List.set_cons_succ, i64_w, i32_w]
       rfl
      refine one_ (i := 6) (N := some 55) #[true, true, true, true, true, true, true, false] rfl rfl (one_of HT_.out (by kernel_rfl)) (by decide) (fun K hK => ?_)
      refine goes_ Tryd.func76 (by kernel_rfl) rfl #[.bool t629, .slice Ao78 t647.length co78, .int .i64 ji54] (by rfl) rfl rfl (by (try simp only [List.map_toArray, List.map_cons, List.map_nil]); first | done | (simp only [hji54]; rfl) | rfl | (simp only [List.length_drop, List.length_take]; rfl)) ?_
      with_reducible refine (ulpref04_Form.calls kj37 t629 _ _ t647 ji54 t650 t651 t654 _ ?side1 ?side2 A59.out).mono ?_
      (case side1 => exact zk (R_reads' HO649.out).2.2)
      (case side2 => exact (R_reads' HO649.out).2.1)
      rintro e w79 ⟨v652, rfl, ho0, hb⟩
      refine ⟨_, rfl, ?_⟩
      have HO653 := zA (R_lower (R_new' (R_new' (R_new' (R_new' (R_new' ho0 (R_lt (ru HO_640001.out))) (R_lt (ru HO_641001.out))) (R_lt (ru HO643.out))) (R_lt (ru HO646.out))) (R_lt (ru HO649.out))) (below_size zs))
      replace HO_640001 := zA (R_elder' (ru HO_640001.out) (R_base ho0) hb)
      replace HO_641001 := zA (R_elder' (ru HO_641001.out) (R_base ho0) hb)
      replace HO643 := zA (R_elder' (ru HO643.out) (R_base ho0) hb)
      replace HO646 := zA (R_elder' (ru HO646.out) (R_base ho0) hb)
      replace HO649 := zA (R_elder' (ru HO649.out) (R_base ho0) hb)
      replace BK626 := zb BK626 hb
      replace BK627 := zb BK627 hb
      replace BK628 := zb BK628 hb
      replace BK639 := zb BK639 hb
      replace BK640 := zb BK640 hb
      replace HB := zf hb
      (try clear hb)
      (try clear hb2)
      (try clear hk)
      (try clear hi)
      (try clear ho0)
      obtain ⟨Ao81, co81, eo81⟩ := R_slice HO653.out
      (first | subst eo81 | (injection eo81 with f1_ f2_ f3_; have f4_ := f1_.symm; have f5_ := f3_.symm; clear f1_ f2_ f3_; subst f4_; subst f5_))
      refine hK.out _ _ (zz BK639) (fun hHeld => ?_)
      clear hK K
      refine norm_ (a' := ?_) ?_ ?_
      rotate_left
      ·show Act.put _ (some 55) _ = _
       simp only [Act.put, List.setIfInBounds_toArray, List.set_cons_zero, List.set_cons_succ, i64_w, i32_w]
       rfl
      refine one_ (i := 7) (N := none) #[true, true, true, true, true, true, true, true] rfl rfl (one_of HT_.out (by kernel_rfl)) (by decide) (fun K hK => ?_)
      have hs80 : w79.cell? ⟨gb628, 0, none⟩ = some (.bool x629000_37) := (blk_cell BK628.out 0).trans rfl
      have hfs80 := blk_frozen BK628.out 0
      have hns80_0 := NB626_628.out
      have hns80_1 := NB627_628.out
      have hns80_3 := NB639_628.out
      have hns80_4 := NB640_628.out
      have hms80_0 := NB628_626.out
      have hms80_1 := NB628_627.out
      have hms80_3 := NB628_639.out
      have hms80_4 := NB628_640.out
      have hs82 : w79.cell? ⟨gb628, 1, none⟩ = some (.slice none 0 0) := (blk_cell BK628.out 1).trans rfl
      have hfs82 := blk_frozen BK628.out 1
      have hns82_0 := NB626_628.out
      have hns82_1 := NB627_628.out
      have hns82_3 := NB639_628.out
      have hns82_4 := NB640_628.out
      have hms82_0 := NB628_626.out
      have hms82_1 := NB628_627.out
      have hms82_3 := NB628_639.out
      have hms82_4 := NB628_640.out
      have hs83 : w79.cell? ⟨gb628, 2, none⟩ = some (.int .i64 x629002_37) := (blk_cell BK628.out 2).trans rfl
      have hfs83 := blk_frozen BK628.out 2
      have hns83_0 := NB626_628.out
      have hns83_1 := NB627_628.out
      have hns83_3 := NB639_628.out
      have hns83_4 := NB640_628.out
      have hms83_0 := NB628_626.out
      have hms83_1 := NB628_627.out
      have hms83_3 := NB628_639.out
      have hms83_4 := NB628_640.out
      refine skip_ (w1 := ?_) (by rfl) rfl ?_ ?_
      rotate_left
      ·go_simp
       rfl
      refine hK.out _ _ ⟨((cell_far (p := ⟨gb628, _, none⟩) NB639_628.out _).trans (((cell_far (p := ⟨gb628, _, none⟩) NB639_628.out _).trans (((cell_far (p := ⟨gb628, _, none⟩) NB639_628.out _).trans (hHeld.1)))))), ((cell_far (p := ⟨gb628, _, none⟩) NB639_628.out _).trans (((cell_far (p := ⟨gb628, _, none⟩) NB639_628.out _).trans (((cell_far (p := ⟨gb628, _, none⟩) NB639_628.out _).trans (hHeld.2.1)))))), ((cell_far (p := ⟨gb628, _, none⟩) NB639_628.out _).trans (((cell_far (p := ⟨gb628, _, none⟩) NB639_628.out _).trans (((cell_far (p := ⟨gb628, _, none⟩) NB639_628.out _).trans (hHeld.2.2))))))⟩ (fun hHeld => ?_)
      clear hK K
      refine done_ (done_of HT_.out (by kernel_rfl)) ?_
      try go_wp2
      refine bodyPost_ret (results_cell_row rfl _ _ gb628 25 #[.bool t650, .slice Ao81 t651.length co81, .int .i64 t654] (0, 0) _ rfl (zy BK628) Tryd.underlying25 rfl (by kernel_rfl)) rfl ?_
      exact ⟨_, by first | rfl | (simp [errW_none, errW_some] <;> rfl) | (simp only [← hji54]; first | rfl | (simp [errW_none, errW_some] <;> rfl)) | (simp [*, errW_none, errW_some] <;> rfl), ru (R_mono (zr gb628 (R_types HO653.out BK628.out (by decide)) (fun _ hk => hk.2) _ _ _) (fun _ hk => trivial)), zs⟩
     rw [if_neg c57] at H
     have c57b0 : (t629 == t634) = false := by simpa using c57
     (try (have c57b1 : decide (t629 = t634) = false := by simpa using c57))
     (try (have c57b2 : (t629 == t634) = false := by simpa using c57))
     (try (have c57b3 : ¬ (t629 = t634) := by simpa using c57))
     clear c57
     obtain ⟨t655, A84, H⟩ := zh H
     by_cases c85 : t655 ≥ 0
     ·rw [if_pos c85] at H
      have c85b0 := decide_eq_true c85
      clear c85
      obtain ⟨t656, A86, H⟩ := zh H
      obtain ⟨⟨t659, t660, t663⟩, A87, H⟩ := zh H
      (try dsimp only at H)
      simp only [Option.some.injEq, Prod.mk.injEq] at H
      obtain ⟨rfl, rfl, rfl⟩ := H
      have hnb88 := NB639_626.out
      have hnc88 := NB626_639.out
      have hnb89 := NB639_627.out
      have hnc89 := NB627_639.out
      have hnb90 := NB639_628.out
      have hnc90 := NB628_639.out
      have hnb91 := NB639_640.out
      have hnc91 := NB640_639.out
      obtain ⟨_, _, _, _, _, _⟩ := zc BK639
      have hnb93 := NB640_626.out
      have hnc93 := NB626_640.out
      have hnb94 := NB640_627.out
      have hnc94 := NB627_640.out
      have hnb95 := NB640_628.out
      have hnc95 := NB628_640.out
      obtain ⟨_, _, _, _, _, _⟩ := zc BK640
      try go_wp2_with (first | ((with_reducible refine zG 118 rfl ?_); refine goesL_ (some 35) rfl rfl Tryd.func118 (by kernel_rfl) rfl #[.slice Ao16 t630.length co16, .int .i64 (wrap64 (t633 - (ji54)))] rfl (by (try simp only [List.map_toArray, List.map_cons, List.map_nil]); first | done | (simp only [hji54]; rfl) | rfl | (simp only [List.length_drop, List.length_take]; rfl)) ?_; (with_reducible refine (ulpref03_Shl.calls kj37 _ _ t630 (wrap64 (t633 - (ji54))) t641 _ ?side1 ?side2 A55.out).mono ?_); (case side1 => exact zk (R_reads' HO_640001.out).2.2); (case side2 => exact (R_reads' HO_640001.out).2.1); rintro e w97 ⟨v642, rfl, ho0, hb⟩; refine ⟨_, rfl, ?_⟩; have HO643 := zA (R_lower (R_new' (R_new' ho0 (R_lt (ru HO_640001.out))) (R_lt (ru HO_641001.out))) (below_size zs)); replace HO_640001 := zA (R_elder' (ru HO_640001.out) (R_base ho0) hb); replace HO_641001 := zA (R_elder' (ru HO_641001.out) (R_base ho0) hb); replace BK626 := zb BK626 hb; replace BK627 := zb BK627 hb; replace BK628 := zb BK628 hb; replace BK639 := zb BK639 hb; replace BK640 := zb BK640 hb; replace HB := zf hb; (try clear ho0); obtain ⟨hcz98_0, hcz98_1, hcz98_2, hfz98_0, hfz98_1, hfz98_2⟩ := zc BK640) | ((with_reducible refine zG 118 rfl ?_); refine goesL_ (some 42) rfl rfl Tryd.func118 (by kernel_rfl) rfl #[.slice Ao20 t635.length co20, .int .i64 (wrap64 (t638 - (ji54)))] rfl (by (try simp only [List.map_toArray, List.map_cons, List.map_nil]); first | done | (simp only [hji54]; rfl) | rfl | (simp only [List.length_drop, List.length_take]; rfl)) ?_; (with_reducible refine (ulpref03_Shl.calls kj37 _ _ t635 (wrap64 (t638 - (ji54))) t644 _ ?side1 ?side2 A56.out).mono ?_); (case side1 => exact zk (R_reads' HO_641001.out).2.2); (case side2 => exact (R_reads' HO_641001.out).2.1); rintro e w99 ⟨v645, rfl, ho0, hb⟩; refine ⟨_, rfl, ?_⟩; have HO646 := zA (R_lower (R_new' (R_new' (R_new' ho0 (R_lt (ru HO_640001.out))) (R_lt (ru HO_641001.out))) (R_lt (ru HO643.out))) (below_size zs)); replace HO_640001 := zA (R_elder' (ru HO_640001.out) (R_base ho0) hb); replace HO_641001 := zA (R_elder' (ru HO_641001.out) (R_base ho0) hb); replace HO643 := zA (R_elder' (ru HO643.out) (R_base ho0) hb); replace BK626 := zb BK626 hb; replace BK627 := zb BK627 hb; replace BK628 := zb BK628 hb; replace BK639 := zb BK639 hb; replace BK640 := zb BK640 hb; replace HB := zf hb; (try clear ho0); obtain ⟨hcz100_0, hcz100_1, hcz100_2, hfz100_0, hfz100_1, hfz100_2⟩ := zc BK639; obtain ⟨hcz101_0, hcz101_1, hcz101_2, hfz101_0, hfz101_1, hfz101_2⟩ := zc BK640; obtain ⟨Ao102, co102, eo102⟩ := R_slice HO643.out; subst eo102; obtain ⟨Ao103, co103, eo103⟩ := R_slice HO646.out; subst eo103) | ((with_reducible refine zG 120 rfl ?_); refine zL (some 59) rfl rfl Tryd.func120 #[.slice Ao102 t641.length co102, .slice Ao103 t644.length co103] rfl ?_; (with_reducible refine (ulpref03_Cmp.calls kj37 _ _ t641 _ _ t644 t655 _ ?side1 ?side2 ?side3 ?side4 A84.out).mono ?_); (case side1 => exact zk (R_reads' HO643.out).2.2); (case side2 => exact (R_reads' HO643.out).2.1); (case side3 => exact zk (R_reads' HO646.out).2.2); (case side4 => exact (R_reads' HO646.out).2.1); rintro e w104 ⟨rfl, hb⟩; refine ⟨_, rfl, ?_⟩; replace HO_640001 := zA (R_below (ru HO_640001.out) hb); replace HO_641001 := zA (R_below (ru HO_641001.out) hb); replace HO643 := zA (R_below (ru HO643.out) hb); replace HO646 := zA (R_below (ru HO646.out) hb); replace BK626 := zb BK626 hb; replace BK627 := zb BK627 hb; replace BK628 := zb BK628 hb; replace BK639 := zb BK639 hb; replace BK640 := zb BK640 hb; replace HB := zf hb))
      replace HO_640001 := zA (R_drew HO_640001.out)
      replace HO_641001 := zA (R_drew HO_641001.out)
      replace HO643 := zA (R_drew HO643.out)
      replace HO646 := zA (R_drew HO646.out)
      replace BK626 := zA (blk_drew BK626.out)
      replace BK627 := zA (blk_drew BK627.out)
      replace BK628 := zA (blk_drew BK628.out)
      replace BK639 := zA (blk_drew BK639.out)
      replace BK640 := zA (blk_drew BK640.out)
      replace HB := zA (below_drew1 HB.out)
      refine start_ (n := 8) (S := fun w' => z3 w' gb639 (.bool t629) (.slice Ao16 t630.length co16) (.int .i64 t633)) (ds := []) #[false, false, false, false, false, false, false, false] (by kernel_rfl) rfl rfl (zz BK639) (fun hHeld => ?_); refine with_tabW ulpref04_Plus.tab12 ulpref04_Plus.bits12 (fun HT_ HW_ => ?_)
      generalize w104.drew = w105 at HO_640001 HO_641001 HO643 HO646 BK626 BK627 BK628 BK639 BK640 HB hHeld ⊢
      refine pure_ (i := 0) (N := some 61) (v := ?_) (a' := ?_) #[true, false, false, false, false, false, false, false] rfl rfl (any_of HT_.out (by kernel_rfl)) (fun _ _ _ h => h) (Or.inl ⟨by rfl, ?_⟩) ?_ ?_
      rotate_left
      ·intro w'
       go_simp
       with_reducible rfl
      rotate_left
      ·exact zq
      refine pure_ (i := 2) (N := some 63) (v := ?_) (a' := ?_) #[true, false, true, false, false, false, false, false] rfl rfl (any_of HT_.out (by kernel_rfl)) (fun _ _ _ h => h) (Or.inl ⟨by rfl, ?_⟩) ?_ ?_
      rotate_left
      ·intro w'
       go_simp
       with_reducible rfl
      rotate_left
      ·exact zq
      refine pure_ (i := 3) (N := some 64) (v := ?_) (a' := ?_) #[true, false, true, true, false, false, false, false] rfl rfl (any_of HT_.out (by kernel_rfl)) (fun _ _ _ h => h) (Or.inl ⟨by rfl, ?_⟩) ?_ ?_
      rotate_left
      ·intro w'
       go_simp
       with_reducible rfl
      rotate_left
      ·exact zq
      refine pure_ (i := 5) (N := some 66) (v := ?_) (a' := ?_) #[true, false, true, true, false, true, false, false] rfl rfl (any_of HT_.out (by kernel_rfl)) (fun _ _ _ h => h) (Or.inl ⟨by rfl, ?_⟩) ?_ ?_
      rotate_left
      ·intro w'
       go_simp
       with_reducible rfl
      rotate_left
      ·exact zq
      refine take_ (i := 1) (N := some 62) (v := ?_) (a' := ?_) #[true, true, true, true, false, true, false, false] rfl rfl (take_ofW HT_.out HW_.out (by kernel_rfl)) (fun _ _ _ h => h) (Or.inl ⟨by rfl, ?_⟩) hHeld ?_ ?_
      rotate_left
      ·rintro w' ⟨s0, s1, s2⟩
       go_simp
       with_reducible rfl
      rotate_left
      ·exact zq
      refine one_ (i := 4) (N := some 65) #[true, true, true, true, true, true, false, false] rfl rfl (one_of HT_.out (by kernel_rfl)) (by decide) (fun K hK => ?_)
      refine goes_ Tryd.func121 (by kernel_rfl) rfl #[.slice Ao102 t641.length co102, .slice Ao103 t644.length co103] (by rfl) rfl rfl ga ?_
      with_reducible refine (ulpref03_Sub.calls kj37 _ _ t641 _ _ t644 t656 _ ?side1 ?side2 ?side3 ?side4 A86.out).mono ?_
      (case side1 => exact zk (R_reads' HO643.out).2.2)
      (case side2 => exact (R_reads' HO643.out).2.1)
      (case side3 => exact zk (R_reads' HO646.out).2.2)
      (case side4 => exact (R_reads' HO646.out).2.1)
      rintro e w106 ⟨v657, rfl, ho0, hb⟩
      refine ⟨_, rfl, ?_⟩
      have HO658 := zA (R_lower (R_new' (R_new' (R_new' (R_new' ho0 (R_lt (ru HO_640001.out))) (R_lt (ru HO_641001.out))) (R_lt (ru HO643.out))) (R_lt (ru HO646.out))) (below_size zs))
      replace HO_640001 := zA (R_elder' (ru HO_640001.out) (R_base ho0) hb)
      replace HO_641001 := zA (R_elder' (ru HO_641001.out) (R_base ho0) hb)
      replace HO643 := zA (R_elder' (ru HO643.out) (R_base ho0) hb)
      replace HO646 := zA (R_elder' (ru HO646.out) (R_base ho0) hb)
      replace BK626 := zb BK626 hb
      replace BK627 := zb BK627 hb
      replace BK628 := zb BK628 hb
      replace BK639 := zb BK639 hb
      replace BK640 := zb BK640 hb
      replace HB := zf hb
      (try clear hb)
      (try clear hb2)
      (try clear hk)
      (try clear hi)
      (try clear ho0)
      obtain ⟨Ao107, co107, eo107⟩ := R_slice HO658.out
      (first | subst eo107 | (injection eo107 with f1_ f2_ f3_; have f4_ := f1_.symm; have f5_ := f3_.symm; clear f1_ f2_ f3_; subst f4_; subst f5_))
      refine hK.out _ _ (zz BK639) (fun hHeld => ?_)
      clear hK K
      refine norm_ (a' := ?_) ?_ ?_
      rotate_left
      ·show Act.put _ (some 65) _ = _
       simp only [Act.put, List.setIfInBounds_toArray, List.set_cons_zero, List.set_cons_succ, i64_w, i32_w]
       rfl
      refine one_ (i := 6) (N := some 67) #[true, true, true, true, true, true, true, false] rfl rfl (one_of HT_.out (by kernel_rfl)) (by decide) (fun K hK => ?_)
      refine goes_ Tryd.func76 (by kernel_rfl) rfl #[.bool t629, .slice Ao107 t656.length co107, .int .i64 ji54] (by rfl) rfl rfl (by (try simp only [List.map_toArray, List.map_cons, List.map_nil]); first | done | (simp only [hji54]; rfl) | rfl | (simp only [List.length_drop, List.length_take]; rfl)) ?_
      with_reducible refine (ulpref04_Form.calls kj37 t629 _ _ t656 ji54 t659 t660 t663 _ ?side1 ?side2 A87.out).mono ?_
      (case side1 => exact zk (R_reads' HO658.out).2.2)
      (case side2 => exact (R_reads' HO658.out).2.1)
      rintro e w108 ⟨v661, rfl, ho0, hb⟩
      refine ⟨_, rfl, ?_⟩
      have HO662 := zA (R_lower (R_new' (R_new' (R_new' (R_new' (R_new' ho0 (R_lt (ru HO_640001.out))) (R_lt (ru HO_641001.out))) (R_lt (ru HO643.out))) (R_lt (ru HO646.out))) (R_lt (ru HO658.out))) (below_size zs))
      replace HO_640001 := zA (R_elder' (ru HO_640001.out) (R_base ho0) hb)
      replace HO_641001 := zA (R_elder' (ru HO_641001.out) (R_base ho0) hb)
      replace HO643 := zA (R_elder' (ru HO643.out) (R_base ho0) hb)
      replace HO646 := zA (R_elder' (ru HO646.out) (R_base ho0) hb)
      replace HO658 := zA (R_elder' (ru HO658.out) (R_base ho0) hb)
      replace BK626 := zb BK626 hb
      replace BK627 := zb BK627 hb
      replace BK628 := zb BK628 hb
      replace BK639 := zb BK639 hb
      replace BK640 := zb BK640 hb
      replace HB := zf hb
      (try clear hb)
      (try clear hb2)
      (try clear hk)
      (try clear hi)
      (try clear ho0)
      obtain ⟨Ao110, co110, eo110⟩ := R_slice HO662.out
      (first | subst eo110 | (injection eo110 with f1_ f2_ f3_; have f4_ := f1_.symm; have f5_ := f3_.symm; clear f1_ f2_ f3_; subst f4_; subst f5_))
      refine hK.out _ _ (zz BK639) (fun hHeld => ?_)
      clear hK K
      refine norm_ (a' := ?_) ?_ ?_
      rotate_left
      ·show Act.put _ (some 67) _ = _
       simp only [Act.put, List.setIfInBounds_toArray, List.set_cons_zero, List.set_cons_succ, i64_w, i32_w]
       rfl
      refine one_ (i := 7) (N := none) #[true, true, true, true, true, true, true, true] rfl rfl (one_of HT_.out (by kernel_rfl)) (by decide) (fun K hK => ?_)
      have hs109 : w108.cell? ⟨gb628, 0, none⟩ = some (.bool x629000_37) := (blk_cell BK628.out 0).trans rfl
      have hfs109 := blk_frozen BK628.out 0
      have hns109_0 := NB626_628.out
      have hns109_1 := NB627_628.out
      have hns109_3 := NB639_628.out
      have hns109_4 := NB640_628.out
      have hms109_0 := NB628_626.out
      have hms109_1 := NB628_627.out
      have hms109_3 := NB628_639.out
      have hms109_4 := NB628_640.out
      have hs111 : w108.cell? ⟨gb628, 1, none⟩ = some (.slice none 0 0) := (blk_cell BK628.out 1).trans rfl
      have hfs111 := blk_frozen BK628.out 1
      have hns111_0 := NB626_628.out
      have hns111_1 := NB627_628.out
      have hns111_3 := NB639_628.out
      have hns111_4 := NB640_628.out
      have hms111_0 := NB628_626.out
      have hms111_1 := NB628_627.out
      have hms111_3 := NB628_639.out
      have hms111_4 := NB628_640.out
      have hs112 : w108.cell? ⟨gb628, 2, none⟩ = some (.int .i64 x629002_37) := (blk_cell BK628.out 2).trans rfl
      have hfs112 := blk_frozen BK628.out 2
      have hns112_0 := NB626_628.out
      have hns112_1 := NB627_628.out
      have hns112_3 := NB639_628.out
      have hns112_4 := NB640_628.out
      have hms112_0 := NB628_626.out
      have hms112_1 := NB628_627.out
      have hms112_3 := NB628_639.out
      have hms112_4 := NB628_640.out
      refine skip_ (w1 := ?_) (by rfl) rfl ?_ ?_
      rotate_left
      ·go_simp
       rfl
      refine hK.out _ _ ⟨((cell_far (p := ⟨gb628, _, none⟩) NB639_628.out _).trans (((cell_far (p := ⟨gb628, _, none⟩) NB639_628.out _).trans (((cell_far (p := ⟨gb628, _, none⟩) NB639_628.out _).trans (hHeld.1)))))), ((cell_far (p := ⟨gb628, _, none⟩) NB639_628.out _).trans (((cell_far (p := ⟨gb628, _, none⟩) NB639_628.out _).trans (((cell_far (p := ⟨gb628, _, none⟩) NB639_628.out _).trans (hHeld.2.1)))))), ((cell_far (p := ⟨gb628, _, none⟩) NB639_628.out _).trans (((cell_far (p := ⟨gb628, _, none⟩) NB639_628.out _).trans (((cell_far (p := ⟨gb628, _, none⟩) NB639_628.out _).trans (hHeld.2.2))))))⟩ (fun hHeld => ?_)
      clear hK K
      refine done_ (done_of HT_.out (by kernel_rfl)) ?_
      try go_wp2
      refine bodyPost_ret (results_cell_row rfl _ _ gb628 25 #[.bool t659, .slice Ao110 t660.length co110, .int .i64 t663] (0, 0) _ rfl (zy BK628) Tryd.underlying25 rfl (by kernel_rfl)) rfl ?_
      exact ⟨_, by first | rfl | (simp [errW_none, errW_some] <;> rfl) | (simp only [← hji54]; first | rfl | (simp [errW_none, errW_some] <;> rfl)) | (simp [*, errW_none, errW_some] <;> rfl), ru (R_mono (zr gb628 (R_types HO662.out BK628.out (by decide)) (fun _ hk => hk.2) _ _ _) (fun _ hk => trivial)), zs⟩
     rw [if_neg c85] at H
     have c85b0 := decide_eq_false c85
     clear c85
     obtain ⟨t664, A113, H⟩ := zh H
     obtain ⟨⟨t667, t668, t671⟩, A114, H⟩ := zh H
     (try dsimp only at H)
     simp only [Option.some.injEq, Prod.mk.injEq] at H
     obtain ⟨rfl, rfl, rfl⟩ := H
     have hnb115 := NB639_626.out
     have hnc115 := NB626_639.out
     have hnb116 := NB639_627.out
     have hnc116 := NB627_639.out
     have hnb117 := NB639_628.out
     have hnc117 := NB628_639.out
     have hnb118 := NB639_640.out
     have hnc118 := NB640_639.out
     obtain ⟨_, _, _, _, _, _⟩ := zc BK639
     have hnb120 := NB640_626.out
     have hnc120 := NB626_640.out
     have hnb121 := NB640_627.out
     have hnc121 := NB627_640.out
     have hnb122 := NB640_628.out
     have hnc122 := NB628_640.out
     obtain ⟨_, _, _, _, _, _⟩ := zc BK640
     try go_wp2_with (first | ((with_reducible refine zG 118 rfl ?_); refine goesL_ (some 35) rfl rfl Tryd.func118 (by kernel_rfl) rfl #[.slice Ao16 t630.length co16, .int .i64 (wrap64 (t633 - (ji54)))] rfl (by (try simp only [List.map_toArray, List.map_cons, List.map_nil]); first | done | (simp only [hji54]; rfl) | rfl | (simp only [List.length_drop, List.length_take]; rfl)) ?_; (with_reducible refine (ulpref03_Shl.calls kj37 _ _ t630 (wrap64 (t633 - (ji54))) t641 _ ?side1 ?side2 A55.out).mono ?_); (case side1 => exact zk (R_reads' HO_640001.out).2.2); (case side2 => exact (R_reads' HO_640001.out).2.1); rintro e w124 ⟨v642, rfl, ho0, hb⟩; refine ⟨_, rfl, ?_⟩; have HO643 := zA (R_lower (R_new' (R_new' ho0 (R_lt (ru HO_640001.out))) (R_lt (ru HO_641001.out))) (below_size zs)); replace HO_640001 := zA (R_elder' (ru HO_640001.out) (R_base ho0) hb); replace HO_641001 := zA (R_elder' (ru HO_641001.out) (R_base ho0) hb); replace BK626 := zb BK626 hb; replace BK627 := zb BK627 hb; replace BK628 := zb BK628 hb; replace BK639 := zb BK639 hb; replace BK640 := zb BK640 hb; replace HB := zf hb; (try clear ho0); obtain ⟨hcz125_0, hcz125_1, hcz125_2, hfz125_0, hfz125_1, hfz125_2⟩ := zc BK640) | ((with_reducible refine zG 118 rfl ?_); refine goesL_ (some 42) rfl rfl Tryd.func118 (by kernel_rfl) rfl #[.slice Ao20 t635.length co20, .int .i64 (wrap64 (t638 - (ji54)))] rfl (by (try simp only [List.map_toArray, List.map_cons, List.map_nil]); first | done | (simp only [hji54]; rfl) | rfl | (simp only [List.length_drop, List.length_take]; rfl)) ?_; (with_reducible refine (ulpref03_Shl.calls kj37 _ _ t635 (wrap64 (t638 - (ji54))) t644 _ ?side1 ?side2 A56.out).mono ?_); (case side1 => exact zk (R_reads' HO_641001.out).2.2); (case side2 => exact (R_reads' HO_641001.out).2.1); rintro e w126 ⟨v645, rfl, ho0, hb⟩; refine ⟨_, rfl, ?_⟩; have HO646 := zA (R_lower (R_new' (R_new' (R_new' ho0 (R_lt (ru HO_640001.out))) (R_lt (ru HO_641001.out))) (R_lt (ru HO643.out))) (below_size zs)); replace HO_640001 := zA (R_elder' (ru HO_640001.out) (R_base ho0) hb); replace HO_641001 := zA (R_elder' (ru HO_641001.out) (R_base ho0) hb); replace HO643 := zA (R_elder' (ru HO643.out) (R_base ho0) hb); replace BK626 := zb BK626 hb; replace BK627 := zb BK627 hb; replace BK628 := zb BK628 hb; replace BK639 := zb BK639 hb; replace BK640 := zb BK640 hb; replace HB := zf hb; (try clear ho0); obtain ⟨hcz127_0, hcz127_1, hcz127_2, hfz127_0, hfz127_1, hfz127_2⟩ := zc BK639; obtain ⟨hcz128_0, hcz128_1, hcz128_2, hfz128_0, hfz128_1, hfz128_2⟩ := zc BK640; obtain ⟨Ao129, co129, eo129⟩ := R_slice HO643.out; subst eo129; obtain ⟨Ao130, co130, eo130⟩ := R_slice HO646.out; subst eo130) | ((with_reducible refine zG 120 rfl ?_); refine zL (some 59) rfl rfl Tryd.func120 #[.slice Ao129 t641.length co129, .slice Ao130 t644.length co130] rfl ?_; (with_reducible refine (ulpref03_Cmp.calls kj37 _ _ t641 _ _ t644 t655 _ ?side1 ?side2 ?side3 ?side4 A84.out).mono ?_); (case side1 => exact zk (R_reads' HO643.out).2.2); (case side2 => exact (R_reads' HO643.out).2.1); (case side3 => exact zk (R_reads' HO646.out).2.2); (case side4 => exact (R_reads' HO646.out).2.1); rintro e w131 ⟨rfl, hb⟩; refine ⟨_, rfl, ?_⟩; replace HO_640001 := zA (R_below (ru HO_640001.out) hb); replace HO_641001 := zA (R_below (ru HO_641001.out) hb); replace HO643 := zA (R_below (ru HO643.out) hb); replace HO646 := zA (R_below (ru HO646.out) hb); replace BK626 := zb BK626 hb; replace BK627 := zb BK627 hb; replace BK628 := zb BK628 hb; replace BK639 := zb BK639 hb; replace BK640 := zb BK640 hb; replace HB := zf hb))
     replace HO_640001 := zA (R_drew HO_640001.out)
     replace HO_641001 := zA (R_drew HO_641001.out)
     replace HO643 := zA (R_drew HO643.out)
     replace HO646 := zA (R_drew HO646.out)
     replace BK626 := zA (blk_drew BK626.out)
     replace BK627 := zA (blk_drew BK627.out)
     replace BK628 := zA (blk_drew BK628.out)
     replace BK639 := zA (blk_drew BK639.out)
     replace BK640 := zA (blk_drew BK640.out)
     replace HB := zA (below_drew1 HB.out)
     refine start_ (n := 8) (S := fun w' => z3 w' gb640 (.bool t634) (.slice Ao20 t635.length co20) (.int .i64 t638)) (ds := []) #[false, false, false, false, false, false, false, false] (by kernel_rfl) rfl rfl (zz BK640) (fun hHeld => ?_); refine with_tabW ulpref04_Plus.tab13 ulpref04_Plus.bits13 (fun HT_ HW_ => ?_)
     generalize w131.drew = w132 at HO_640001 HO_641001 HO643 HO646 BK626 BK627 BK628 BK639 BK640 HB hHeld ⊢
     refine pure_ (i := 0) (N := some 68) (v := ?_) (a' := ?_) #[true, false, false, false, false, false, false, false] rfl rfl (any_of HT_.out (by kernel_rfl)) (fun _ _ _ h => h) (Or.inl ⟨by rfl, ?_⟩) ?_ ?_
     rotate_left
     ·intro w'
      go_simp
      with_reducible rfl
     rotate_left
     ·exact zq
     refine pure_ (i := 2) (N := some 70) (v := ?_) (a' := ?_) #[true, false, true, false, false, false, false, false] rfl rfl (any_of HT_.out (by kernel_rfl)) (fun _ _ _ h => h) (Or.inl ⟨by rfl, ?_⟩) ?_ ?_
     rotate_left
     ·intro w'
      go_simp
      with_reducible rfl
     rotate_left
     ·exact zq
     refine pure_ (i := 3) (N := some 71) (v := ?_) (a' := ?_) #[true, false, true, true, false, false, false, false] rfl rfl (any_of HT_.out (by kernel_rfl)) (fun _ _ _ h => h) (Or.inl ⟨by rfl, ?_⟩) ?_ ?_
     rotate_left
     ·intro w'
      go_simp
      with_reducible rfl
     rotate_left
     ·exact zq
     refine pure_ (i := 5) (N := some 73) (v := ?_) (a' := ?_) #[true, false, true, true, false, true, false, false] rfl rfl (any_of HT_.out (by kernel_rfl)) (fun _ _ _ h => h) (Or.inl ⟨by rfl, ?_⟩) ?_ ?_
     rotate_left
     ·intro w'
      go_simp
      with_reducible rfl
     rotate_left
     ·exact zq
     refine take_ (i := 1) (N := some 69) (v := ?_) (a' := ?_) #[true, true, true, true, false, true, false, false] rfl rfl (take_ofW HT_.out HW_.out (by kernel_rfl)) (fun _ _ _ h => h) (Or.inl ⟨by rfl, ?_⟩) hHeld ?_ ?_
     rotate_left
     ·rintro w' ⟨s0, s1, s2⟩
      go_simp
      with_reducible rfl
     rotate_left
     ·exact zq
     refine one_ (i := 4) (N := some 72) #[true, true, true, true, true, true, false, false] rfl rfl (one_of HT_.out (by kernel_rfl)) (by decide) (fun K hK => ?_)
     refine goes_ Tryd.func121 (by kernel_rfl) rfl #[.slice Ao130 t644.length co130, .slice Ao129 t641.length co129] (by rfl) rfl rfl ga ?_
     with_reducible refine (ulpref03_Sub.calls kj37 _ _ t644 _ _ t641 t664 _ ?side1 ?side2 ?side3 ?side4 A113.out).mono ?_
     (case side1 => exact zk (R_reads' HO646.out).2.2)
     (case side2 => exact (R_reads' HO646.out).2.1)
     (case side3 => exact zk (R_reads' HO643.out).2.2)
     (case side4 => exact (R_reads' HO643.out).2.1)
     rintro e w133 ⟨v665, rfl, ho0, hb⟩
     refine ⟨_, rfl, ?_⟩
     have HO666 := zA (R_lower (R_new' (R_new' (R_new' (R_new' ho0 (R_lt (ru HO_640001.out))) (R_lt (ru HO_641001.out))) (R_lt (ru HO643.out))) (R_lt (ru HO646.out))) (below_size zs))
     replace HO_640001 := zA (R_elder' (ru HO_640001.out) (R_base ho0) hb)
     replace HO_641001 := zA (R_elder' (ru HO_641001.out) (R_base ho0) hb)
     replace HO643 := zA (R_elder' (ru HO643.out) (R_base ho0) hb)
     replace HO646 := zA (R_elder' (ru HO646.out) (R_base ho0) hb)
     replace BK626 := zb BK626 hb
     replace BK627 := zb BK627 hb
     replace BK628 := zb BK628 hb
     replace BK639 := zb BK639 hb
     replace BK640 := zb BK640 hb
     replace HB := zf hb
     (try clear hb)
     (try clear hb2)
     (try clear hk)
     (try clear hi)
     (try clear ho0)
     obtain ⟨Ao134, co134, eo134⟩ := R_slice HO666.out
     (first | subst eo134 | (injection eo134 with f1_ f2_ f3_; have f4_ := f1_.symm; have f5_ := f3_.symm; clear f1_ f2_ f3_; subst f4_; subst f5_))
     refine hK.out _ _ (zz BK640) (fun hHeld => ?_)
     clear hK K
     refine norm_ (a' := ?_) ?_ ?_
     rotate_left
     ·show Act.put _ (some 72) _ = _
      simp only [Act.put, List.setIfInBounds_toArray, List.set_cons_zero, List.set_cons_succ, i64_w, i32_w]
      rfl
     refine one_ (i := 6) (N := some 74) #[true, true, true, true, true, true, true, false] rfl rfl (one_of HT_.out (by kernel_rfl)) (by decide) (fun K hK => ?_)
     refine goes_ Tryd.func76 (by kernel_rfl) rfl #[.bool t634, .slice Ao134 t664.length co134, .int .i64 ji54] (by rfl) rfl rfl (by (try simp only [List.map_toArray, List.map_cons, List.map_nil]); first | done | (simp only [hji54]; rfl) | rfl | (simp only [List.length_drop, List.length_take]; rfl)) ?_
     with_reducible refine (ulpref04_Form.calls kj37 t634 _ _ t664 ji54 t667 t668 t671 _ ?side1 ?side2 A114.out).mono ?_
     (case side1 => exact zk (R_reads' HO666.out).2.2)
     (case side2 => exact (R_reads' HO666.out).2.1)
     rintro e w135 ⟨v669, rfl, ho0, hb⟩
     refine ⟨_, rfl, ?_⟩
     have HO670 := zA (R_lower (R_new' (R_new' (R_new' (R_new' (R_new' ho0 (R_lt (ru HO_640001.out))) (R_lt (ru HO_641001.out))) (R_lt (ru HO643.out))) (R_lt (ru HO646.out))) (R_lt (ru HO666.out))) (below_size zs))
     replace HO_640001 := zA (R_elder' (ru HO_640001.out) (R_base ho0) hb)
     replace HO_641001 := zA (R_elder' (ru HO_641001.out) (R_base ho0) hb)
     replace HO643 := zA (R_elder' (ru HO643.out) (R_base ho0) hb)
     replace HO646 := zA (R_elder' (ru HO646.out) (R_base ho0) hb)
     replace HO666 := zA (R_elder' (ru HO666.out) (R_base ho0) hb)
     replace BK626 := zb BK626 hb
     replace BK627 := zb BK627 hb
     replace BK628 := zb BK628 hb
     replace BK639 := zb BK639 hb
     replace BK640 := zb BK640 hb
     replace HB := zf hb
     (try clear hb)
     (try clear hb2)
     (try clear hk)
     (try clear hi)
     (try clear ho0)
     obtain ⟨Ao137, co137, eo137⟩ := R_slice HO670.out
     (first | subst eo137 | (injection eo137 with f1_ f2_ f3_; have f4_ := f1_.symm; have f5_ := f3_.symm; clear f1_ f2_ f3_; subst f4_; subst f5_))
     refine hK.out _ _ (zz BK640) (fun hHeld => ?_)
     clear hK K
     refine norm_ (a' := ?_) ?_ ?_
     rotate_left
     ·show Act.put _ (some 74) _ = _
      simp only [Act.put, List.setIfInBounds_toArray, List.set_cons_zero, List.set_cons_succ, i64_w, i32_w]
      rfl
     refine one_ (i := 7) (N := none) #[true, true, true, true, true, true, true, true] rfl rfl (one_of HT_.out (by kernel_rfl)) (by decide) (fun K hK => ?_)
     have hs136 : w135.cell? ⟨gb628, 0, none⟩ = some (.bool x629000_37) := (blk_cell BK628.out 0).trans rfl
     have hfs136 := blk_frozen BK628.out 0
     have hns136_0 := NB626_628.out
     have hns136_1 := NB627_628.out
     have hns136_3 := NB639_628.out
     have hns136_4 := NB640_628.out
     have hms136_0 := NB628_626.out
     have hms136_1 := NB628_627.out
     have hms136_3 := NB628_639.out
     have hms136_4 := NB628_640.out
     have hs138 : w135.cell? ⟨gb628, 1, none⟩ = some (.slice none 0 0) := (blk_cell BK628.out 1).trans rfl
     have hfs138 := blk_frozen BK628.out 1
     have hns138_0 := NB626_628.out
     have hns138_1 := NB627_628.out
     have hns138_3 := NB639_628.out
     have hns138_4 := NB640_628.out
     have hms138_0 := NB628_626.out
     have hms138_1 := NB628_627.out
     have hms138_3 := NB628_639.out
     have hms138_4 := NB628_640.out
     have hs139 : w135.cell? ⟨gb628, 2, none⟩ = some (.int .i64 x629002_37) := (blk_cell BK628.out 2).trans rfl
     have hfs139 := blk_frozen BK628.out 2
     have hns139_0 := NB626_628.out
     have hns139_1 := NB627_628.out
     have hns139_3 := NB639_628.out
     have hns139_4 := NB640_628.out
     have hms139_0 := NB628_626.out
     have hms139_1 := NB628_627.out
     have hms139_3 := NB628_639.out
     have hms139_4 := NB628_640.out
     refine skip_ (w1 := ?_) (by rfl) rfl ?_ ?_
     rotate_left
     ·go_simp
      rfl
     refine hK.out _ _ ⟨((cell_far (p := ⟨gb628, _, none⟩) NB640_628.out _).trans (((cell_far (p := ⟨gb628, _, none⟩) NB640_628.out _).trans (((cell_far (p := ⟨gb628, _, none⟩) NB640_628.out _).trans (hHeld.1)))))), ((cell_far (p := ⟨gb628, _, none⟩) NB640_628.out _).trans (((cell_far (p := ⟨gb628, _, none⟩) NB640_628.out _).trans (((cell_far (p := ⟨gb628, _, none⟩) NB640_628.out _).trans (hHeld.2.1)))))), ((cell_far (p := ⟨gb628, _, none⟩) NB640_628.out _).trans (((cell_far (p := ⟨gb628, _, none⟩) NB640_628.out _).trans (((cell_far (p := ⟨gb628, _, none⟩) NB640_628.out _).trans (hHeld.2.2))))))⟩ (fun hHeld => ?_)
     clear hK K
     refine done_ (done_of HT_.out (by kernel_rfl)) ?_
     try go_wp2
     refine bodyPost_ret (results_cell_row rfl _ _ gb628 25 #[.bool t667, .slice Ao137 t668.length co137, .int .i64 t671] (0, 0) _ rfl (zy BK628) Tryd.underlying25 rfl (by kernel_rfl)) rfl ?_
     exact ⟨_, by first | rfl | (simp [errW_none, errW_some] <;> rfl) | (simp only [← hji54]; first | rfl | (simp [errW_none, errW_some] <;> rfl)) | (simp [*, errW_none, errW_some] <;> rfl), ru (R_mono (zr gb628 (R_types HO670.out BK628.out (by decide)) (fun _ hk => hk.2) _ _ _) (fun _ hk => trivial)), zs⟩
end Go.Proofs.YtemfckibdojbbaaDoor.PAll
