/- Printed functions, merged by a program of this session. -/
import Derived.Test.YtemfckibdojbbaaDoorXDyadSumsP0
import Derived.Test.YtemfckibdojbbaaDoorXDyadSumsP13
import Derived.Test.YtemfckibdojbbaaDoorXDyadSumsP20
import Derived.Laws.StructEq
import Derived.Test.YtemfckibdojbbaaDoorXDyadSumsSh
namespace Go.Proofs.YtemfckibdojbbaaDoor.PAll
open Go.RowKit Go.Proofs.YtemfckibdojbbaaDoorW.PrintWords Go.Proofs.YtemfckibdojbbaaDoorW.PrintLast Go.Proofs.YtemfckibdojbbaaDoorW.PrintMore Go.Proofs.YtemfckibdojbbaaDoorW.PrintWords.Kd
attribute [local go_sem] max2_int min2_int max_two min_two max_three min_three max_four min_four   -- for this text's walks alone
set_option linter.unusedVariables false
set_option linter.unusedSimpArgs false
attribute [local go_sem] ext135 ext136
def ulpref04_Times.f (k : Nat) (a0_0 : Bool) (l0_1 : List Int) (a0_2 : Int) (a1_0 : Bool) (l1_1 : List Int) (a1_2 : Int) : Option (Bool × List Int × Int) := (ulpref04_One.f k a0_0 l0_1 a0_2).bind fun bt1516 => ((ulpref04_One.f k a1_0 l1_1 a1_2).bind fun bt1521 => ((ulpref03_Mul.f k bt1516.2.1 bt1521.2.1).bind fun t1528 => ((ulpref04_Form.f k (bt1516.1 != bt1521.1) t1528 (wrap64 (bt1516.2.2 + bt1521.2.2))).bind fun bt1531 => (some (bt1531.1, bt1531.2.1, bt1531.2.2)))))
def ulpref04_Times.T1 : Bool × List (List Nat × List Nat) := (true, [([], []), ([0], [0]), ([], []), ([2, 1], [2]), ([], []), ([], []), ([4, 1, 3, 0, 1, 4, 5], [1, 4]), ([5, 3, 6, 0, 1, 2, 3, 4, 5, 6], [3, 5])])
def ulpref04_Times.B1 : List Nat := [0, 1, 0, 7, 0, 0, 63, 127]
theorem ulpref04_Times.tab1 : rtab .any (opsOf Tryd.f108 1) = ulpref04_Times.T1 := by kernel_rfl
theorem ulpref04_Times.bits1 : waitsOk ulpref04_Times.T1.2 ulpref04_Times.B1 = true := by kernel_rfl
def ulpref04_Times.T2 : Bool × List (List Nat × List Nat) := (true, [([], []), ([0], [0]), ([], []), ([2], [2]), ([1, 3], [1, 3]), ([], []), ([5], [5]), ([], []), ([7], [7]), ([6, 8], [6, 8]), ([], []), ([10], [10]), ([], []), ([12], [12]), ([11, 13], [11, 13]), ([4, 9, 14, 9], [4, 9, 14]), ([15, 15, 0, 1, 2, 3, 4, 5, 6, 7, 8, 9, 10, 11, 12, 13, 14, 15], [15])])
def ulpref04_Times.B2 : List Nat := [0, 1, 0, 4, 15, 0, 32, 0, 128, 480, 0, 1024, 0, 4096, 15360, 32767, 65535]
theorem ulpref04_Times.tab2 : rtab .any (opsOf Tryd.f108 2) = ulpref04_Times.T2 := by kernel_rfl
theorem ulpref04_Times.bits2 : waitsOk ulpref04_Times.T2.2 ulpref04_Times.B2 = true := by kernel_rfl
set_option maxHeartbeats 8000000 in
set_option maxRecDepth 100000 in
theorem ulpref04_Times.calls (k : Nat) (a0_0 : Bool) (A0_1 : Option Addr) (c0_1 : Nat) (l0_1 : List Int) (a0_2 : Int) (a1_0 : Bool) (A1_1 : Option Addr) (c1_1 : Nat) (l1_1 : List Int) (a1_2 : Int) (r1 : Bool) (r2 : List Int) (r3 : Int) (w : World) (hr0_1 : Kd.C (Kd.int .u64) w A0_1 l0_1.length l0_1) (hc0_1 : l0_1.length ≤ c0_1) (hr1_1 : Kd.C (Kd.int .u64) w A1_1 l1_1.length l1_1) (hc1_1 : l1_1.length ≤ c1_1) (h : ulpref04_Times.f k a0_0 l0_1 a0_2 a1_0 l1_1 a1_2 = some (r1, r2, r3)) :
  Calls Tryd.prog 108 #[.agg #[.bool a0_0, .slice A0_1 l0_1.length c0_1, .int .i64 a0_2], .agg #[.bool a1_0, .slice A1_1 l1_1.length c1_1, .int .i64 a1_2]] w fun e w' => ∃ v1_ : Value, e = .returned (.agg #[.bool r1, v1_, .int .i64 r3]) ∧ Kd.R (Kd.int .u64) 43 w' w.heap.size (fun _ => True) v1_ r2 ∧ Below w.heap.size w w' := by
 have hu25 := Tryd.underlying25
 have HR0_1 := zA hr0_1
 have HC0_1 := zA hc0_1
 clear hr0_1 hc0_1
 have HR1_1 := zA hr1_1
 have HC1_1 := zA hc1_1
 clear hr1_1 hc1_1
 have HB := zA (Below.refl w.heap.size w)
 have H : ((ulpref04_One.f k a0_0 l0_1 a0_2).bind fun bt1516 => ((ulpref04_One.f k a1_0 l1_1 a1_2).bind fun bt1521 => ((ulpref03_Mul.f k bt1516.2.1 bt1521.2.1).bind fun t1528 => ((ulpref04_Form.f k (bt1516.1 != bt1521.1) t1528 (wrap64 (bt1516.2.2 + bt1521.2.2))).bind fun bt1531 => (some (bt1531.1, bt1531.2.1, bt1531.2.2)))))) = some (r1, r2, r3) := h
 clear h
 obtain ⟨⟨t1516, t1517, t1520⟩, A3, H⟩ := zh H
 (try dsimp only at H)
 obtain ⟨⟨t1521, t1522, t1525⟩, A4, H⟩ := zh H
 (try dsimp only at H)
 obtain ⟨t1528, A5, H⟩ := zh H
 obtain ⟨⟨t1531, t1532, t1535⟩, A6, H⟩ := zh H
 (try dsimp only at H)
 simp only [Option.some.injEq, Prod.mk.injEq] at H
 obtain ⟨rfl, rfl, rfl⟩ := H
 go_enter Tryd.func108, Tryd.ntmps108
 try go_wp2_with (first | ((with_reducible refine zD 2 rfl ?_); refine zn (N := 2) (cs := #[.bool a0_0, .slice A0_1 l0_1.length c0_1, .int .i64 a0_2]) (t := 25) rfl rfl ?_; intro gb1513 hg w7 hbox hb; have BK1513 := zA (hbox); have GW1513 := zw hg; have GE1513 := zw hg; replace HB := ze hb; clear hb hbox hg) | ((with_reducible refine zD 3 rfl ?_); refine zn (N := 3) (cs := #[.bool a1_0, .slice A1_1 l1_1.length c1_1, .int .i64 a1_2]) (t := 25) rfl rfl ?_; intro gb1514 hg w8 hbox hb; have BK1514 := zA (hbox); have GW1514 := zx hg; have GE1514 := zx hg; replace HB := zf hb; have NB1513_1514 := zl BK1513 hg; have NB1514_1513 := zg BK1513 hg; replace BK1513 := zb BK1513 hb; clear hb hbox hg) | ((with_reducible refine zD 4 rfl ?_); refine zn (N := 4) (cs := #[.bool false, .slice none 0 0, .int .i64 0]) (t := 25) rfl rfl ?_; intro gb1515 hg w9 hbox hb; have BK1515 := zA (hbox); have GW1515 := zx hg; have GE1515 := zx hg; replace HB := zf hb; have NB1513_1515 := zl BK1513 hg; have NB1515_1513 := zg BK1513 hg; replace BK1513 := zb BK1513 hb; have NB1514_1515 := zl BK1514 hg; have NB1515_1514 := zg BK1514 hg; replace BK1514 := zb BK1514 hb; clear hb hbox hg))
 replace BK1513 := zA (blk_drew BK1513.out)
 replace BK1514 := zA (blk_drew BK1514.out)
 replace BK1515 := zA (blk_drew BK1515.out)
 replace HB := zA (below_drew1 HB.out)
 refine start_ (n := 8) (S := fun w' => z4 w' gb1513 (.bool a0_0) (.slice A0_1 l0_1.length c0_1) (.int .i64 a0_2) (z3 w' gb1514 (.bool a1_0) (.slice A1_1 l1_1.length c1_1) (.int .i64 a1_2))) (ds := []) #[false, false, false, false, false, false, false, false] (by kernel_rfl) rfl rfl (za BK1513 (zz BK1514)) (fun hHeld => ?_); refine with_tabW ulpref04_Times.tab1 ulpref04_Times.bits1 (fun HT_ HW_ => ?_)
 generalize w9.drew = w10 at BK1513 BK1514 BK1515 HB hHeld ⊢
 refine take_ (i := 0) (N := some 7) (v := ?_) (a' := ?_) #[true, false, false, false, false, false, false, false] rfl rfl (take_ofW HT_.out HW_.out (by kernel_rfl)) (fun _ _ _ h => h) (Or.inl ⟨by rfl, ?_⟩) hHeld ?_ ?_
 rotate_left
 ·rintro w' ⟨s0, s1, s2, s3, s4, s5⟩
  go_simp
  with_reducible rfl
 rotate_left
 ·exact zq
 refine take_ (i := 2) (N := some 9) (v := ?_) (a' := ?_) #[true, false, true, false, false, false, false, false] rfl rfl (take_ofW HT_.out HW_.out (by kernel_rfl)) (fun _ _ _ h => h) (Or.inl ⟨by rfl, ?_⟩) hHeld ?_ ?_
 rotate_left
 ·rintro w' ⟨s0, s1, s2, s3, s4, s5⟩
  go_simp
  with_reducible rfl
 rotate_left
 ·exact zq
 refine join_ (σ := Value × Value × Nat × Nat) 2 #[true, true, true, true, true, true, false, false] (fun s_ => [(8, .agg #[.bool t1516, s_.1, .int .i64 t1520]), (10, .agg #[.bool t1521, s_.2.1, .int .i64 t1525]), (5, .pointer (some ⟨s_.2.2.1, 0, none⟩)), (6, .pointer (some ⟨s_.2.2.2, 0, none⟩))]) (fun s_ w' => (z4 w' gb1513 (.bool a0_0) (.slice A0_1 l0_1.length c0_1) (.int .i64 a0_2) (z3 w' gb1514 (.bool a1_0) (.slice A1_1 l1_1.length c1_1) (.int .i64 a1_2))) ∧ (Kd.R (Kd.int .u64) 43 w' w.heap.size (fun k_ => some k_ ≠ (s_.2.1 : Value).ownBlock) s_.1 t1517) ∧ (Kd.R (Kd.int .u64) 43 w' w.heap.size (fun k_ => some k_ ≠ (s_.1 : Value).ownBlock) s_.2.1 t1522) ∧ (w'.heap[gb1513]? = some (.cells #[.bool a0_0, .slice A0_1 l0_1.length c0_1, .int .i64 a0_2] 25 (0, 0))) ∧ (w'.heap[gb1514]? = some (.cells #[.bool a1_0, .slice A1_1 l1_1.length c1_1, .int .i64 a1_2] 25 (0, 0))) ∧ (w'.heap[gb1515]? = some (.cells #[.bool false, .slice none 0 0, .int .i64 0] 25 (0, 0))) ∧ (w'.heap[s_.2.2.1]? = some (.cells #[.bool false, .slice none 0 0, .int .i64 0] 25 (0, 0))) ∧ (w'.heap[s_.2.2.2]? = some (.cells #[.bool false, .slice none 0 0, .int .i64 0] 25 (0, 0))) ∧ (w.heap.size ≤ s_.2.2.1) ∧ (w.heap.size ≤ s_.2.2.1) ∧ (gb1513 ≠ s_.2.2.1) ∧ (s_.2.2.1 ≠ gb1513) ∧ (gb1514 ≠ s_.2.2.1) ∧ (s_.2.2.1 ≠ gb1514) ∧ (gb1515 ≠ s_.2.2.1) ∧ (s_.2.2.1 ≠ gb1515) ∧ (s_.2.2.2 ≠ s_.2.2.1) ∧ (s_.2.2.1 ≠ s_.2.2.2) ∧ (w.heap.size ≤ s_.2.2.2) ∧ (w.heap.size ≤ s_.2.2.2) ∧ (gb1513 ≠ s_.2.2.2) ∧ (s_.2.2.2 ≠ gb1513) ∧ (gb1514 ≠ s_.2.2.2) ∧ (s_.2.2.2 ≠ gb1514) ∧ (gb1515 ≠ s_.2.2.2) ∧ (s_.2.2.2 ≠ gb1515) ∧ (Below w.heap.size w w')) ?_ ?_
 rotate_left
 ·intro hJ1_3_4_5
  refine join_ (σ := Value × Value × Nat) 3 #[true, true, true, true, true, false, false, false] (fun s_ => [(8, .agg #[.bool t1516, s_.1, .int .i64 t1520]), (10, .agg #[.bool t1521, s_.2.1, .int .i64 t1525]), (5, .pointer (some ⟨s_.2.2, 0, none⟩))]) (fun s_ w' => (z4 w' gb1513 (.bool a0_0) (.slice A0_1 l0_1.length c0_1) (.int .i64 a0_2) (z3 w' gb1514 (.bool a1_0) (.slice A1_1 l1_1.length c1_1) (.int .i64 a1_2))) ∧ (Kd.R (Kd.int .u64) 43 w' w.heap.size (fun k_ => some k_ ≠ (s_.2.1 : Value).ownBlock) s_.1 t1517) ∧ (Kd.R (Kd.int .u64) 43 w' w.heap.size (fun k_ => some k_ ≠ (s_.1 : Value).ownBlock) s_.2.1 t1522) ∧ (w'.heap[gb1513]? = some (.cells #[.bool a0_0, .slice A0_1 l0_1.length c0_1, .int .i64 a0_2] 25 (0, 0))) ∧ (w'.heap[gb1514]? = some (.cells #[.bool a1_0, .slice A1_1 l1_1.length c1_1, .int .i64 a1_2] 25 (0, 0))) ∧ (w'.heap[gb1515]? = some (.cells #[.bool false, .slice none 0 0, .int .i64 0] 25 (0, 0))) ∧ (w'.heap[s_.2.2]? = some (.cells #[.bool false, .slice none 0 0, .int .i64 0] 25 (0, 0))) ∧ (w.heap.size ≤ s_.2.2) ∧ (w.heap.size ≤ s_.2.2) ∧ (gb1513 ≠ s_.2.2) ∧ (s_.2.2 ≠ gb1513) ∧ (gb1514 ≠ s_.2.2) ∧ (s_.2.2 ≠ gb1514) ∧ (gb1515 ≠ s_.2.2) ∧ (s_.2.2 ≠ gb1515) ∧ (Below w.heap.size w w')) ?_ ?_
  rotate_left
  ·intro hJ1_3_4
   refine join_ (σ := Value × Value × Nat) 3 #[true, true, true, true, false, true, false, false] (fun s_ => [(8, .agg #[.bool t1516, s_.1, .int .i64 t1520]), (10, .agg #[.bool t1521, s_.2.1, .int .i64 t1525]), (6, .pointer (some ⟨s_.2.2, 0, none⟩))]) (fun s_ w' => (z4 w' gb1513 (.bool a0_0) (.slice A0_1 l0_1.length c0_1) (.int .i64 a0_2) (z3 w' gb1514 (.bool a1_0) (.slice A1_1 l1_1.length c1_1) (.int .i64 a1_2))) ∧ (Kd.R (Kd.int .u64) 43 w' w.heap.size (fun k_ => some k_ ≠ (s_.2.1 : Value).ownBlock) s_.1 t1517) ∧ (Kd.R (Kd.int .u64) 43 w' w.heap.size (fun k_ => some k_ ≠ (s_.1 : Value).ownBlock) s_.2.1 t1522) ∧ (w'.heap[gb1513]? = some (.cells #[.bool a0_0, .slice A0_1 l0_1.length c0_1, .int .i64 a0_2] 25 (0, 0))) ∧ (w'.heap[gb1514]? = some (.cells #[.bool a1_0, .slice A1_1 l1_1.length c1_1, .int .i64 a1_2] 25 (0, 0))) ∧ (w'.heap[gb1515]? = some (.cells #[.bool false, .slice none 0 0, .int .i64 0] 25 (0, 0))) ∧ (w'.heap[s_.2.2]? = some (.cells #[.bool false, .slice none 0 0, .int .i64 0] 25 (0, 0))) ∧ (w.heap.size ≤ s_.2.2) ∧ (w.heap.size ≤ s_.2.2) ∧ (gb1513 ≠ s_.2.2) ∧ (s_.2.2 ≠ gb1513) ∧ (gb1514 ≠ s_.2.2) ∧ (s_.2.2 ≠ gb1514) ∧ (gb1515 ≠ s_.2.2) ∧ (s_.2.2 ≠ gb1515) ∧ (Below w.heap.size w w')) ?_ ?_
   rotate_left
   ·intro hJ1_3_5
    refine join_ (σ := Value × Nat × Nat) 3 #[true, true, true, false, true, true, false, false] (fun s_ => [(8, .agg #[.bool t1516, s_.1, .int .i64 t1520]), (5, .pointer (some ⟨s_.2.1, 0, none⟩)), (6, .pointer (some ⟨s_.2.2, 0, none⟩))]) (fun s_ w' => (z4 w' gb1513 (.bool a0_0) (.slice A0_1 l0_1.length c0_1) (.int .i64 a0_2) (z3 w' gb1514 (.bool a1_0) (.slice A1_1 l1_1.length c1_1) (.int .i64 a1_2))) ∧ (Kd.R (Kd.int .u64) 43 w' w.heap.size (fun _ => True) s_.1 t1517) ∧ (w'.heap[gb1513]? = some (.cells #[.bool a0_0, .slice A0_1 l0_1.length c0_1, .int .i64 a0_2] 25 (0, 0))) ∧ (w'.heap[gb1514]? = some (.cells #[.bool a1_0, .slice A1_1 l1_1.length c1_1, .int .i64 a1_2] 25 (0, 0))) ∧ (w'.heap[gb1515]? = some (.cells #[.bool false, .slice none 0 0, .int .i64 0] 25 (0, 0))) ∧ (w'.heap[s_.2.1]? = some (.cells #[.bool false, .slice none 0 0, .int .i64 0] 25 (0, 0))) ∧ (w'.heap[s_.2.2]? = some (.cells #[.bool false, .slice none 0 0, .int .i64 0] 25 (0, 0))) ∧ (w.heap.size ≤ s_.2.1) ∧ (w.heap.size ≤ s_.2.1) ∧ (gb1513 ≠ s_.2.1) ∧ (s_.2.1 ≠ gb1513) ∧ (gb1514 ≠ s_.2.1) ∧ (s_.2.1 ≠ gb1514) ∧ (gb1515 ≠ s_.2.1) ∧ (s_.2.1 ≠ gb1515) ∧ (s_.2.2 ≠ s_.2.1) ∧ (s_.2.1 ≠ s_.2.2) ∧ (w.heap.size ≤ s_.2.2) ∧ (w.heap.size ≤ s_.2.2) ∧ (gb1513 ≠ s_.2.2) ∧ (s_.2.2 ≠ gb1513) ∧ (gb1514 ≠ s_.2.2) ∧ (s_.2.2 ≠ gb1514) ∧ (gb1515 ≠ s_.2.2) ∧ (s_.2.2 ≠ gb1515) ∧ (Below w.heap.size w w')) ?_ ?_
    rotate_left
    ·intro hJ1_4_5
     refine join_ (σ := Value × Value) 4 #[true, true, true, true, false, false, false, false] (fun s_ => [(8, .agg #[.bool t1516, s_.1, .int .i64 t1520]), (10, .agg #[.bool t1521, s_.2, .int .i64 t1525])]) (fun s_ w' => (z4 w' gb1513 (.bool a0_0) (.slice A0_1 l0_1.length c0_1) (.int .i64 a0_2) (z3 w' gb1514 (.bool a1_0) (.slice A1_1 l1_1.length c1_1) (.int .i64 a1_2))) ∧ (Kd.R (Kd.int .u64) 43 w' w.heap.size (fun k_ => some k_ ≠ (s_.2 : Value).ownBlock) s_.1 t1517) ∧ (Kd.R (Kd.int .u64) 43 w' w.heap.size (fun k_ => some k_ ≠ (s_.1 : Value).ownBlock) s_.2 t1522) ∧ (w'.heap[gb1513]? = some (.cells #[.bool a0_0, .slice A0_1 l0_1.length c0_1, .int .i64 a0_2] 25 (0, 0))) ∧ (w'.heap[gb1514]? = some (.cells #[.bool a1_0, .slice A1_1 l1_1.length c1_1, .int .i64 a1_2] 25 (0, 0))) ∧ (w'.heap[gb1515]? = some (.cells #[.bool false, .slice none 0 0, .int .i64 0] 25 (0, 0))) ∧ (Below w.heap.size w w')) ?_ ?_
     rotate_left
     ·intro hJ1_3
      refine join_ (σ := Value × Nat) 4 #[true, true, true, false, true, false, false, false] (fun s_ => [(8, .agg #[.bool t1516, s_.1, .int .i64 t1520]), (5, .pointer (some ⟨s_.2, 0, none⟩))]) (fun s_ w' => (z4 w' gb1513 (.bool a0_0) (.slice A0_1 l0_1.length c0_1) (.int .i64 a0_2) (z3 w' gb1514 (.bool a1_0) (.slice A1_1 l1_1.length c1_1) (.int .i64 a1_2))) ∧ (Kd.R (Kd.int .u64) 43 w' w.heap.size (fun _ => True) s_.1 t1517) ∧ (w'.heap[gb1513]? = some (.cells #[.bool a0_0, .slice A0_1 l0_1.length c0_1, .int .i64 a0_2] 25 (0, 0))) ∧ (w'.heap[gb1514]? = some (.cells #[.bool a1_0, .slice A1_1 l1_1.length c1_1, .int .i64 a1_2] 25 (0, 0))) ∧ (w'.heap[gb1515]? = some (.cells #[.bool false, .slice none 0 0, .int .i64 0] 25 (0, 0))) ∧ (w'.heap[s_.2]? = some (.cells #[.bool false, .slice none 0 0, .int .i64 0] 25 (0, 0))) ∧ (w.heap.size ≤ s_.2) ∧ (w.heap.size ≤ s_.2) ∧ (gb1513 ≠ s_.2) ∧ (s_.2 ≠ gb1513) ∧ (gb1514 ≠ s_.2) ∧ (s_.2 ≠ gb1514) ∧ (gb1515 ≠ s_.2) ∧ (s_.2 ≠ gb1515) ∧ (Below w.heap.size w w')) ?_ ?_
      rotate_left
      ·intro hJ1_4
       refine join_ (σ := Value × Nat) 4 #[true, true, true, false, false, true, false, false] (fun s_ => [(8, .agg #[.bool t1516, s_.1, .int .i64 t1520]), (6, .pointer (some ⟨s_.2, 0, none⟩))]) (fun s_ w' => (z4 w' gb1513 (.bool a0_0) (.slice A0_1 l0_1.length c0_1) (.int .i64 a0_2) (z3 w' gb1514 (.bool a1_0) (.slice A1_1 l1_1.length c1_1) (.int .i64 a1_2))) ∧ (Kd.R (Kd.int .u64) 43 w' w.heap.size (fun _ => True) s_.1 t1517) ∧ (w'.heap[gb1513]? = some (.cells #[.bool a0_0, .slice A0_1 l0_1.length c0_1, .int .i64 a0_2] 25 (0, 0))) ∧ (w'.heap[gb1514]? = some (.cells #[.bool a1_0, .slice A1_1 l1_1.length c1_1, .int .i64 a1_2] 25 (0, 0))) ∧ (w'.heap[gb1515]? = some (.cells #[.bool false, .slice none 0 0, .int .i64 0] 25 (0, 0))) ∧ (w'.heap[s_.2]? = some (.cells #[.bool false, .slice none 0 0, .int .i64 0] 25 (0, 0))) ∧ (w.heap.size ≤ s_.2) ∧ (w.heap.size ≤ s_.2) ∧ (gb1513 ≠ s_.2) ∧ (s_.2 ≠ gb1513) ∧ (gb1514 ≠ s_.2) ∧ (s_.2 ≠ gb1514) ∧ (gb1515 ≠ s_.2) ∧ (s_.2 ≠ gb1515) ∧ (Below w.heap.size w w')) ?_ ?_
       rotate_left
       ·intro hJ1_5
        refine join_ (σ := Nat × Nat) 4 #[true, false, true, false, true, true, false, false] (fun s_ => [(5, .pointer (some ⟨s_.1, 0, none⟩)), (6, .pointer (some ⟨s_.2, 0, none⟩))]) (fun s_ w' => (z4 w' gb1513 (.bool a0_0) (.slice A0_1 l0_1.length c0_1) (.int .i64 a0_2) (z3 w' gb1514 (.bool a1_0) (.slice A1_1 l1_1.length c1_1) (.int .i64 a1_2))) ∧ (w'.heap[gb1513]? = some (.cells #[.bool a0_0, .slice A0_1 l0_1.length c0_1, .int .i64 a0_2] 25 (0, 0))) ∧ (w'.heap[gb1514]? = some (.cells #[.bool a1_0, .slice A1_1 l1_1.length c1_1, .int .i64 a1_2] 25 (0, 0))) ∧ (w'.heap[gb1515]? = some (.cells #[.bool false, .slice none 0 0, .int .i64 0] 25 (0, 0))) ∧ (w'.heap[s_.1]? = some (.cells #[.bool false, .slice none 0 0, .int .i64 0] 25 (0, 0))) ∧ (w'.heap[s_.2]? = some (.cells #[.bool false, .slice none 0 0, .int .i64 0] 25 (0, 0))) ∧ (w.heap.size ≤ s_.1) ∧ (w.heap.size ≤ s_.1) ∧ (gb1513 ≠ s_.1) ∧ (s_.1 ≠ gb1513) ∧ (gb1514 ≠ s_.1) ∧ (s_.1 ≠ gb1514) ∧ (gb1515 ≠ s_.1) ∧ (s_.1 ≠ gb1515) ∧ (s_.2 ≠ s_.1) ∧ (s_.1 ≠ s_.2) ∧ (w.heap.size ≤ s_.2) ∧ (w.heap.size ≤ s_.2) ∧ (gb1513 ≠ s_.2) ∧ (s_.2 ≠ gb1513) ∧ (gb1514 ≠ s_.2) ∧ (s_.2 ≠ gb1514) ∧ (gb1515 ≠ s_.2) ∧ (s_.2 ≠ gb1515) ∧ (Below w.heap.size w w')) ?_ ?_
        rotate_left
        ·intro hJ4_5
         refine join_ (σ := Value) 5 #[true, true, true, false, false, false, false, false] (fun s_ => [(8, .agg #[.bool t1516, s_, .int .i64 t1520])]) (fun s_ w' => (z4 w' gb1513 (.bool a0_0) (.slice A0_1 l0_1.length c0_1) (.int .i64 a0_2) (z3 w' gb1514 (.bool a1_0) (.slice A1_1 l1_1.length c1_1) (.int .i64 a1_2))) ∧ (Kd.R (Kd.int .u64) 43 w' w.heap.size (fun _ => True) s_ t1517) ∧ (w'.heap[gb1513]? = some (.cells #[.bool a0_0, .slice A0_1 l0_1.length c0_1, .int .i64 a0_2] 25 (0, 0))) ∧ (w'.heap[gb1514]? = some (.cells #[.bool a1_0, .slice A1_1 l1_1.length c1_1, .int .i64 a1_2] 25 (0, 0))) ∧ (w'.heap[gb1515]? = some (.cells #[.bool false, .slice none 0 0, .int .i64 0] 25 (0, 0))) ∧ (Below w.heap.size w w')) ?_ ?_
         rotate_left
         ·intro hJ1
          refine join_ (σ := Nat) 5 #[true, false, true, false, true, false, false, false] (fun s_ => [(5, .pointer (some ⟨s_, 0, none⟩))]) (fun s_ w' => (z4 w' gb1513 (.bool a0_0) (.slice A0_1 l0_1.length c0_1) (.int .i64 a0_2) (z3 w' gb1514 (.bool a1_0) (.slice A1_1 l1_1.length c1_1) (.int .i64 a1_2))) ∧ (w'.heap[gb1513]? = some (.cells #[.bool a0_0, .slice A0_1 l0_1.length c0_1, .int .i64 a0_2] 25 (0, 0))) ∧ (w'.heap[gb1514]? = some (.cells #[.bool a1_0, .slice A1_1 l1_1.length c1_1, .int .i64 a1_2] 25 (0, 0))) ∧ (w'.heap[gb1515]? = some (.cells #[.bool false, .slice none 0 0, .int .i64 0] 25 (0, 0))) ∧ (w'.heap[s_]? = some (.cells #[.bool false, .slice none 0 0, .int .i64 0] 25 (0, 0))) ∧ (w.heap.size ≤ s_) ∧ (w.heap.size ≤ s_) ∧ (gb1513 ≠ s_) ∧ (s_ ≠ gb1513) ∧ (gb1514 ≠ s_) ∧ (s_ ≠ gb1514) ∧ (gb1515 ≠ s_) ∧ (s_ ≠ gb1515) ∧ (Below w.heap.size w w')) ?_ ?_
          rotate_left
          ·intro hJ4
           refine join_ (σ := Nat) 5 #[true, false, true, false, false, true, false, false] (fun s_ => [(6, .pointer (some ⟨s_, 0, none⟩))]) (fun s_ w' => (z4 w' gb1513 (.bool a0_0) (.slice A0_1 l0_1.length c0_1) (.int .i64 a0_2) (z3 w' gb1514 (.bool a1_0) (.slice A1_1 l1_1.length c1_1) (.int .i64 a1_2))) ∧ (w'.heap[gb1513]? = some (.cells #[.bool a0_0, .slice A0_1 l0_1.length c0_1, .int .i64 a0_2] 25 (0, 0))) ∧ (w'.heap[gb1514]? = some (.cells #[.bool a1_0, .slice A1_1 l1_1.length c1_1, .int .i64 a1_2] 25 (0, 0))) ∧ (w'.heap[gb1515]? = some (.cells #[.bool false, .slice none 0 0, .int .i64 0] 25 (0, 0))) ∧ (w'.heap[s_]? = some (.cells #[.bool false, .slice none 0 0, .int .i64 0] 25 (0, 0))) ∧ (w.heap.size ≤ s_) ∧ (w.heap.size ≤ s_) ∧ (gb1513 ≠ s_) ∧ (s_ ≠ gb1513) ∧ (gb1514 ≠ s_) ∧ (s_ ≠ gb1514) ∧ (gb1515 ≠ s_) ∧ (s_ ≠ gb1515) ∧ (Below w.heap.size w w')) ?_ ?_
           rotate_left
           ·intro hJ5
            refine three_ (i := 1) (j := 4) (k := 5) (Ni := some 8) (Nj := some 5) (Nk := some 6) #[true, true, true, false, false, false, false, false] #[true, false, true, false, true, false, false, false] #[true, false, true, false, false, true, false, false] rfl rfl rfl rfl rfl rfl (three_of HT_.out (by kernel_rfl)) (by decide) (by decide) (by decide) (fun K hK => ?_) (fun K hK => ?_) (fun K hK => ?_)
            ·skip
             refine goes_ Tryd.func69 (by kernel_rfl) rfl #[.agg #[.bool a0_0, .slice A0_1 l0_1.length c0_1, .int .i64 a0_2]] (by rfl) rfl rfl ga ?_
             with_reducible refine (ulpref04_One.calls k a0_0 _ _ l0_1 a0_2 t1516 t1517 t1520 _ ?side1 ?side2 A3.out).mono ?_
             (case side1 => exact zk (C_below HR0_1.out HB.out))
             (case side2 => exact HC0_1.out)
             rintro e w11 ⟨v1518, rfl, ho0, hb⟩
             refine ⟨_, rfl, ?_⟩
             have HO1519 := zA (R_lower ho0 (below_size zs))
             replace BK1513 := zb BK1513 hb
             replace BK1514 := zb BK1514 hb
             replace BK1515 := zb BK1515 hb
             replace HB := zf hb
             (try clear hb)
             (try clear hb2)
             (try clear hk)
             (try clear hi)
             (try clear ho0)
             refine hK.out _ _ (za BK1513 (zz BK1514)) (fun hHeld => ?_)
             clear hK K
             refine norm_ (a' := ?_) ?_ ?_
             rotate_left
             ·show Act.put _ (some 8) _ = _
              simp only [Act.put, List.setIfInBounds_toArray, List.set_cons_zero, List.set_cons_succ, i64_w, i32_w]
              rfl
             exact norm_ zm (hJ1 (v1518) _ ⟨hHeld, (ru HO1519.out), (zu BK1513), (zu BK1514), (zu BK1515), zs⟩)
            ·skip
             refine box_step ?hg (N := 5) ?hd (cs := #[.bool false, .slice none 0 0, .int .i64 0]) (t := 25) ?hr ?_; (case hd => rfl); (case hg => rfl); (case hr => first | (go_simp; done) | (go_simp; rfl))
             intro gb1526 hg w11 hbox hb
             have BK1526 := zA (hbox)
             have GW1526 := zx hg
             have GE1526 := zx hg
             replace HB := zf hb
             have NB1513_1526 := zl BK1513 hg
             have NB1526_1513 := zg BK1513 hg
             replace BK1513 := zb BK1513 hb
             have NB1514_1526 := zl BK1514 hg
             have NB1526_1514 := zg BK1514 hg
             replace BK1514 := zb BK1514 hb
             have NB1515_1526 := zl BK1515 hg
             have NB1526_1515 := zg BK1515 hg
             replace BK1515 := zb BK1515 hb
             clear hb hbox hg
             refine hK.out _ _ (za BK1513 (zz BK1514)) (fun hHeld => ?_)
             clear hK K
             refine norm_ (a' := ?_) ?_ ?_
             rotate_left
             ·show Act.put _ (some 5) _ = _
              simp only [Act.put, List.setIfInBounds_toArray, List.set_cons_zero, List.set_cons_succ, i64_w, i32_w]
              rfl
             exact norm_ zm (hJ4 (gb1526) _ ⟨hHeld, (zu BK1513), (zu BK1514), (zu BK1515), (zu BK1526), GW1526.out, GE1526.out, NB1513_1526.out, NB1526_1513.out, NB1514_1526.out, NB1526_1514.out, NB1515_1526.out, NB1526_1515.out, zs⟩)
            skip
            refine box_step ?hg (N := 6) ?hd (cs := #[.bool false, .slice none 0 0, .int .i64 0]) (t := 25) ?hr ?_; (case hd => rfl); (case hg => rfl); (case hr => first | (go_simp; done) | (go_simp; rfl))
            intro gb1527 hg w11 hbox hb
            have BK1527 := zA (hbox)
            have GW1527 := zx hg
            have GE1527 := zx hg
            replace HB := zf hb
            have NB1513_1527 := zl BK1513 hg
            have NB1527_1513 := zg BK1513 hg
            replace BK1513 := zb BK1513 hb
            have NB1514_1527 := zl BK1514 hg
            have NB1527_1514 := zg BK1514 hg
            replace BK1514 := zb BK1514 hb
            have NB1515_1527 := zl BK1515 hg
            have NB1527_1515 := zg BK1515 hg
            replace BK1515 := zb BK1515 hb
            clear hb hbox hg
            refine hK.out _ _ (za BK1513 (zz BK1514)) (fun hHeld => ?_)
            clear hK K
            refine norm_ (a' := ?_) ?_ ?_
            rotate_left
            ·show Act.put _ (some 6) _ = _
             simp only [Act.put, List.setIfInBounds_toArray, List.set_cons_zero, List.set_cons_succ, i64_w, i32_w]
             rfl
            exact norm_ zm (hJ5 (gb1527) _ ⟨hHeld, (zu BK1513), (zu BK1514), (zu BK1515), (zu BK1527), GW1527.out, GE1527.out, NB1513_1527.out, NB1527_1513.out, NB1514_1527.out, NB1527_1514.out, NB1515_1527.out, NB1527_1515.out, zs⟩)
           skip
           rintro gb1527 w12 ⟨hS_, h0_, h1_, h2_, h3_, h4_, h5_, h6_, h7_, h8_, h9_, h10_, h11_, h12_⟩
           have n0_ := zA h0_
           have n1_ := zA h1_
           have n2_ := zA h2_
           have n3_ := zA h3_
           have n4_ := zA h4_
           have n5_ := zA h5_
           have n6_ := zA h6_
           have n7_ := zA h7_
           have n8_ := zA h8_
           have n9_ := zA h9_
           have n10_ := zA h10_
           have n11_ := zA h11_
           have n12_ := zA h12_
           clear BK1513
           clear BK1514
           clear BK1515
           clear HB
           clear h0_ h1_ h2_ h3_ h4_ h5_ h6_ h7_ h8_ h9_ h10_ h11_ h12_
           have BK1513 := n0_
           have BK1514 := n1_
           have BK1515 := n2_
           have BK1527 := n3_
           have GW1527 := n4_
           have GE1527 := n5_
           have NB1513_1527 := n6_
           have NB1527_1513 := n7_
           have NB1514_1527 := n8_
           have NB1527_1514 := n9_
           have NB1515_1527 := n10_
           have NB1527_1515 := n11_
           have HB := n12_
           clear n0_ n1_ n2_ n3_ n4_ n5_ n6_ n7_ n8_ n9_ n10_ n11_ n12_
           have hHeld : z4 w12 gb1513 (.bool a0_0) (.slice A0_1 l0_1.length c0_1) (.int .i64 a0_2) (z3 w12 gb1514 (.bool a1_0) (.slice A1_1 l1_1.length c1_1) (.int .i64 a1_2)) := hS_
           refine norm_ (a' := ?_) ?_ ?_
           rotate_left
           ·simp only [putAll, Act.put, List.setIfInBounds_toArray, List.set_cons_zero, List.set_cons_succ]
            rfl
           refine two_ (i := 1) (j := 4) (Ni := some 8) (Nj := some 5) #[true, true, true, false, false, true, false, false] #[true, false, true, false, true, true, false, false] rfl rfl rfl rfl (two_of HT_.out (by kernel_rfl)) (by decide) (by decide) (fun K hK => ?_) (fun K hK => ?_)
           ·skip
            refine goes_ Tryd.func69 (by kernel_rfl) rfl #[.agg #[.bool a0_0, .slice A0_1 l0_1.length c0_1, .int .i64 a0_2]] (by rfl) rfl rfl ga ?_
            with_reducible refine (ulpref04_One.calls k a0_0 _ _ l0_1 a0_2 t1516 t1517 t1520 _ ?side1 ?side2 A3.out).mono ?_
            (case side1 => exact zk (C_below HR0_1.out HB.out))
            (case side2 => exact HC0_1.out)
            rintro e w13 ⟨v1518, rfl, ho0, hb⟩
            refine ⟨_, rfl, ?_⟩
            have HO1519 := zA (R_lower ho0 (below_size zs))
            replace BK1513 := zb BK1513 hb
            replace BK1514 := zb BK1514 hb
            replace BK1515 := zb BK1515 hb
            replace BK1527 := zb BK1527 hb
            replace HB := zf hb
            (try clear hb)
            (try clear hb2)
            (try clear hk)
            (try clear hi)
            (try clear ho0)
            refine hK.out _ _ (za BK1513 (zz BK1514)) (fun hHeld => ?_)
            clear hK K
            refine norm_ (a' := ?_) ?_ ?_
            rotate_left
            ·show Act.put _ (some 8) _ = _
             simp only [Act.put, List.setIfInBounds_toArray, List.set_cons_zero, List.set_cons_succ, i64_w, i32_w]
             rfl
            exact norm_ zm (hJ1_5 (v1518, gb1527) _ ⟨hHeld, (ru HO1519.out), (zu BK1513), (zu BK1514), (zu BK1515), (zu BK1527), GW1527.out, GE1527.out, NB1513_1527.out, NB1527_1513.out, NB1514_1527.out, NB1527_1514.out, NB1515_1527.out, NB1527_1515.out, zs⟩)
           skip
           refine box_step ?hg (N := 5) ?hd (cs := #[.bool false, .slice none 0 0, .int .i64 0]) (t := 25) ?hr ?_; (case hd => rfl); (case hg => rfl); (case hr => first | (go_simp; done) | (go_simp; rfl))
           intro gb1526 hg w13 hbox hb
           have BK1526 := zA (hbox)
           have GW1526 := zx hg
           have GE1526 := zx hg
           replace HB := zf hb
           have NB1513_1526 := zl BK1513 hg
           have NB1526_1513 := zg BK1513 hg
           replace BK1513 := zb BK1513 hb
           have NB1514_1526 := zl BK1514 hg
           have NB1526_1514 := zg BK1514 hg
           replace BK1514 := zb BK1514 hb
           have NB1515_1526 := zl BK1515 hg
           have NB1526_1515 := zg BK1515 hg
           replace BK1515 := zb BK1515 hb
           have NB1527_1526 := zl BK1527 hg
           have NB1526_1527 := zg BK1527 hg
           replace BK1527 := zb BK1527 hb
           clear hb hbox hg
           refine hK.out _ _ (za BK1513 (zz BK1514)) (fun hHeld => ?_)
           clear hK K
           refine norm_ (a' := ?_) ?_ ?_
           rotate_left
           ·show Act.put _ (some 5) _ = _
            simp only [Act.put, List.setIfInBounds_toArray, List.set_cons_zero, List.set_cons_succ, i64_w, i32_w]
            rfl
           exact norm_ zm (hJ4_5 (gb1526, gb1527) _ ⟨hHeld, (zu BK1513), (zu BK1514), (zu BK1515), (zu BK1526), (zu BK1527), GW1526.out, GE1526.out, NB1513_1526.out, NB1526_1513.out, NB1514_1526.out, NB1526_1514.out, NB1515_1526.out, NB1526_1515.out, NB1527_1526.out, NB1526_1527.out, GW1527.out, GE1527.out, NB1513_1527.out, NB1527_1513.out, NB1514_1527.out, NB1527_1514.out, NB1515_1527.out, NB1527_1515.out, zs⟩)
          skip
          rintro gb1526 w12 ⟨hS_, h0_, h1_, h2_, h3_, h4_, h5_, h6_, h7_, h8_, h9_, h10_, h11_, h12_⟩
          have n0_ := zA h0_
          have n1_ := zA h1_
          have n2_ := zA h2_
          have n3_ := zA h3_
          have n4_ := zA h4_
          have n5_ := zA h5_
          have n6_ := zA h6_
          have n7_ := zA h7_
          have n8_ := zA h8_
          have n9_ := zA h9_
          have n10_ := zA h10_
          have n11_ := zA h11_
          have n12_ := zA h12_
          clear BK1513
          clear BK1514
          clear BK1515
          clear HB
          clear h0_ h1_ h2_ h3_ h4_ h5_ h6_ h7_ h8_ h9_ h10_ h11_ h12_
          have BK1513 := n0_
          have BK1514 := n1_
          have BK1515 := n2_
          have BK1526 := n3_
          have GW1526 := n4_
          have GE1526 := n5_
          have NB1513_1526 := n6_
          have NB1526_1513 := n7_
          have NB1514_1526 := n8_
          have NB1526_1514 := n9_
          have NB1515_1526 := n10_
          have NB1526_1515 := n11_
          have HB := n12_
          clear n0_ n1_ n2_ n3_ n4_ n5_ n6_ n7_ n8_ n9_ n10_ n11_ n12_
          have hHeld : z4 w12 gb1513 (.bool a0_0) (.slice A0_1 l0_1.length c0_1) (.int .i64 a0_2) (z3 w12 gb1514 (.bool a1_0) (.slice A1_1 l1_1.length c1_1) (.int .i64 a1_2)) := hS_
          refine norm_ (a' := ?_) ?_ ?_
          rotate_left
          ·simp only [putAll, Act.put, List.setIfInBounds_toArray, List.set_cons_zero, List.set_cons_succ]
           rfl
          refine two_ (i := 1) (j := 5) (Ni := some 8) (Nj := some 6) #[true, true, true, false, true, false, false, false] #[true, false, true, false, true, true, false, false] rfl rfl rfl rfl (two_of HT_.out (by kernel_rfl)) (by decide) (by decide) (fun K hK => ?_) (fun K hK => ?_)
          ·skip
           refine goes_ Tryd.func69 (by kernel_rfl) rfl #[.agg #[.bool a0_0, .slice A0_1 l0_1.length c0_1, .int .i64 a0_2]] (by rfl) rfl rfl ga ?_
           with_reducible refine (ulpref04_One.calls k a0_0 _ _ l0_1 a0_2 t1516 t1517 t1520 _ ?side1 ?side2 A3.out).mono ?_
           (case side1 => exact zk (C_below HR0_1.out HB.out))
           (case side2 => exact HC0_1.out)
           rintro e w13 ⟨v1518, rfl, ho0, hb⟩
           refine ⟨_, rfl, ?_⟩
           have HO1519 := zA (R_lower ho0 (below_size zs))
           replace BK1513 := zb BK1513 hb
           replace BK1514 := zb BK1514 hb
           replace BK1515 := zb BK1515 hb
           replace BK1526 := zb BK1526 hb
           replace HB := zf hb
           (try clear hb)
           (try clear hb2)
           (try clear hk)
           (try clear hi)
           (try clear ho0)
           refine hK.out _ _ (za BK1513 (zz BK1514)) (fun hHeld => ?_)
           clear hK K
           refine norm_ (a' := ?_) ?_ ?_
           rotate_left
           ·show Act.put _ (some 8) _ = _
            simp only [Act.put, List.setIfInBounds_toArray, List.set_cons_zero, List.set_cons_succ, i64_w, i32_w]
            rfl
           exact norm_ zm (hJ1_4 (v1518, gb1526) _ ⟨hHeld, (ru HO1519.out), (zu BK1513), (zu BK1514), (zu BK1515), (zu BK1526), GW1526.out, GE1526.out, NB1513_1526.out, NB1526_1513.out, NB1514_1526.out, NB1526_1514.out, NB1515_1526.out, NB1526_1515.out, zs⟩)
          skip
          refine box_step ?hg (N := 6) ?hd (cs := #[.bool false, .slice none 0 0, .int .i64 0]) (t := 25) ?hr ?_; (case hd => rfl); (case hg => rfl); (case hr => first | (go_simp; done) | (go_simp; rfl))
          intro gb1527 hg w13 hbox hb
          have BK1527 := zA (hbox)
          have GW1527 := zx hg
          have GE1527 := zx hg
          replace HB := zf hb
          have NB1513_1527 := zl BK1513 hg
          have NB1527_1513 := zg BK1513 hg
          replace BK1513 := zb BK1513 hb
          have NB1514_1527 := zl BK1514 hg
          have NB1527_1514 := zg BK1514 hg
          replace BK1514 := zb BK1514 hb
          have NB1515_1527 := zl BK1515 hg
          have NB1527_1515 := zg BK1515 hg
          replace BK1515 := zb BK1515 hb
          have NB1526_1527 := zl BK1526 hg
          have NB1527_1526 := zg BK1526 hg
          replace BK1526 := zb BK1526 hb
          clear hb hbox hg
          refine hK.out _ _ (za BK1513 (zz BK1514)) (fun hHeld => ?_)
          clear hK K
          refine norm_ (a' := ?_) ?_ ?_
          rotate_left
          ·show Act.put _ (some 6) _ = _
           simp only [Act.put, List.setIfInBounds_toArray, List.set_cons_zero, List.set_cons_succ, i64_w, i32_w]
           rfl
          exact norm_ zm (hJ4_5 (gb1526, gb1527) _ ⟨hHeld, (zu BK1513), (zu BK1514), (zu BK1515), (zu BK1526), (zu BK1527), GW1526.out, GE1526.out, NB1513_1526.out, NB1526_1513.out, NB1514_1526.out, NB1526_1514.out, NB1515_1526.out, NB1526_1515.out, NB1527_1526.out, NB1526_1527.out, GW1527.out, GE1527.out, NB1513_1527.out, NB1527_1513.out, NB1514_1527.out, NB1527_1514.out, NB1515_1527.out, NB1527_1515.out, zs⟩)
         skip
         rintro v1518 w12 ⟨hS_, h0_, h1_, h2_, h3_, h4_⟩
         have n0_ := zA h0_
         have n1_ := zA h1_
         have n2_ := zA h2_
         have n3_ := zA h3_
         have n4_ := zA h4_
         clear BK1513
         clear BK1514
         clear BK1515
         clear HB
         clear h0_ h1_ h2_ h3_ h4_
         have HO1519 := n0_
         have BK1513 := n1_
         have BK1514 := n2_
         have BK1515 := n3_
         have HB := n4_
         clear n0_ n1_ n2_ n3_ n4_
         have hHeld : z4 w12 gb1513 (.bool a0_0) (.slice A0_1 l0_1.length c0_1) (.int .i64 a0_2) (z3 w12 gb1514 (.bool a1_0) (.slice A1_1 l1_1.length c1_1) (.int .i64 a1_2)) := hS_
         refine norm_ (a' := ?_) ?_ ?_
         rotate_left
         ·simp only [putAll, Act.put, List.setIfInBounds_toArray, List.set_cons_zero, List.set_cons_succ]
          rfl
         refine three_ (i := 3) (j := 4) (k := 5) (Ni := some 10) (Nj := some 5) (Nk := some 6) #[true, true, true, true, false, false, false, false] #[true, true, true, false, true, false, false, false] #[true, true, true, false, false, true, false, false] rfl rfl rfl rfl rfl rfl (three_of HT_.out (by kernel_rfl)) (by decide) (by decide) (by decide) (fun K hK => ?_) (fun K hK => ?_) (fun K hK => ?_)
         ·skip
          refine goes_ Tryd.func69 (by kernel_rfl) rfl #[.agg #[.bool a1_0, .slice A1_1 l1_1.length c1_1, .int .i64 a1_2]] (by rfl) rfl rfl ga ?_
          with_reducible refine (ulpref04_One.calls k a1_0 _ _ l1_1 a1_2 t1521 t1522 t1525 _ ?side1 ?side2 A4.out).mono ?_
          (case side1 => exact zk (C_below HR1_1.out HB.out))
          (case side2 => exact HC1_1.out)
          rintro e w13 ⟨v1523, rfl, ho0, hb⟩
          refine ⟨_, rfl, ?_⟩
          have HO1524 := zA (R_lower (R_new' ho0 (R_lt (ru HO1519.out))) (below_size zs))
          replace HO1519 := zA (R_elder' (ru HO1519.out) (R_base ho0) hb)
          replace BK1513 := zb BK1513 hb
          replace BK1514 := zb BK1514 hb
          replace BK1515 := zb BK1515 hb
          replace HB := zf hb
          (try clear hb)
          (try clear hb2)
          (try clear hk)
          (try clear hi)
          (try clear ho0)
          refine hK.out _ _ (za BK1513 (zz BK1514)) (fun hHeld => ?_)
          clear hK K
          refine norm_ (a' := ?_) ?_ ?_
          rotate_left
          ·show Act.put _ (some 10) _ = _
           simp only [Act.put, List.setIfInBounds_toArray, List.set_cons_zero, List.set_cons_succ, i64_w, i32_w]
           rfl
          exact norm_ zm (hJ1_3 (v1518, v1523) _ ⟨hHeld, (ru (R_mono HO1519.out (fun _ hk => hk.2))), (ru (R_mono HO1524.out (fun _ hk => hk.2))), (zu BK1513), (zu BK1514), (zu BK1515), zs⟩)
         ·skip
          refine box_step ?hg (N := 5) ?hd (cs := #[.bool false, .slice none 0 0, .int .i64 0]) (t := 25) ?hr ?_; (case hd => rfl); (case hg => rfl); (case hr => first | (go_simp; done) | (go_simp; rfl))
          intro gb1526 hg w13 hbox hb
          replace HO1519 := zA (R_below (ru HO1519.out) hb)
          have BK1526 := zA (hbox)
          have GW1526 := zx hg
          have GE1526 := zx hg
          replace HB := zf hb
          have NB1513_1526 := zl BK1513 hg
          have NB1526_1513 := zg BK1513 hg
          replace BK1513 := zb BK1513 hb
          have NB1514_1526 := zl BK1514 hg
          have NB1526_1514 := zg BK1514 hg
          replace BK1514 := zb BK1514 hb
          have NB1515_1526 := zl BK1515 hg
          have NB1526_1515 := zg BK1515 hg
          replace BK1515 := zb BK1515 hb
          clear hb hbox hg
          refine hK.out _ _ (za BK1513 (zz BK1514)) (fun hHeld => ?_)
          clear hK K
          refine norm_ (a' := ?_) ?_ ?_
          rotate_left
          ·show Act.put _ (some 5) _ = _
           simp only [Act.put, List.setIfInBounds_toArray, List.set_cons_zero, List.set_cons_succ, i64_w, i32_w]
           rfl
          exact norm_ zm (hJ1_4 (v1518, gb1526) _ ⟨hHeld, (ru HO1519.out), (zu BK1513), (zu BK1514), (zu BK1515), (zu BK1526), GW1526.out, GE1526.out, NB1513_1526.out, NB1526_1513.out, NB1514_1526.out, NB1526_1514.out, NB1515_1526.out, NB1526_1515.out, zs⟩)
         skip
         refine box_step ?hg (N := 6) ?hd (cs := #[.bool false, .slice none 0 0, .int .i64 0]) (t := 25) ?hr ?_; (case hd => rfl); (case hg => rfl); (case hr => first | (go_simp; done) | (go_simp; rfl))
         intro gb1527 hg w13 hbox hb
         replace HO1519 := zA (R_below (ru HO1519.out) hb)
         have BK1527 := zA (hbox)
         have GW1527 := zx hg
         have GE1527 := zx hg
         replace HB := zf hb
         have NB1513_1527 := zl BK1513 hg
         have NB1527_1513 := zg BK1513 hg
         replace BK1513 := zb BK1513 hb
         have NB1514_1527 := zl BK1514 hg
         have NB1527_1514 := zg BK1514 hg
         replace BK1514 := zb BK1514 hb
         have NB1515_1527 := zl BK1515 hg
         have NB1527_1515 := zg BK1515 hg
         replace BK1515 := zb BK1515 hb
         clear hb hbox hg
         refine hK.out _ _ (za BK1513 (zz BK1514)) (fun hHeld => ?_)
         clear hK K
         refine norm_ (a' := ?_) ?_ ?_
         rotate_left
         ·show Act.put _ (some 6) _ = _
          simp only [Act.put, List.setIfInBounds_toArray, List.set_cons_zero, List.set_cons_succ, i64_w, i32_w]
          rfl
         exact norm_ zm (hJ1_5 (v1518, gb1527) _ ⟨hHeld, (ru HO1519.out), (zu BK1513), (zu BK1514), (zu BK1515), (zu BK1527), GW1527.out, GE1527.out, NB1513_1527.out, NB1527_1513.out, NB1514_1527.out, NB1527_1514.out, NB1515_1527.out, NB1527_1515.out, zs⟩)
        skip
        rintro ⟨gb1526, gb1527⟩ w13 ⟨hS_, h0_, h1_, h2_, h3_, h4_, h5_, h6_, h7_, h8_, h9_, h10_, h11_, h12_, h13_, h14_, h15_, h16_, h17_, h18_, h19_, h20_, h21_, h22_, h23_⟩
        have n0_ := zA h0_
        have n1_ := zA h1_
        have n2_ := zA h2_
        have n3_ := zA h3_
        have n4_ := zA h4_
        have n5_ := zA h5_
        have n6_ := zA h6_
        have n7_ := zA h7_
        have n8_ := zA h8_
        have n9_ := zA h9_
        have n10_ := zA h10_
        have n11_ := zA h11_
        have n12_ := zA h12_
        have n13_ := zA h13_
        have n14_ := zA h14_
        have n15_ := zA h15_
        have n16_ := zA h16_
        have n17_ := zA h17_
        have n18_ := zA h18_
        have n19_ := zA h19_
        have n20_ := zA h20_
        have n21_ := zA h21_
        have n22_ := zA h22_
        have n23_ := zA h23_
        clear BK1513
        clear BK1514
        clear BK1515
        clear HB
        clear h0_ h1_ h2_ h3_ h4_ h5_ h6_ h7_ h8_ h9_ h10_ h11_ h12_ h13_ h14_ h15_ h16_ h17_ h18_ h19_ h20_ h21_ h22_ h23_
        have BK1513 := n0_
        have BK1514 := n1_
        have BK1515 := n2_
        have BK1526 := n3_
        have BK1527 := n4_
        have GW1526 := n5_
        have GE1526 := n6_
        have NB1513_1526 := n7_
        have NB1526_1513 := n8_
        have NB1514_1526 := n9_
        have NB1526_1514 := n10_
        have NB1515_1526 := n11_
        have NB1526_1515 := n12_
        have NB1527_1526 := n13_
        have NB1526_1527 := n14_
        have GW1527 := n15_
        have GE1527 := n16_
        have NB1513_1527 := n17_
        have NB1527_1513 := n18_
        have NB1514_1527 := n19_
        have NB1527_1514 := n20_
        have NB1515_1527 := n21_
        have NB1527_1515 := n22_
        have HB := n23_
        clear n0_ n1_ n2_ n3_ n4_ n5_ n6_ n7_ n8_ n9_ n10_ n11_ n12_ n13_ n14_ n15_ n16_ n17_ n18_ n19_ n20_ n21_ n22_ n23_
        have hHeld : z4 w13 gb1513 (.bool a0_0) (.slice A0_1 l0_1.length c0_1) (.int .i64 a0_2) (z3 w13 gb1514 (.bool a1_0) (.slice A1_1 l1_1.length c1_1) (.int .i64 a1_2)) := hS_
        refine norm_ (a' := ?_) ?_ ?_
        rotate_left
        ·simp only [putAll, Act.put, List.setIfInBounds_toArray, List.set_cons_zero, List.set_cons_succ]
         rfl
        refine one_ (i := 1) (N := some 8) #[true, true, true, false, true, true, false, false] rfl rfl (one_of HT_.out (by kernel_rfl)) (by decide) (fun K hK => ?_)
        refine goes_ Tryd.func69 (by kernel_rfl) rfl #[.agg #[.bool a0_0, .slice A0_1 l0_1.length c0_1, .int .i64 a0_2]] (by rfl) rfl rfl ga ?_
        with_reducible refine (ulpref04_One.calls k a0_0 _ _ l0_1 a0_2 t1516 t1517 t1520 _ ?side1 ?side2 A3.out).mono ?_
        (case side1 => exact zk (C_below HR0_1.out HB.out))
        (case side2 => exact HC0_1.out)
        rintro e w14 ⟨v1518, rfl, ho0, hb⟩
        refine ⟨_, rfl, ?_⟩
        have HO1519 := zA (R_lower ho0 (below_size zs))
        replace BK1513 := zb BK1513 hb
        replace BK1514 := zb BK1514 hb
        replace BK1515 := zb BK1515 hb
        replace BK1526 := zb BK1526 hb
        replace BK1527 := zb BK1527 hb
        replace HB := zf hb
        (try clear hb)
        (try clear hb2)
        (try clear hk)
        (try clear hi)
        (try clear ho0)
        refine hK.out _ _ (za BK1513 (zz BK1514)) (fun hHeld => ?_)
        clear hK K
        refine norm_ (a' := ?_) ?_ ?_
        rotate_left
        ·show Act.put _ (some 8) _ = _
         simp only [Act.put, List.setIfInBounds_toArray, List.set_cons_zero, List.set_cons_succ, i64_w, i32_w]
         rfl
        exact norm_ zm (hJ1_4_5 (v1518, gb1526, gb1527) _ ⟨hHeld, (ru HO1519.out), (zu BK1513), (zu BK1514), (zu BK1515), (zu BK1526), (zu BK1527), GW1526.out, GE1526.out, NB1513_1526.out, NB1526_1513.out, NB1514_1526.out, NB1526_1514.out, NB1515_1526.out, NB1526_1515.out, NB1527_1526.out, NB1526_1527.out, GW1527.out, GE1527.out, NB1513_1527.out, NB1527_1513.out, NB1514_1527.out, NB1527_1514.out, NB1515_1527.out, NB1527_1515.out, zs⟩)
       skip
       rintro ⟨v1518, gb1527⟩ w13 ⟨hS_, h0_, h1_, h2_, h3_, h4_, h5_, h6_, h7_, h8_, h9_, h10_, h11_, h12_, h13_⟩
       have n0_ := zA h0_
       have n1_ := zA h1_
       have n2_ := zA h2_
       have n3_ := zA h3_
       have n4_ := zA h4_
       have n5_ := zA h5_
       have n6_ := zA h6_
       have n7_ := zA h7_
       have n8_ := zA h8_
       have n9_ := zA h9_
       have n10_ := zA h10_
       have n11_ := zA h11_
       have n12_ := zA h12_
       have n13_ := zA h13_
       clear BK1513
       clear BK1514
       clear BK1515
       clear HB
       clear h0_ h1_ h2_ h3_ h4_ h5_ h6_ h7_ h8_ h9_ h10_ h11_ h12_ h13_
       have HO1519 := n0_
       have BK1513 := n1_
       have BK1514 := n2_
       have BK1515 := n3_
       have BK1527 := n4_
       have GW1527 := n5_
       have GE1527 := n6_
       have NB1513_1527 := n7_
       have NB1527_1513 := n8_
       have NB1514_1527 := n9_
       have NB1527_1514 := n10_
       have NB1515_1527 := n11_
       have NB1527_1515 := n12_
       have HB := n13_
       clear n0_ n1_ n2_ n3_ n4_ n5_ n6_ n7_ n8_ n9_ n10_ n11_ n12_ n13_
       have hHeld : z4 w13 gb1513 (.bool a0_0) (.slice A0_1 l0_1.length c0_1) (.int .i64 a0_2) (z3 w13 gb1514 (.bool a1_0) (.slice A1_1 l1_1.length c1_1) (.int .i64 a1_2)) := hS_
       refine norm_ (a' := ?_) ?_ ?_
       rotate_left
       ·simp only [putAll, Act.put, List.setIfInBounds_toArray, List.set_cons_zero, List.set_cons_succ]
        rfl
       refine two_ (i := 3) (j := 4) (Ni := some 10) (Nj := some 5) #[true, true, true, true, false, true, false, false] #[true, true, true, false, true, true, false, false] rfl rfl rfl rfl (two_of HT_.out (by kernel_rfl)) (by decide) (by decide) (fun K hK => ?_) (fun K hK => ?_)
       ·skip
        refine goes_ Tryd.func69 (by kernel_rfl) rfl #[.agg #[.bool a1_0, .slice A1_1 l1_1.length c1_1, .int .i64 a1_2]] (by rfl) rfl rfl ga ?_
        with_reducible refine (ulpref04_One.calls k a1_0 _ _ l1_1 a1_2 t1521 t1522 t1525 _ ?side1 ?side2 A4.out).mono ?_
        (case side1 => exact zk (C_below HR1_1.out HB.out))
        (case side2 => exact HC1_1.out)
        rintro e w14 ⟨v1523, rfl, ho0, hb⟩
        refine ⟨_, rfl, ?_⟩
        have HO1524 := zA (R_lower (R_new' ho0 (R_lt (ru HO1519.out))) (below_size zs))
        replace HO1519 := zA (R_elder' (ru HO1519.out) (R_base ho0) hb)
        replace BK1513 := zb BK1513 hb
        replace BK1514 := zb BK1514 hb
        replace BK1515 := zb BK1515 hb
        replace BK1527 := zb BK1527 hb
        replace HB := zf hb
        (try clear hb)
        (try clear hb2)
        (try clear hk)
        (try clear hi)
        (try clear ho0)
        refine hK.out _ _ (za BK1513 (zz BK1514)) (fun hHeld => ?_)
        clear hK K
        refine norm_ (a' := ?_) ?_ ?_
        rotate_left
        ·show Act.put _ (some 10) _ = _
         simp only [Act.put, List.setIfInBounds_toArray, List.set_cons_zero, List.set_cons_succ, i64_w, i32_w]
         rfl
        exact norm_ zm (hJ1_3_5 (v1518, v1523, gb1527) _ ⟨hHeld, (ru (R_mono HO1519.out (fun _ hk => hk.2))), (ru (R_mono HO1524.out (fun _ hk => hk.2))), (zu BK1513), (zu BK1514), (zu BK1515), (zu BK1527), GW1527.out, GE1527.out, NB1513_1527.out, NB1527_1513.out, NB1514_1527.out, NB1527_1514.out, NB1515_1527.out, NB1527_1515.out, zs⟩)
       skip
       refine box_step ?hg (N := 5) ?hd (cs := #[.bool false, .slice none 0 0, .int .i64 0]) (t := 25) ?hr ?_; (case hd => rfl); (case hg => rfl); (case hr => first | (go_simp; done) | (go_simp; rfl))
       intro gb1526 hg w14 hbox hb
       replace HO1519 := zA (R_below (ru HO1519.out) hb)
       have BK1526 := zA (hbox)
       have GW1526 := zx hg
       have GE1526 := zx hg
       replace HB := zf hb
       have NB1513_1526 := zl BK1513 hg
       have NB1526_1513 := zg BK1513 hg
       replace BK1513 := zb BK1513 hb
       have NB1514_1526 := zl BK1514 hg
       have NB1526_1514 := zg BK1514 hg
       replace BK1514 := zb BK1514 hb
       have NB1515_1526 := zl BK1515 hg
       have NB1526_1515 := zg BK1515 hg
       replace BK1515 := zb BK1515 hb
       have NB1527_1526 := zl BK1527 hg
       have NB1526_1527 := zg BK1527 hg
       replace BK1527 := zb BK1527 hb
       clear hb hbox hg
       refine hK.out _ _ (za BK1513 (zz BK1514)) (fun hHeld => ?_)
       clear hK K
       refine norm_ (a' := ?_) ?_ ?_
       rotate_left
       ·show Act.put _ (some 5) _ = _
        simp only [Act.put, List.setIfInBounds_toArray, List.set_cons_zero, List.set_cons_succ, i64_w, i32_w]
        rfl
       exact norm_ zm (hJ1_4_5 (v1518, gb1526, gb1527) _ ⟨hHeld, (ru HO1519.out), (zu BK1513), (zu BK1514), (zu BK1515), (zu BK1526), (zu BK1527), GW1526.out, GE1526.out, NB1513_1526.out, NB1526_1513.out, NB1514_1526.out, NB1526_1514.out, NB1515_1526.out, NB1526_1515.out, NB1527_1526.out, NB1526_1527.out, GW1527.out, GE1527.out, NB1513_1527.out, NB1527_1513.out, NB1514_1527.out, NB1527_1514.out, NB1515_1527.out, NB1527_1515.out, zs⟩)
      skip
      rintro ⟨v1518, gb1526⟩ w13 ⟨hS_, h0_, h1_, h2_, h3_, h4_, h5_, h6_, h7_, h8_, h9_, h10_, h11_, h12_, h13_⟩
      have n0_ := zA h0_
      have n1_ := zA h1_
      have n2_ := zA h2_
      have n3_ := zA h3_
      have n4_ := zA h4_
      have n5_ := zA h5_
      have n6_ := zA h6_
      have n7_ := zA h7_
      have n8_ := zA h8_
      have n9_ := zA h9_
      have n10_ := zA h10_
      have n11_ := zA h11_
      have n12_ := zA h12_
      have n13_ := zA h13_
      clear BK1513
      clear BK1514
      clear BK1515
      clear HB
      clear h0_ h1_ h2_ h3_ h4_ h5_ h6_ h7_ h8_ h9_ h10_ h11_ h12_ h13_
      have HO1519 := n0_
      have BK1513 := n1_
      have BK1514 := n2_
      have BK1515 := n3_
      have BK1526 := n4_
      have GW1526 := n5_
      have GE1526 := n6_
      have NB1513_1526 := n7_
      have NB1526_1513 := n8_
      have NB1514_1526 := n9_
      have NB1526_1514 := n10_
      have NB1515_1526 := n11_
      have NB1526_1515 := n12_
      have HB := n13_
      clear n0_ n1_ n2_ n3_ n4_ n5_ n6_ n7_ n8_ n9_ n10_ n11_ n12_ n13_
      have hHeld : z4 w13 gb1513 (.bool a0_0) (.slice A0_1 l0_1.length c0_1) (.int .i64 a0_2) (z3 w13 gb1514 (.bool a1_0) (.slice A1_1 l1_1.length c1_1) (.int .i64 a1_2)) := hS_
      refine norm_ (a' := ?_) ?_ ?_
      rotate_left
      ·simp only [putAll, Act.put, List.setIfInBounds_toArray, List.set_cons_zero, List.set_cons_succ]
       rfl
      refine two_ (i := 3) (j := 5) (Ni := some 10) (Nj := some 6) #[true, true, true, true, true, false, false, false] #[true, true, true, false, true, true, false, false] rfl rfl rfl rfl (two_of HT_.out (by kernel_rfl)) (by decide) (by decide) (fun K hK => ?_) (fun K hK => ?_)
      ·skip
       refine goes_ Tryd.func69 (by kernel_rfl) rfl #[.agg #[.bool a1_0, .slice A1_1 l1_1.length c1_1, .int .i64 a1_2]] (by rfl) rfl rfl ga ?_
       with_reducible refine (ulpref04_One.calls k a1_0 _ _ l1_1 a1_2 t1521 t1522 t1525 _ ?side1 ?side2 A4.out).mono ?_
       (case side1 => exact zk (C_below HR1_1.out HB.out))
       (case side2 => exact HC1_1.out)
       rintro e w14 ⟨v1523, rfl, ho0, hb⟩
       refine ⟨_, rfl, ?_⟩
       have HO1524 := zA (R_lower (R_new' ho0 (R_lt (ru HO1519.out))) (below_size zs))
       replace HO1519 := zA (R_elder' (ru HO1519.out) (R_base ho0) hb)
       replace BK1513 := zb BK1513 hb
       replace BK1514 := zb BK1514 hb
       replace BK1515 := zb BK1515 hb
       replace BK1526 := zb BK1526 hb
       replace HB := zf hb
       (try clear hb)
       (try clear hb2)
       (try clear hk)
       (try clear hi)
       (try clear ho0)
       refine hK.out _ _ (za BK1513 (zz BK1514)) (fun hHeld => ?_)
       clear hK K
       refine norm_ (a' := ?_) ?_ ?_
       rotate_left
       ·show Act.put _ (some 10) _ = _
        simp only [Act.put, List.setIfInBounds_toArray, List.set_cons_zero, List.set_cons_succ, i64_w, i32_w]
        rfl
       exact norm_ zm (hJ1_3_4 (v1518, v1523, gb1526) _ ⟨hHeld, (ru (R_mono HO1519.out (fun _ hk => hk.2))), (ru (R_mono HO1524.out (fun _ hk => hk.2))), (zu BK1513), (zu BK1514), (zu BK1515), (zu BK1526), GW1526.out, GE1526.out, NB1513_1526.out, NB1526_1513.out, NB1514_1526.out, NB1526_1514.out, NB1515_1526.out, NB1526_1515.out, zs⟩)
      skip
      refine box_step ?hg (N := 6) ?hd (cs := #[.bool false, .slice none 0 0, .int .i64 0]) (t := 25) ?hr ?_; (case hd => rfl); (case hg => rfl); (case hr => first | (go_simp; done) | (go_simp; rfl))
      intro gb1527 hg w14 hbox hb
      replace HO1519 := zA (R_below (ru HO1519.out) hb)
      have BK1527 := zA (hbox)
      have GW1527 := zx hg
      have GE1527 := zx hg
      replace HB := zf hb
      have NB1513_1527 := zl BK1513 hg
      have NB1527_1513 := zg BK1513 hg
      replace BK1513 := zb BK1513 hb
      have NB1514_1527 := zl BK1514 hg
      have NB1527_1514 := zg BK1514 hg
      replace BK1514 := zb BK1514 hb
      have NB1515_1527 := zl BK1515 hg
      have NB1527_1515 := zg BK1515 hg
      replace BK1515 := zb BK1515 hb
      have NB1526_1527 := zl BK1526 hg
      have NB1527_1526 := zg BK1526 hg
      replace BK1526 := zb BK1526 hb
      clear hb hbox hg
      refine hK.out _ _ (za BK1513 (zz BK1514)) (fun hHeld => ?_)
      clear hK K
      refine norm_ (a' := ?_) ?_ ?_
      rotate_left
      ·show Act.put _ (some 6) _ = _
       simp only [Act.put, List.setIfInBounds_toArray, List.set_cons_zero, List.set_cons_succ, i64_w, i32_w]
       rfl
      exact norm_ zm (hJ1_4_5 (v1518, gb1526, gb1527) _ ⟨hHeld, (ru HO1519.out), (zu BK1513), (zu BK1514), (zu BK1515), (zu BK1526), (zu BK1527), GW1526.out, GE1526.out, NB1513_1526.out, NB1526_1513.out, NB1514_1526.out, NB1526_1514.out, NB1515_1526.out, NB1526_1515.out, NB1527_1526.out, NB1526_1527.out, GW1527.out, GE1527.out, NB1513_1527.out, NB1527_1513.out, NB1514_1527.out, NB1527_1514.out, NB1515_1527.out, NB1527_1515.out, zs⟩)
     skip
     rintro ⟨v1518, v1523⟩ w13 ⟨hS_, h0_, h1_, h2_, h3_, h4_, h5_⟩
     have n0_ := zA h0_
     have n1_ := zA h1_
     have n2_ := zA h2_
     have n3_ := zA h3_
     have n4_ := zA h4_
     have n5_ := zA h5_
     clear BK1513
     clear BK1514
     clear BK1515
     clear HB
     clear h0_ h1_ h2_ h3_ h4_ h5_
     have HO1519 := n0_
     have HO1524 := n1_
     have BK1513 := n2_
     have BK1514 := n3_
     have BK1515 := n4_
     have HB := n5_
     clear n0_ n1_ n2_ n3_ n4_ n5_
     have hHeld : z4 w13 gb1513 (.bool a0_0) (.slice A0_1 l0_1.length c0_1) (.int .i64 a0_2) (z3 w13 gb1514 (.bool a1_0) (.slice A1_1 l1_1.length c1_1) (.int .i64 a1_2)) := hS_
     refine norm_ (a' := ?_) ?_ ?_
     rotate_left
     ·simp only [putAll, Act.put, List.setIfInBounds_toArray, List.set_cons_zero, List.set_cons_succ]
      rfl
     refine two_ (i := 4) (j := 5) (Ni := some 5) (Nj := some 6) #[true, true, true, true, true, false, false, false] #[true, true, true, true, false, true, false, false] rfl rfl rfl rfl (two_of HT_.out (by kernel_rfl)) (by decide) (by decide) (fun K hK => ?_) (fun K hK => ?_)
     ·skip
      refine box_step ?hg (N := 5) ?hd (cs := #[.bool false, .slice none 0 0, .int .i64 0]) (t := 25) ?hr ?_; (case hd => rfl); (case hg => rfl); (case hr => first | (go_simp; done) | (go_simp; rfl))
      intro gb1526 hg w14 hbox hb
      replace HO1519 := zA (R_below (ru HO1519.out) hb)
      replace HO1524 := zA (R_below (ru HO1524.out) hb)
      have BK1526 := zA (hbox)
      have GW1526 := zx hg
      have GE1526 := zx hg
      replace HB := zf hb
      have NB1513_1526 := zl BK1513 hg
      have NB1526_1513 := zg BK1513 hg
      replace BK1513 := zb BK1513 hb
      have NB1514_1526 := zl BK1514 hg
      have NB1526_1514 := zg BK1514 hg
      replace BK1514 := zb BK1514 hb
      have NB1515_1526 := zl BK1515 hg
      have NB1526_1515 := zg BK1515 hg
      replace BK1515 := zb BK1515 hb
      clear hb hbox hg
      refine hK.out _ _ (za BK1513 (zz BK1514)) (fun hHeld => ?_)
      clear hK K
      refine norm_ (a' := ?_) ?_ ?_
      rotate_left
      ·show Act.put _ (some 5) _ = _
       simp only [Act.put, List.setIfInBounds_toArray, List.set_cons_zero, List.set_cons_succ, i64_w, i32_w]
       rfl
      exact norm_ zm (hJ1_3_4 (v1518, v1523, gb1526) _ ⟨hHeld, (ru HO1519.out), (ru HO1524.out), (zu BK1513), (zu BK1514), (zu BK1515), (zu BK1526), GW1526.out, GE1526.out, NB1513_1526.out, NB1526_1513.out, NB1514_1526.out, NB1526_1514.out, NB1515_1526.out, NB1526_1515.out, zs⟩)
     skip
     refine box_step ?hg (N := 6) ?hd (cs := #[.bool false, .slice none 0 0, .int .i64 0]) (t := 25) ?hr ?_; (case hd => rfl); (case hg => rfl); (case hr => first | (go_simp; done) | (go_simp; rfl))
     intro gb1527 hg w14 hbox hb
     replace HO1519 := zA (R_below (ru HO1519.out) hb)
     replace HO1524 := zA (R_below (ru HO1524.out) hb)
     have BK1527 := zA (hbox)
     have GW1527 := zx hg
     have GE1527 := zx hg
     replace HB := zf hb
     have NB1513_1527 := zl BK1513 hg
     have NB1527_1513 := zg BK1513 hg
     replace BK1513 := zb BK1513 hb
     have NB1514_1527 := zl BK1514 hg
     have NB1527_1514 := zg BK1514 hg
     replace BK1514 := zb BK1514 hb
     have NB1515_1527 := zl BK1515 hg
     have NB1527_1515 := zg BK1515 hg
     replace BK1515 := zb BK1515 hb
     clear hb hbox hg
     refine hK.out _ _ (za BK1513 (zz BK1514)) (fun hHeld => ?_)
     clear hK K
     refine norm_ (a' := ?_) ?_ ?_
     rotate_left
     ·show Act.put _ (some 6) _ = _
      simp only [Act.put, List.setIfInBounds_toArray, List.set_cons_zero, List.set_cons_succ, i64_w, i32_w]
      rfl
     exact norm_ zm (hJ1_3_5 (v1518, v1523, gb1527) _ ⟨hHeld, (ru HO1519.out), (ru HO1524.out), (zu BK1513), (zu BK1514), (zu BK1515), (zu BK1527), GW1527.out, GE1527.out, NB1513_1527.out, NB1527_1513.out, NB1514_1527.out, NB1527_1514.out, NB1515_1527.out, NB1527_1515.out, zs⟩)
    skip
    rintro ⟨v1518, gb1526, gb1527⟩ w14 ⟨hS_, h0_, h1_, h2_, h3_, h4_, h5_, h6_, h7_, h8_, h9_, h10_, h11_, h12_, h13_, h14_, h15_, h16_, h17_, h18_, h19_, h20_, h21_, h22_, h23_, h24_⟩
    have n0_ := zA h0_
    have n1_ := zA h1_
    have n2_ := zA h2_
    have n3_ := zA h3_
    have n4_ := zA h4_
    have n5_ := zA h5_
    have n6_ := zA h6_
    have n7_ := zA h7_
    have n8_ := zA h8_
    have n9_ := zA h9_
    have n10_ := zA h10_
    have n11_ := zA h11_
    have n12_ := zA h12_
    have n13_ := zA h13_
    have n14_ := zA h14_
    have n15_ := zA h15_
    have n16_ := zA h16_
    have n17_ := zA h17_
    have n18_ := zA h18_
    have n19_ := zA h19_
    have n20_ := zA h20_
    have n21_ := zA h21_
    have n22_ := zA h22_
    have n23_ := zA h23_
    have n24_ := zA h24_
    clear BK1513
    clear BK1514
    clear BK1515
    clear HB
    clear h0_ h1_ h2_ h3_ h4_ h5_ h6_ h7_ h8_ h9_ h10_ h11_ h12_ h13_ h14_ h15_ h16_ h17_ h18_ h19_ h20_ h21_ h22_ h23_ h24_
    have HO1519 := n0_
    have BK1513 := n1_
    have BK1514 := n2_
    have BK1515 := n3_
    have BK1526 := n4_
    have BK1527 := n5_
    have GW1526 := n6_
    have GE1526 := n7_
    have NB1513_1526 := n8_
    have NB1526_1513 := n9_
    have NB1514_1526 := n10_
    have NB1526_1514 := n11_
    have NB1515_1526 := n12_
    have NB1526_1515 := n13_
    have NB1527_1526 := n14_
    have NB1526_1527 := n15_
    have GW1527 := n16_
    have GE1527 := n17_
    have NB1513_1527 := n18_
    have NB1527_1513 := n19_
    have NB1514_1527 := n20_
    have NB1527_1514 := n21_
    have NB1515_1527 := n22_
    have NB1527_1515 := n23_
    have HB := n24_
    clear n0_ n1_ n2_ n3_ n4_ n5_ n6_ n7_ n8_ n9_ n10_ n11_ n12_ n13_ n14_ n15_ n16_ n17_ n18_ n19_ n20_ n21_ n22_ n23_ n24_
    have hHeld : z4 w14 gb1513 (.bool a0_0) (.slice A0_1 l0_1.length c0_1) (.int .i64 a0_2) (z3 w14 gb1514 (.bool a1_0) (.slice A1_1 l1_1.length c1_1) (.int .i64 a1_2)) := hS_
    refine norm_ (a' := ?_) ?_ ?_
    rotate_left
    ·simp only [putAll, Act.put, List.setIfInBounds_toArray, List.set_cons_zero, List.set_cons_succ]
     rfl
    refine one_ (i := 3) (N := some 10) #[true, true, true, true, true, true, false, false] rfl rfl (one_of HT_.out (by kernel_rfl)) (by decide) (fun K hK => ?_)
    refine goes_ Tryd.func69 (by kernel_rfl) rfl #[.agg #[.bool a1_0, .slice A1_1 l1_1.length c1_1, .int .i64 a1_2]] (by rfl) rfl rfl ga ?_
    with_reducible refine (ulpref04_One.calls k a1_0 _ _ l1_1 a1_2 t1521 t1522 t1525 _ ?side1 ?side2 A4.out).mono ?_
    (case side1 => exact zk (C_below HR1_1.out HB.out))
    (case side2 => exact HC1_1.out)
    rintro e w15 ⟨v1523, rfl, ho0, hb⟩
    refine ⟨_, rfl, ?_⟩
    have HO1524 := zA (R_lower (R_new' ho0 (R_lt (ru HO1519.out))) (below_size zs))
    replace HO1519 := zA (R_elder' (ru HO1519.out) (R_base ho0) hb)
    replace BK1513 := zb BK1513 hb
    replace BK1514 := zb BK1514 hb
    replace BK1515 := zb BK1515 hb
    replace BK1526 := zb BK1526 hb
    replace BK1527 := zb BK1527 hb
    replace HB := zf hb
    (try clear hb)
    (try clear hb2)
    (try clear hk)
    (try clear hi)
    (try clear ho0)
    refine hK.out _ _ (za BK1513 (zz BK1514)) (fun hHeld => ?_)
    clear hK K
    refine norm_ (a' := ?_) ?_ ?_
    rotate_left
    ·show Act.put _ (some 10) _ = _
     simp only [Act.put, List.setIfInBounds_toArray, List.set_cons_zero, List.set_cons_succ, i64_w, i32_w]
     rfl
    exact norm_ zm (hJ1_3_4_5 (v1518, v1523, gb1526, gb1527) _ ⟨hHeld, (ru (R_mono HO1519.out (fun _ hk => hk.2))), (ru (R_mono HO1524.out (fun _ hk => hk.2))), (zu BK1513), (zu BK1514), (zu BK1515), (zu BK1526), (zu BK1527), GW1526.out, GE1526.out, NB1513_1526.out, NB1526_1513.out, NB1514_1526.out, NB1526_1514.out, NB1515_1526.out, NB1526_1515.out, NB1527_1526.out, NB1526_1527.out, GW1527.out, GE1527.out, NB1513_1527.out, NB1527_1513.out, NB1514_1527.out, NB1527_1514.out, NB1515_1527.out, NB1527_1515.out, zs⟩)
   skip
   rintro ⟨v1518, v1523, gb1527⟩ w14 ⟨hS_, h0_, h1_, h2_, h3_, h4_, h5_, h6_, h7_, h8_, h9_, h10_, h11_, h12_, h13_, h14_⟩
   have n0_ := zA h0_
   have n1_ := zA h1_
   have n2_ := zA h2_
   have n3_ := zA h3_
   have n4_ := zA h4_
   have n5_ := zA h5_
   have n6_ := zA h6_
   have n7_ := zA h7_
   have n8_ := zA h8_
   have n9_ := zA h9_
   have n10_ := zA h10_
   have n11_ := zA h11_
   have n12_ := zA h12_
   have n13_ := zA h13_
   have n14_ := zA h14_
   clear BK1513
   clear BK1514
   clear BK1515
   clear HB
   clear h0_ h1_ h2_ h3_ h4_ h5_ h6_ h7_ h8_ h9_ h10_ h11_ h12_ h13_ h14_
   have HO1519 := n0_
   have HO1524 := n1_
   have BK1513 := n2_
   have BK1514 := n3_
   have BK1515 := n4_
   have BK1527 := n5_
   have GW1527 := n6_
   have GE1527 := n7_
   have NB1513_1527 := n8_
   have NB1527_1513 := n9_
   have NB1514_1527 := n10_
   have NB1527_1514 := n11_
   have NB1515_1527 := n12_
   have NB1527_1515 := n13_
   have HB := n14_
   clear n0_ n1_ n2_ n3_ n4_ n5_ n6_ n7_ n8_ n9_ n10_ n11_ n12_ n13_ n14_
   have hHeld : z4 w14 gb1513 (.bool a0_0) (.slice A0_1 l0_1.length c0_1) (.int .i64 a0_2) (z3 w14 gb1514 (.bool a1_0) (.slice A1_1 l1_1.length c1_1) (.int .i64 a1_2)) := hS_
   refine norm_ (a' := ?_) ?_ ?_
   rotate_left
   ·simp only [putAll, Act.put, List.setIfInBounds_toArray, List.set_cons_zero, List.set_cons_succ]
    rfl
   refine one_ (i := 4) (N := some 5) #[true, true, true, true, true, true, false, false] rfl rfl (one_of HT_.out (by kernel_rfl)) (by decide) (fun K hK => ?_)
   refine box_step ?hg (N := 5) ?hd (cs := #[.bool false, .slice none 0 0, .int .i64 0]) (t := 25) ?hr ?_; (case hd => rfl); (case hg => rfl); (case hr => first | (go_simp; done) | (go_simp; rfl))
   intro gb1526 hg w15 hbox hb
   replace HO1519 := zA (R_below (ru HO1519.out) hb)
   replace HO1524 := zA (R_below (ru HO1524.out) hb)
   have BK1526 := zA (hbox)
   have GW1526 := zx hg
   have GE1526 := zx hg
   replace HB := zf hb
   have NB1513_1526 := zl BK1513 hg
   have NB1526_1513 := zg BK1513 hg
   replace BK1513 := zb BK1513 hb
   have NB1514_1526 := zl BK1514 hg
   have NB1526_1514 := zg BK1514 hg
   replace BK1514 := zb BK1514 hb
   have NB1515_1526 := zl BK1515 hg
   have NB1526_1515 := zg BK1515 hg
   replace BK1515 := zb BK1515 hb
   have NB1527_1526 := zl BK1527 hg
   have NB1526_1527 := zg BK1527 hg
   replace BK1527 := zb BK1527 hb
   clear hb hbox hg
   refine hK.out _ _ (za BK1513 (zz BK1514)) (fun hHeld => ?_)
   clear hK K
   refine norm_ (a' := ?_) ?_ ?_
   rotate_left
   ·show Act.put _ (some 5) _ = _
    simp only [Act.put, List.setIfInBounds_toArray, List.set_cons_zero, List.set_cons_succ, i64_w, i32_w]
    rfl
   exact norm_ zm (hJ1_3_4_5 (v1518, v1523, gb1526, gb1527) _ ⟨hHeld, (ru HO1519.out), (ru HO1524.out), (zu BK1513), (zu BK1514), (zu BK1515), (zu BK1526), (zu BK1527), GW1526.out, GE1526.out, NB1513_1526.out, NB1526_1513.out, NB1514_1526.out, NB1526_1514.out, NB1515_1526.out, NB1526_1515.out, NB1527_1526.out, NB1526_1527.out, GW1527.out, GE1527.out, NB1513_1527.out, NB1527_1513.out, NB1514_1527.out, NB1527_1514.out, NB1515_1527.out, NB1527_1515.out, zs⟩)
  skip
  rintro ⟨v1518, v1523, gb1526⟩ w14 ⟨hS_, h0_, h1_, h2_, h3_, h4_, h5_, h6_, h7_, h8_, h9_, h10_, h11_, h12_, h13_, h14_⟩
  have n0_ := zA h0_
  have n1_ := zA h1_
  have n2_ := zA h2_
  have n3_ := zA h3_
  have n4_ := zA h4_
  have n5_ := zA h5_
  have n6_ := zA h6_
  have n7_ := zA h7_
  have n8_ := zA h8_
  have n9_ := zA h9_
  have n10_ := zA h10_
  have n11_ := zA h11_
  have n12_ := zA h12_
  have n13_ := zA h13_
  have n14_ := zA h14_
  clear BK1513
  clear BK1514
  clear BK1515
  clear HB
  clear h0_ h1_ h2_ h3_ h4_ h5_ h6_ h7_ h8_ h9_ h10_ h11_ h12_ h13_ h14_
  have HO1519 := n0_
  have HO1524 := n1_
  have BK1513 := n2_
  have BK1514 := n3_
  have BK1515 := n4_
  have BK1526 := n5_
  have GW1526 := n6_
  have GE1526 := n7_
  have NB1513_1526 := n8_
  have NB1526_1513 := n9_
  have NB1514_1526 := n10_
  have NB1526_1514 := n11_
  have NB1515_1526 := n12_
  have NB1526_1515 := n13_
  have HB := n14_
  clear n0_ n1_ n2_ n3_ n4_ n5_ n6_ n7_ n8_ n9_ n10_ n11_ n12_ n13_ n14_
  have hHeld : z4 w14 gb1513 (.bool a0_0) (.slice A0_1 l0_1.length c0_1) (.int .i64 a0_2) (z3 w14 gb1514 (.bool a1_0) (.slice A1_1 l1_1.length c1_1) (.int .i64 a1_2)) := hS_
  refine norm_ (a' := ?_) ?_ ?_
  rotate_left
  ·simp only [putAll, Act.put, List.setIfInBounds_toArray, List.set_cons_zero, List.set_cons_succ]
   rfl
  refine one_ (i := 5) (N := some 6) #[true, true, true, true, true, true, false, false] rfl rfl (one_of HT_.out (by kernel_rfl)) (by decide) (fun K hK => ?_)
  refine box_step ?hg (N := 6) ?hd (cs := #[.bool false, .slice none 0 0, .int .i64 0]) (t := 25) ?hr ?_; (case hd => rfl); (case hg => rfl); (case hr => first | (go_simp; done) | (go_simp; rfl))
  intro gb1527 hg w15 hbox hb
  replace HO1519 := zA (R_below (ru HO1519.out) hb)
  replace HO1524 := zA (R_below (ru HO1524.out) hb)
  have BK1527 := zA (hbox)
  have GW1527 := zx hg
  have GE1527 := zx hg
  replace HB := zf hb
  have NB1513_1527 := zl BK1513 hg
  have NB1527_1513 := zg BK1513 hg
  replace BK1513 := zb BK1513 hb
  have NB1514_1527 := zl BK1514 hg
  have NB1527_1514 := zg BK1514 hg
  replace BK1514 := zb BK1514 hb
  have NB1515_1527 := zl BK1515 hg
  have NB1527_1515 := zg BK1515 hg
  replace BK1515 := zb BK1515 hb
  have NB1526_1527 := zl BK1526 hg
  have NB1527_1526 := zg BK1526 hg
  replace BK1526 := zb BK1526 hb
  clear hb hbox hg
  refine hK.out _ _ (za BK1513 (zz BK1514)) (fun hHeld => ?_)
  clear hK K
  refine norm_ (a' := ?_) ?_ ?_
  rotate_left
  ·show Act.put _ (some 6) _ = _
   simp only [Act.put, List.setIfInBounds_toArray, List.set_cons_zero, List.set_cons_succ, i64_w, i32_w]
   rfl
  exact norm_ zm (hJ1_3_4_5 (v1518, v1523, gb1526, gb1527) _ ⟨hHeld, (ru HO1519.out), (ru HO1524.out), (zu BK1513), (zu BK1514), (zu BK1515), (zu BK1526), (zu BK1527), GW1526.out, GE1526.out, NB1513_1526.out, NB1526_1513.out, NB1514_1526.out, NB1526_1514.out, NB1515_1526.out, NB1526_1515.out, NB1527_1526.out, NB1526_1527.out, GW1527.out, GE1527.out, NB1513_1527.out, NB1527_1513.out, NB1514_1527.out, NB1527_1514.out, NB1515_1527.out, NB1527_1515.out, zs⟩)
 rintro ⟨v1518, v1523, gb1526, gb1527⟩ w15 ⟨hS_, h0_, h1_, h2_, h3_, h4_, h5_, h6_, h7_, h8_, h9_, h10_, h11_, h12_, h13_, h14_, h15_, h16_, h17_, h18_, h19_, h20_, h21_, h22_, h23_, h24_, h25_⟩
 have n0_ := zA h0_
 have n1_ := zA h1_
 have n2_ := zA h2_
 have n3_ := zA h3_
 have n4_ := zA h4_
 have n5_ := zA h5_
 have n6_ := zA h6_
 have n7_ := zA h7_
 have n8_ := zA h8_
 have n9_ := zA h9_
 have n10_ := zA h10_
 have n11_ := zA h11_
 have n12_ := zA h12_
 have n13_ := zA h13_
 have n14_ := zA h14_
 have n15_ := zA h15_
 have n16_ := zA h16_
 have n17_ := zA h17_
 have n18_ := zA h18_
 have n19_ := zA h19_
 have n20_ := zA h20_
 have n21_ := zA h21_
 have n22_ := zA h22_
 have n23_ := zA h23_
 have n24_ := zA h24_
 have n25_ := zA h25_
 clear BK1513
 clear BK1514
 clear BK1515
 clear HB
 clear h0_ h1_ h2_ h3_ h4_ h5_ h6_ h7_ h8_ h9_ h10_ h11_ h12_ h13_ h14_ h15_ h16_ h17_ h18_ h19_ h20_ h21_ h22_ h23_ h24_ h25_
 have HO1519 := n0_
 have HO1524 := n1_
 have BK1513 := n2_
 have BK1514 := n3_
 have BK1515 := n4_
 have BK1526 := n5_
 have BK1527 := n6_
 have GW1526 := n7_
 have GE1526 := n8_
 have NB1513_1526 := n9_
 have NB1526_1513 := n10_
 have NB1514_1526 := n11_
 have NB1526_1514 := n12_
 have NB1515_1526 := n13_
 have NB1526_1515 := n14_
 have NB1527_1526 := n15_
 have NB1526_1527 := n16_
 have GW1527 := n17_
 have GE1527 := n18_
 have NB1513_1527 := n19_
 have NB1527_1513 := n20_
 have NB1514_1527 := n21_
 have NB1527_1514 := n22_
 have NB1515_1527 := n23_
 have NB1527_1515 := n24_
 have HB := n25_
 clear n0_ n1_ n2_ n3_ n4_ n5_ n6_ n7_ n8_ n9_ n10_ n11_ n12_ n13_ n14_ n15_ n16_ n17_ n18_ n19_ n20_ n21_ n22_ n23_ n24_ n25_
 have hHeld : z4 w15 gb1513 (.bool a0_0) (.slice A0_1 l0_1.length c0_1) (.int .i64 a0_2) (z3 w15 gb1514 (.bool a1_0) (.slice A1_1 l1_1.length c1_1) (.int .i64 a1_2)) := hS_
 obtain ⟨Ao17, co17, eo17⟩ := R_slice HO1519.out
 (first | subst eo17 | (injection eo17 with f1_ f2_ f3_; have f4_ := f1_.symm; have f5_ := f3_.symm; clear f1_ f2_ f3_; subst f4_; subst f5_))
 obtain ⟨Ao21, co21, eo21⟩ := R_slice HO1524.out
 (first | subst eo21 | (injection eo21 with f1_ f2_ f3_; have f4_ := f1_.symm; have f5_ := f3_.symm; clear f1_ f2_ f3_; subst f4_; subst f5_))
 refine norm_ (a' := ?_) ?_ ?_
 rotate_left
 ·simp only [putAll, Act.put, List.setIfInBounds_toArray, List.set_cons_zero, List.set_cons_succ]
  rfl
 refine one_ (i := 6) (N := none) #[true, true, true, true, true, true, true, false] rfl rfl (one_of HT_.out (by kernel_rfl)) (by decide) (fun K hK => ?_)
 have hs16 : w15.cell? ⟨gb1526, 0, none⟩ = some (.bool false) := (blk_cell BK1526.out 0).trans rfl
 have hfs16 := blk_frozen BK1526.out 0
 have hns16_0 := NB1513_1526.out
 have hns16_1 := NB1514_1526.out
 have hns16_2 := NB1515_1526.out
 have hns16_4 := NB1527_1526.out
 have hms16_0 := NB1526_1513.out
 have hms16_1 := NB1526_1514.out
 have hms16_2 := NB1526_1515.out
 have hms16_4 := NB1526_1527.out
 have hs18 : w15.cell? ⟨gb1526, 1, none⟩ = some (.slice none 0 0) := (blk_cell BK1526.out 1).trans rfl
 have hfs18 := blk_frozen BK1526.out 1
 have hns18_0 := NB1513_1526.out
 have hns18_1 := NB1514_1526.out
 have hns18_2 := NB1515_1526.out
 have hns18_4 := NB1527_1526.out
 have hms18_0 := NB1526_1513.out
 have hms18_1 := NB1526_1514.out
 have hms18_2 := NB1526_1515.out
 have hms18_4 := NB1526_1527.out
 have hs19 : w15.cell? ⟨gb1526, 2, none⟩ = some (.int .i64 0) := (blk_cell BK1526.out 2).trans rfl
 have hfs19 := blk_frozen BK1526.out 2
 have hns19_0 := NB1513_1526.out
 have hns19_1 := NB1514_1526.out
 have hns19_2 := NB1515_1526.out
 have hns19_4 := NB1527_1526.out
 have hms19_0 := NB1526_1513.out
 have hms19_1 := NB1526_1514.out
 have hms19_2 := NB1526_1515.out
 have hms19_4 := NB1526_1527.out
 refine skip_ (w1 := ?_) (by rfl) rfl ?_ ?_
 rotate_left
 ·go_simp
  rfl
 refine hK.out _ _ ⟨((cell_far (p := ⟨gb1526, _, none⟩) NB1513_1526.out _).trans (((cell_far (p := ⟨gb1526, _, none⟩) NB1513_1526.out _).trans (((cell_far (p := ⟨gb1526, _, none⟩) NB1513_1526.out _).trans (hHeld.1)))))), ((cell_far (p := ⟨gb1526, _, none⟩) NB1513_1526.out _).trans (((cell_far (p := ⟨gb1526, _, none⟩) NB1513_1526.out _).trans (((cell_far (p := ⟨gb1526, _, none⟩) NB1513_1526.out _).trans (hHeld.2.1)))))), ((cell_far (p := ⟨gb1526, _, none⟩) NB1513_1526.out _).trans (((cell_far (p := ⟨gb1526, _, none⟩) NB1513_1526.out _).trans (((cell_far (p := ⟨gb1526, _, none⟩) NB1513_1526.out _).trans (hHeld.2.2.1)))))), ((cell_far (p := ⟨gb1526, _, none⟩) NB1514_1526.out _).trans (((cell_far (p := ⟨gb1526, _, none⟩) NB1514_1526.out _).trans (((cell_far (p := ⟨gb1526, _, none⟩) NB1514_1526.out _).trans (hHeld.2.2.2.1)))))), ((cell_far (p := ⟨gb1526, _, none⟩) NB1514_1526.out _).trans (((cell_far (p := ⟨gb1526, _, none⟩) NB1514_1526.out _).trans (((cell_far (p := ⟨gb1526, _, none⟩) NB1514_1526.out _).trans (hHeld.2.2.2.2.1)))))), ((cell_far (p := ⟨gb1526, _, none⟩) NB1514_1526.out _).trans (((cell_far (p := ⟨gb1526, _, none⟩) NB1514_1526.out _).trans (((cell_far (p := ⟨gb1526, _, none⟩) NB1514_1526.out _).trans (hHeld.2.2.2.2.2))))))⟩ (fun hHeld => ?_)
 clear hK K
 refine one_ (i := 7) (N := none) #[true, true, true, true, true, true, true, true] rfl rfl (one_of HT_.out (by kernel_rfl)) (by decide) (fun K hK => ?_)
 have hs20 : w15.cell? ⟨gb1527, 0, none⟩ = some (.bool false) := (blk_cell BK1527.out 0).trans rfl
 have hfs20 := blk_frozen BK1527.out 0
 have hns20_0 := NB1513_1527.out
 have hns20_1 := NB1514_1527.out
 have hns20_2 := NB1515_1527.out
 have hns20_3 := NB1526_1527.out
 have hms20_0 := NB1527_1513.out
 have hms20_1 := NB1527_1514.out
 have hms20_2 := NB1527_1515.out
 have hms20_3 := NB1527_1526.out
 have hs22 : w15.cell? ⟨gb1527, 1, none⟩ = some (.slice none 0 0) := (blk_cell BK1527.out 1).trans rfl
 have hfs22 := blk_frozen BK1527.out 1
 have hns22_0 := NB1513_1527.out
 have hns22_1 := NB1514_1527.out
 have hns22_2 := NB1515_1527.out
 have hns22_3 := NB1526_1527.out
 have hms22_0 := NB1527_1513.out
 have hms22_1 := NB1527_1514.out
 have hms22_2 := NB1527_1515.out
 have hms22_3 := NB1527_1526.out
 have hs23 : w15.cell? ⟨gb1527, 2, none⟩ = some (.int .i64 0) := (blk_cell BK1527.out 2).trans rfl
 have hfs23 := blk_frozen BK1527.out 2
 have hns23_0 := NB1513_1527.out
 have hns23_1 := NB1514_1527.out
 have hns23_2 := NB1515_1527.out
 have hns23_3 := NB1526_1527.out
 have hms23_0 := NB1527_1513.out
 have hms23_1 := NB1527_1514.out
 have hms23_2 := NB1527_1515.out
 have hms23_3 := NB1527_1526.out
 refine skip_ (w1 := ?_) (by rfl) rfl ?_ ?_
 rotate_left
 ·go_simp
  rfl
 refine hK.out _ _ ⟨((cell_far (p := ⟨gb1527, _, none⟩) NB1513_1527.out _).trans (((cell_far (p := ⟨gb1527, _, none⟩) NB1513_1527.out _).trans (((cell_far (p := ⟨gb1527, _, none⟩) NB1513_1527.out _).trans (hHeld.1)))))), ((cell_far (p := ⟨gb1527, _, none⟩) NB1513_1527.out _).trans (((cell_far (p := ⟨gb1527, _, none⟩) NB1513_1527.out _).trans (((cell_far (p := ⟨gb1527, _, none⟩) NB1513_1527.out _).trans (hHeld.2.1)))))), ((cell_far (p := ⟨gb1527, _, none⟩) NB1513_1527.out _).trans (((cell_far (p := ⟨gb1527, _, none⟩) NB1513_1527.out _).trans (((cell_far (p := ⟨gb1527, _, none⟩) NB1513_1527.out _).trans (hHeld.2.2.1)))))), ((cell_far (p := ⟨gb1527, _, none⟩) NB1514_1527.out _).trans (((cell_far (p := ⟨gb1527, _, none⟩) NB1514_1527.out _).trans (((cell_far (p := ⟨gb1527, _, none⟩) NB1514_1527.out _).trans (hHeld.2.2.2.1)))))), ((cell_far (p := ⟨gb1527, _, none⟩) NB1514_1527.out _).trans (((cell_far (p := ⟨gb1527, _, none⟩) NB1514_1527.out _).trans (((cell_far (p := ⟨gb1527, _, none⟩) NB1514_1527.out _).trans (hHeld.2.2.2.2.1)))))), ((cell_far (p := ⟨gb1527, _, none⟩) NB1514_1527.out _).trans (((cell_far (p := ⟨gb1527, _, none⟩) NB1514_1527.out _).trans (((cell_far (p := ⟨gb1527, _, none⟩) NB1514_1527.out _).trans (hHeld.2.2.2.2.2))))))⟩ (fun hHeld => ?_)
 clear hK K
 refine done_ (done_of HT_.out (by kernel_rfl)) ?_
 try go_wp2
 have n0_ : Aside0 (Kd.R (Kd.int .u64) 43 ((((((w15.setCell ⟨gb1526, 0, none⟩ (.bool t1516)).setCell ⟨gb1526, 1, none⟩ (.slice Ao17 t1517.length co17)).setCell ⟨gb1526, 2, none⟩ (.int .i64 t1520)).setCell ⟨gb1527, 0, none⟩ (.bool t1521)).setCell ⟨gb1527, 1, none⟩ (.slice Ao21 t1522.length co21)).setCell ⟨gb1527, 2, none⟩ (.int .i64 t1525)) w.heap.size (fun k_ => some k_ ≠ (.slice Ao21 t1522.length co21 : Value).ownBlock) (.slice Ao17 t1517.length co17) t1517) := ⟨ru (R_mono (zr gb1527 (zr gb1526 (R_types (R_types HO1519.out BK1526.out (by decide)) BK1527.out (by decide)) (fun _ hk => hk.1.2) _ _ _) (fun _ hk => hk.2) _ _ _) (fun _ hk => hk.1.1))⟩
 have n1_ : Aside0 (Kd.R (Kd.int .u64) 43 ((((((w15.setCell ⟨gb1526, 0, none⟩ (.bool t1516)).setCell ⟨gb1526, 1, none⟩ (.slice Ao17 t1517.length co17)).setCell ⟨gb1526, 2, none⟩ (.int .i64 t1520)).setCell ⟨gb1527, 0, none⟩ (.bool t1521)).setCell ⟨gb1527, 1, none⟩ (.slice Ao21 t1522.length co21)).setCell ⟨gb1527, 2, none⟩ (.int .i64 t1525)) w.heap.size (fun k_ => some k_ ≠ (.slice Ao17 t1517.length co17 : Value).ownBlock) (.slice Ao21 t1522.length co21) t1522) := ⟨ru (R_mono (zr gb1527 (zr gb1526 (R_types (R_types HO1524.out BK1526.out (by decide)) BK1527.out (by decide)) (fun _ hk => hk.1.2) _ _ _) (fun _ hk => hk.2) _ _ _) (fun _ hk => hk.1.1))⟩
 have n2_ : Aside0 (((((((w15.setCell ⟨gb1526, 0, none⟩ (.bool t1516)).setCell ⟨gb1526, 1, none⟩ (.slice Ao17 t1517.length co17)).setCell ⟨gb1526, 2, none⟩ (.int .i64 t1520)).setCell ⟨gb1527, 0, none⟩ (.bool t1521)).setCell ⟨gb1527, 1, none⟩ (.slice Ao21 t1522.length co21)).setCell ⟨gb1527, 2, none⟩ (.int .i64 t1525)).heap[gb1513]? = some (.cells #[.bool a0_0, .slice A0_1 l0_1.length c0_1, .int .i64 a0_2] 25 (0, 0))) := ⟨by (with_reducible repeat (first | refine blk_drewN ?_ _ | refine blk_drew ?_ | refine blk_alloc ?_ _)); refine blk_far ?_ NB1513_1527.out _; refine blk_far ?_ NB1513_1527.out _; refine blk_far ?_ NB1513_1527.out _; refine blk_far ?_ NB1513_1526.out _; refine blk_far ?_ NB1513_1526.out _; refine blk_far ?_ NB1513_1526.out _; exact BK1513.out⟩
 have n3_ : Aside0 (((((((w15.setCell ⟨gb1526, 0, none⟩ (.bool t1516)).setCell ⟨gb1526, 1, none⟩ (.slice Ao17 t1517.length co17)).setCell ⟨gb1526, 2, none⟩ (.int .i64 t1520)).setCell ⟨gb1527, 0, none⟩ (.bool t1521)).setCell ⟨gb1527, 1, none⟩ (.slice Ao21 t1522.length co21)).setCell ⟨gb1527, 2, none⟩ (.int .i64 t1525)).heap[gb1514]? = some (.cells #[.bool a1_0, .slice A1_1 l1_1.length c1_1, .int .i64 a1_2] 25 (0, 0))) := ⟨by (with_reducible repeat (first | refine blk_drewN ?_ _ | refine blk_drew ?_ | refine blk_alloc ?_ _)); refine blk_far ?_ NB1514_1527.out _; refine blk_far ?_ NB1514_1527.out _; refine blk_far ?_ NB1514_1527.out _; refine blk_far ?_ NB1514_1526.out _; refine blk_far ?_ NB1514_1526.out _; refine blk_far ?_ NB1514_1526.out _; exact BK1514.out⟩
 have n4_ : Aside0 (((((((w15.setCell ⟨gb1526, 0, none⟩ (.bool t1516)).setCell ⟨gb1526, 1, none⟩ (.slice Ao17 t1517.length co17)).setCell ⟨gb1526, 2, none⟩ (.int .i64 t1520)).setCell ⟨gb1527, 0, none⟩ (.bool t1521)).setCell ⟨gb1527, 1, none⟩ (.slice Ao21 t1522.length co21)).setCell ⟨gb1527, 2, none⟩ (.int .i64 t1525)).heap[gb1515]? = some (.cells #[.bool false, .slice none 0 0, .int .i64 0] 25 (0, 0))) := ⟨by (with_reducible repeat (first | refine blk_drewN ?_ _ | refine blk_drew ?_ | refine blk_alloc ?_ _)); refine blk_far ?_ NB1515_1527.out _; refine blk_far ?_ NB1515_1527.out _; refine blk_far ?_ NB1515_1527.out _; refine blk_far ?_ NB1515_1526.out _; refine blk_far ?_ NB1515_1526.out _; refine blk_far ?_ NB1515_1526.out _; exact BK1515.out⟩
 have n5_ : Aside0 (((((((w15.setCell ⟨gb1526, 0, none⟩ (.bool t1516)).setCell ⟨gb1526, 1, none⟩ (.slice Ao17 t1517.length co17)).setCell ⟨gb1526, 2, none⟩ (.int .i64 t1520)).setCell ⟨gb1527, 0, none⟩ (.bool t1521)).setCell ⟨gb1527, 1, none⟩ (.slice Ao21 t1522.length co21)).setCell ⟨gb1527, 2, none⟩ (.int .i64 t1525)).heap[gb1526]? = some (.cells #[.bool t1516, .slice Ao17 t1517.length co17, .int .i64 t1520] 25 (0, 0))) := ⟨by (with_reducible repeat (first | refine blk_drewN ?_ _ | refine blk_drew ?_ | refine blk_alloc ?_ _)); refine blk_far ?_ NB1526_1527.out _; refine blk_far ?_ NB1526_1527.out _; refine blk_far ?_ NB1526_1527.out _; refine blk_put (cs := #[.bool t1516, .slice Ao17 t1517.length co17, .int .i64 0]) ?_ 2 _ rfl; refine blk_put (cs := #[.bool t1516, .slice none 0 0, .int .i64 0]) ?_ 1 _ rfl; refine blk_put (cs := #[.bool false, .slice none 0 0, .int .i64 0]) ?_ 0 _ rfl; exact BK1526.out⟩
 have n6_ : Aside0 (((((((w15.setCell ⟨gb1526, 0, none⟩ (.bool t1516)).setCell ⟨gb1526, 1, none⟩ (.slice Ao17 t1517.length co17)).setCell ⟨gb1526, 2, none⟩ (.int .i64 t1520)).setCell ⟨gb1527, 0, none⟩ (.bool t1521)).setCell ⟨gb1527, 1, none⟩ (.slice Ao21 t1522.length co21)).setCell ⟨gb1527, 2, none⟩ (.int .i64 t1525)).heap[gb1527]? = some (.cells #[.bool t1521, .slice Ao21 t1522.length co21, .int .i64 t1525] 25 (0, 0))) := ⟨by (with_reducible repeat (first | refine blk_drewN ?_ _ | refine blk_drew ?_ | refine blk_alloc ?_ _)); refine blk_put (cs := #[.bool t1521, .slice Ao21 t1522.length co21, .int .i64 0]) ?_ 2 _ rfl; refine blk_put (cs := #[.bool t1521, .slice none 0 0, .int .i64 0]) ?_ 1 _ rfl; refine blk_put (cs := #[.bool false, .slice none 0 0, .int .i64 0]) ?_ 0 _ rfl; refine blk_far ?_ NB1527_1526.out _; refine blk_far ?_ NB1527_1526.out _; refine blk_far ?_ NB1527_1526.out _; exact BK1527.out⟩
 have n7_ : Aside0 (Below w.heap.size w ((((((w15.setCell ⟨gb1526, 0, none⟩ (.bool t1516)).setCell ⟨gb1526, 1, none⟩ (.slice Ao17 t1517.length co17)).setCell ⟨gb1526, 2, none⟩ (.int .i64 t1520)).setCell ⟨gb1527, 0, none⟩ (.bool t1521)).setCell ⟨gb1527, 1, none⟩ (.slice Ao21 t1522.length co21)).setCell ⟨gb1527, 2, none⟩ (.int .i64 t1525))) := ⟨zs⟩
 (try clear HO1519)
 (try clear HO1524)
 (try clear BK1513)
 (try clear BK1514)
 (try clear BK1515)
 (try clear BK1526)
 (try clear BK1527)
 (try clear HB)
 generalize ((((((w15.setCell ⟨gb1526, 0, none⟩ (.bool t1516)).setCell ⟨gb1526, 1, none⟩ (.slice Ao17 t1517.length co17)).setCell ⟨gb1526, 2, none⟩ (.int .i64 t1520)).setCell ⟨gb1527, 0, none⟩ (.bool t1521)).setCell ⟨gb1527, 1, none⟩ (.slice Ao21 t1522.length co21)).setCell ⟨gb1527, 2, none⟩ (.int .i64 t1525)) = w24 at n0_ n1_ n2_ n3_ n4_ n5_ n6_ n7_ ⊢
 have HO1519 := n0_
 have HO1524 := n1_
 have BK1513 := n2_
 have BK1514 := n3_
 have BK1515 := n4_
 have BK1526 := n5_
 have BK1527 := n6_
 have HB := n7_
 clear n0_ n1_ n2_ n3_ n4_ n5_ n6_ n7_
 replace HO1519 := zA (R_drew HO1519.out)
 replace HO1524 := zA (R_drew HO1524.out)
 replace BK1513 := zA (blk_drew BK1513.out)
 replace BK1514 := zA (blk_drew BK1514.out)
 replace BK1515 := zA (blk_drew BK1515.out)
 replace BK1526 := zA (blk_drew BK1526.out)
 replace BK1527 := zA (blk_drew BK1527.out)
 replace HB := zA (below_drew1 HB.out)
 refine start_ (n := 17) (S := fun w' => z4 w' gb1526 (.bool t1516) (.slice Ao17 t1517.length co17) (.int .i64 t1520) (z3 w' gb1527 (.bool t1521) (.slice Ao21 t1522.length co21) (.int .i64 t1525))) (ds := []) #[false, false, false, false, false, false, false, false, false, false, false, false, false, false, false, false, false] (by kernel_rfl) rfl rfl (za BK1526 (zz BK1527)) (fun hHeld => ?_); refine with_tabW ulpref04_Times.tab2 ulpref04_Times.bits2 (fun HT_ HW_ => ?_)
 generalize w24.drew = w25 at HO1519 HO1524 BK1513 BK1514 BK1515 BK1526 BK1527 HB hHeld ⊢
 refine pure_ (i := 0) (N := some 11) (v := ?_) (a' := ?_) #[true, false, false, false, false, false, false, false, false, false, false, false, false, false, false, false, false] rfl rfl (any_of HT_.out (by kernel_rfl)) (fun _ _ _ h => h) (Or.inl ⟨by rfl, ?_⟩) ?_ ?_
 rotate_left
 ·intro w'
  go_simp
  with_reducible rfl
 rotate_left
 ·exact zq
 refine pure_ (i := 2) (N := some 13) (v := ?_) (a' := ?_) #[true, false, true, false, false, false, false, false, false, false, false, false, false, false, false, false, false] rfl rfl (any_of HT_.out (by kernel_rfl)) (fun _ _ _ h => h) (Or.inl ⟨by rfl, ?_⟩) ?_ ?_
 rotate_left
 ·intro w'
  go_simp
  with_reducible rfl
 rotate_left
 ·exact zq
 refine pure_ (i := 5) (N := some 16) (v := ?_) (a' := ?_) #[true, false, true, false, false, true, false, false, false, false, false, false, false, false, false, false, false] rfl rfl (any_of HT_.out (by kernel_rfl)) (fun _ _ _ h => h) (Or.inl ⟨by rfl, ?_⟩) ?_ ?_
 rotate_left
 ·intro w'
  go_simp
  with_reducible rfl
 rotate_left
 ·exact zq
 refine pure_ (i := 7) (N := some 18) (v := ?_) (a' := ?_) #[true, false, true, false, false, true, false, true, false, false, false, false, false, false, false, false, false] rfl rfl (any_of HT_.out (by kernel_rfl)) (fun _ _ _ h => h) (Or.inl ⟨by rfl, ?_⟩) ?_ ?_
 rotate_left
 ·intro w'
  go_simp
  with_reducible rfl
 rotate_left
 ·exact zq
 refine pure_ (i := 10) (N := some 21) (v := ?_) (a' := ?_) #[true, false, true, false, false, true, false, true, false, false, true, false, false, false, false, false, false] rfl rfl (any_of HT_.out (by kernel_rfl)) (fun _ _ _ h => h) (Or.inl ⟨by rfl, ?_⟩) ?_ ?_
 rotate_left
 ·intro w'
  go_simp
  with_reducible rfl
 rotate_left
 ·exact zq
 refine pure_ (i := 12) (N := some 23) (v := ?_) (a' := ?_) #[true, false, true, false, false, true, false, true, false, false, true, false, true, false, false, false, false] rfl rfl (any_of HT_.out (by kernel_rfl)) (fun _ _ _ h => h) (Or.inl ⟨by rfl, ?_⟩) ?_ ?_
 rotate_left
 ·intro w'
  go_simp
  with_reducible rfl
 rotate_left
 ·exact zq
 refine take_ (i := 1) (N := some 12) (v := ?_) (a' := ?_) #[true, true, true, false, false, true, false, true, false, false, true, false, true, false, false, false, false] rfl rfl (take_ofW HT_.out HW_.out (by kernel_rfl)) (fun _ _ _ h => h) (Or.inl ⟨by rfl, ?_⟩) hHeld ?_ ?_
 rotate_left
 ·rintro w' ⟨s0, s1, s2, s3, s4, s5⟩
  go_simp
  with_reducible rfl
 rotate_left
 ·exact zq
 refine take_ (i := 3) (N := some 14) (v := ?_) (a' := ?_) #[true, true, true, true, false, true, false, true, false, false, true, false, true, false, false, false, false] rfl rfl (take_ofW HT_.out HW_.out (by kernel_rfl)) (fun _ _ _ h => h) (Or.inl ⟨by rfl, ?_⟩) hHeld ?_ ?_
 rotate_left
 ·rintro w' ⟨s0, s1, s2, s3, s4, s5⟩
  go_simp
  with_reducible rfl
 rotate_left
 ·exact zq
 refine pure_ (i := 4) (N := some 15) (v := ?_) (a' := ?_) #[true, true, true, true, true, true, false, true, false, false, true, false, true, false, false, false, false] rfl rfl (any_of HT_.out (by kernel_rfl)) (fun _ _ _ h => h) (Or.inl ⟨by rfl, ?_⟩) ?_ ?_
 rotate_left
 ·intro w'
  go_simp
  with_reducible rfl
 rotate_left
 ·exact zq
 refine take_ (i := 6) (N := some 17) (v := ?_) (a' := ?_) #[true, true, true, true, true, true, true, true, false, false, true, false, true, false, false, false, false] rfl rfl (take_ofW HT_.out HW_.out (by kernel_rfl)) (fun _ _ _ h => h) (Or.inl ⟨by rfl, ?_⟩) hHeld ?_ ?_
 rotate_left
 ·rintro w' ⟨s0, s1, s2, s3, s4, s5⟩
  go_simp
  with_reducible rfl
 rotate_left
 ·exact zq
 refine take_ (i := 8) (N := some 19) (v := ?_) (a' := ?_) #[true, true, true, true, true, true, true, true, true, false, true, false, true, false, false, false, false] rfl rfl (take_ofW HT_.out HW_.out (by kernel_rfl)) (fun _ _ _ h => h) (Or.inl ⟨by rfl, ?_⟩) hHeld ?_ ?_
 rotate_left
 ·rintro w' ⟨s0, s1, s2, s3, s4, s5⟩
  go_simp
  with_reducible rfl
 rotate_left
 ·exact zq
 refine take_ (i := 11) (N := some 22) (v := ?_) (a' := ?_) #[true, true, true, true, true, true, true, true, true, false, true, true, true, false, false, false, false] rfl rfl (take_ofW HT_.out HW_.out (by kernel_rfl)) (fun _ _ _ h => h) (Or.inl ⟨by rfl, ?_⟩) hHeld ?_ ?_
 rotate_left
 ·rintro w' ⟨s0, s1, s2, s3, s4, s5⟩
  go_simp
  with_reducible rfl
 rotate_left
 ·exact zq
 refine take_ (i := 13) (N := some 24) (v := ?_) (a' := ?_) #[true, true, true, true, true, true, true, true, true, false, true, true, true, true, false, false, false] rfl rfl (take_ofW HT_.out HW_.out (by kernel_rfl)) (fun _ _ _ h => h) (Or.inl ⟨by rfl, ?_⟩) hHeld ?_ ?_
 rotate_left
 ·rintro w' ⟨s0, s1, s2, s3, s4, s5⟩
  go_simp
  with_reducible rfl
 rotate_left
 ·exact zq
 refine pure_ (i := 14) (N := some 25) (v := ?_) (a' := ?_) #[true, true, true, true, true, true, true, true, true, false, true, true, true, true, true, false, false] rfl rfl (any_of HT_.out (by kernel_rfl)) (fun _ _ _ h => h) (Or.inl ⟨by rfl, ?_⟩) ?_ ?_
 rotate_left
 ·intro w'
  go_simp
  with_reducible rfl
 rotate_left
 ·exact zq
 refine one_ (i := 9) (N := some 20) #[true, true, true, true, true, true, true, true, true, true, true, true, true, true, true, false, false] rfl rfl (one_of HT_.out (by kernel_rfl)) (by decide) (fun K hK => ?_)
 refine goes_ Tryd.func132 (by kernel_rfl) rfl #[.slice Ao17 t1517.length co17, .slice Ao21 t1522.length co21] (by rfl) rfl rfl ga ?_
 with_reducible refine (ulpref03_Mul.calls k _ _ t1517 _ _ t1522 t1528 _ ?side1 ?side2 ?side3 ?side4 A5.out).mono ?_
 (case side1 => exact zk (R_reads' HO1519.out).2.2)
 (case side2 => exact (R_reads' HO1519.out).2.1)
 (case side3 => exact zk (R_reads' HO1524.out).2.2)
 (case side4 => exact (R_reads' HO1524.out).2.1)
 rintro e w26 ⟨v1529, rfl, ho0, hb⟩
 refine ⟨_, rfl, ?_⟩
 have HO1530 := zA (R_lower (R_new' (R_new' ho0 (R_lt (ru HO1519.out))) (R_lt (ru HO1524.out))) (below_size zs))
 replace HO1519 := zA (R_elder' (ru HO1519.out) (R_base ho0) hb)
 replace HO1524 := zA (R_elder' (ru HO1524.out) (R_base ho0) hb)
 replace BK1513 := zb BK1513 hb
 replace BK1514 := zb BK1514 hb
 replace BK1515 := zb BK1515 hb
 replace BK1526 := zb BK1526 hb
 replace BK1527 := zb BK1527 hb
 replace HB := zf hb
 (try clear hb)
 (try clear hb2)
 (try clear hk)
 (try clear hi)
 (try clear ho0)
 obtain ⟨Ao27, co27, eo27⟩ := R_slice HO1530.out
 (first | subst eo27 | (injection eo27 with f1_ f2_ f3_; have f4_ := f1_.symm; have f5_ := f3_.symm; clear f1_ f2_ f3_; subst f4_; subst f5_))
 refine hK.out _ _ (za BK1526 (zz BK1527)) (fun hHeld => ?_)
 clear hK K
 refine norm_ (a' := ?_) ?_ ?_
 rotate_left
 ·show Act.put _ (some 20) _ = _
  simp only [Act.put, List.setIfInBounds_toArray, List.set_cons_zero, List.set_cons_succ, i64_w, i32_w]
  rfl
 refine one_ (i := 15) (N := some 26) #[true, true, true, true, true, true, true, true, true, true, true, true, true, true, true, true, false] rfl rfl (one_of HT_.out (by kernel_rfl)) (by decide) (fun K hK => ?_)
 refine goes_ Tryd.func76 (by kernel_rfl) rfl #[.bool (t1516 != t1521), .slice Ao27 t1528.length co27, .int .i64 (wrap64 (t1520 + t1525))] (by rfl) rfl rfl ga ?_
 with_reducible refine (ulpref04_Form.calls k (t1516 != t1521) _ _ t1528 (wrap64 (t1520 + t1525)) t1531 t1532 t1535 _ ?side1 ?side2 A6.out).mono ?_
 (case side1 => exact zk (R_reads' HO1530.out).2.2)
 (case side2 => exact (R_reads' HO1530.out).2.1)
 rintro e w28 ⟨v1533, rfl, ho0, hb⟩
 refine ⟨_, rfl, ?_⟩
 have HO1534 := zA (R_lower (R_new' (R_new' (R_new' ho0 (R_lt (ru HO1519.out))) (R_lt (ru HO1524.out))) (R_lt (ru HO1530.out))) (below_size zs))
 replace HO1519 := zA (R_elder' (ru HO1519.out) (R_base ho0) hb)
 replace HO1524 := zA (R_elder' (ru HO1524.out) (R_base ho0) hb)
 replace HO1530 := zA (R_elder' (ru HO1530.out) (R_base ho0) hb)
 replace BK1513 := zb BK1513 hb
 replace BK1514 := zb BK1514 hb
 replace BK1515 := zb BK1515 hb
 replace BK1526 := zb BK1526 hb
 replace BK1527 := zb BK1527 hb
 replace HB := zf hb
 (try clear hb)
 (try clear hb2)
 (try clear hk)
 (try clear hi)
 (try clear ho0)
 obtain ⟨Ao30, co30, eo30⟩ := R_slice HO1534.out
 (first | subst eo30 | (injection eo30 with f1_ f2_ f3_; have f4_ := f1_.symm; have f5_ := f3_.symm; clear f1_ f2_ f3_; subst f4_; subst f5_))
 refine hK.out _ _ (za BK1526 (zz BK1527)) (fun hHeld => ?_)
 clear hK K
 refine norm_ (a' := ?_) ?_ ?_
 rotate_left
 ·show Act.put _ (some 26) _ = _
  simp only [Act.put, List.setIfInBounds_toArray, List.set_cons_zero, List.set_cons_succ, i64_w, i32_w]
  rfl
 refine one_ (i := 16) (N := none) #[true, true, true, true, true, true, true, true, true, true, true, true, true, true, true, true, true] rfl rfl (one_of HT_.out (by kernel_rfl)) (by decide) (fun K hK => ?_)
 have hs29 : w28.cell? ⟨gb1515, 0, none⟩ = some (.bool false) := (blk_cell BK1515.out 0).trans rfl
 have hfs29 := blk_frozen BK1515.out 0
 have hns29_0 := NB1513_1515.out
 have hns29_1 := NB1514_1515.out
 have hns29_3 := NB1526_1515.out
 have hns29_4 := NB1527_1515.out
 have hms29_0 := NB1515_1513.out
 have hms29_1 := NB1515_1514.out
 have hms29_3 := NB1515_1526.out
 have hms29_4 := NB1515_1527.out
 have hs31 : w28.cell? ⟨gb1515, 1, none⟩ = some (.slice none 0 0) := (blk_cell BK1515.out 1).trans rfl
 have hfs31 := blk_frozen BK1515.out 1
 have hns31_0 := NB1513_1515.out
 have hns31_1 := NB1514_1515.out
 have hns31_3 := NB1526_1515.out
 have hns31_4 := NB1527_1515.out
 have hms31_0 := NB1515_1513.out
 have hms31_1 := NB1515_1514.out
 have hms31_3 := NB1515_1526.out
 have hms31_4 := NB1515_1527.out
 have hs32 : w28.cell? ⟨gb1515, 2, none⟩ = some (.int .i64 0) := (blk_cell BK1515.out 2).trans rfl
 have hfs32 := blk_frozen BK1515.out 2
 have hns32_0 := NB1513_1515.out
 have hns32_1 := NB1514_1515.out
 have hns32_3 := NB1526_1515.out
 have hns32_4 := NB1527_1515.out
 have hms32_0 := NB1515_1513.out
 have hms32_1 := NB1515_1514.out
 have hms32_3 := NB1515_1526.out
 have hms32_4 := NB1515_1527.out
 refine skip_ (w1 := ?_) (by rfl) rfl ?_ ?_
 rotate_left
 ·go_simp
  rfl
 refine hK.out _ _ ⟨((cell_far (p := ⟨gb1515, _, none⟩) NB1526_1515.out _).trans (((cell_far (p := ⟨gb1515, _, none⟩) NB1526_1515.out _).trans (((cell_far (p := ⟨gb1515, _, none⟩) NB1526_1515.out _).trans (hHeld.1)))))), ((cell_far (p := ⟨gb1515, _, none⟩) NB1526_1515.out _).trans (((cell_far (p := ⟨gb1515, _, none⟩) NB1526_1515.out _).trans (((cell_far (p := ⟨gb1515, _, none⟩) NB1526_1515.out _).trans (hHeld.2.1)))))), ((cell_far (p := ⟨gb1515, _, none⟩) NB1526_1515.out _).trans (((cell_far (p := ⟨gb1515, _, none⟩) NB1526_1515.out _).trans (((cell_far (p := ⟨gb1515, _, none⟩) NB1526_1515.out _).trans (hHeld.2.2.1)))))), ((cell_far (p := ⟨gb1515, _, none⟩) NB1527_1515.out _).trans (((cell_far (p := ⟨gb1515, _, none⟩) NB1527_1515.out _).trans (((cell_far (p := ⟨gb1515, _, none⟩) NB1527_1515.out _).trans (hHeld.2.2.2.1)))))), ((cell_far (p := ⟨gb1515, _, none⟩) NB1527_1515.out _).trans (((cell_far (p := ⟨gb1515, _, none⟩) NB1527_1515.out _).trans (((cell_far (p := ⟨gb1515, _, none⟩) NB1527_1515.out _).trans (hHeld.2.2.2.2.1)))))), ((cell_far (p := ⟨gb1515, _, none⟩) NB1527_1515.out _).trans (((cell_far (p := ⟨gb1515, _, none⟩) NB1527_1515.out _).trans (((cell_far (p := ⟨gb1515, _, none⟩) NB1527_1515.out _).trans (hHeld.2.2.2.2.2))))))⟩ (fun hHeld => ?_)
 clear hK K
 refine done_ (done_of HT_.out (by kernel_rfl)) ?_
 try go_wp2
 refine bodyPost_ret (results_cell_row rfl _ _ gb1515 25 #[.bool t1531, .slice Ao30 t1532.length co30, .int .i64 t1535] (0, 0) _ rfl (zy BK1515) Tryd.underlying25 rfl (by kernel_rfl)) rfl ?_
 exact ⟨_, er, ru (R_mono (zr gb1515 (R_types HO1534.out BK1515.out (by decide)) (fun _ hk => hk.2) _ _ _) (fun _ hk => trivial)), zs⟩
end Go.Proofs.YtemfckibdojbbaaDoor.PAll
