/- Printed functions, merged by a program of this session. -/
import Derived.Test.YtemfckibdojbbaaDoorXDyadFloatsP0
import Derived.Test.YtemfckibdojbbaaDoorXDyadFloatsP2
import Derived.Test.YtemfckibdojbbaaDoorXDyadFloatsP1
import Derived.Laws.StructEq
import Derived.Test.YtemfckibdojbbaaDoorXDyadFloatsSh
namespace Go.Proofs.YtemfckibdojbbaaDoor.PAll
open Go.RowKit Go.Proofs.YtemfckibdojbbaaDoorW.PrintWords Go.Proofs.YtemfckibdojbbaaDoorW.PrintLast Go.Proofs.YtemfckibdojbbaaDoorW.PrintMore Go.Proofs.YtemfckibdojbbaaDoorW.PrintWords.Kd
attribute [local go_sem] max2_int min2_int max_two min_two max_three min_three max_four min_four   -- for this text's walks alone
set_option linter.unusedVariables false
set_option linter.unusedSimpArgs false
attribute [local go_sem] ext135 ext136
def dyad_room.f (k : Nat) (a0_0 : Bool) (l0_1 : List Int) (a0_2 : Int) : Option (Bool × List Int × Int × Int) := (raw_Fits.f k a0_0 l0_1 a0_2).bind fun t275 => (if t275 = true then (some (a0_0, l0_1, a0_2, 0)) else (some (false, ([] : List Int), 0, 3)))
theorem dyad_room.mono : ∀ a0 a1 a2 k, LeO (dyad_room.f k a0 a1 a2) (dyad_room.f (k + 1) a0 a1 a2) := by
 intro a0 a1 a2 k
 unfold dyad_room.f
 repeat' first
   | (with_reducible exact raw_Fits.mono _ _ _ _)
   | (with_reducible exact LeO.refl _)
   | (with_reducible exact LeO.none _)
   | (with_reducible refine LeO.ite ?_ ?_)
   | (with_reducible refine LeO.bind ?_ (fun _ => ?_))
   | exact raw_Fits.mono _ _ _ _
   | exact LeO.none _
   | refine LeO.ite ?_ ?_
   | refine LeO.bind ?_ (fun _ => ?_)
set_option maxHeartbeats 8000000 in
set_option maxRecDepth 100000 in
theorem dyad_room.calls (k : Nat) (a0_0 : Bool) (P0_1_ : Nat → Prop) (A0_1 : Option Addr) (c0_1 : Nat) (l0_1 : List Int) (a0_2 : Int) (r1 : Bool) (r2 : List Int) (r3 : Int) (r4 : Int) (w : World) (hs0_1 : Kd.V (Kd.int .u64) 43 w w.heap.size (fun k_ => P0_1_ k_) (.slice A0_1 l0_1.length c0_1) l0_1) (h : dyad_room.f k a0_0 l0_1 a0_2 = some (r1, r2, r3, r4)) :
  Calls Tryd.prog 111 #[.agg #[.bool a0_0, .slice A0_1 l0_1.length c0_1, .int .i64 a0_2]] w fun e w' => ∃ v1_ : Value, e = .returned (.tuple #[.agg #[.bool r1, v1_, .int .i64 r3], .int .i64 r4]) ∧ Kd.V (Kd.int .u64) 43 w' w.heap.size (fun k_ => (P0_1_ k_ ∨ w.heap.size ≤ k_)) v1_ r2 ∧ Below w.heap.size w w' := by
 have hu25 := Tryd.underlying25
 have HO0_1 := zA (show Kd.V (Kd.int .u64) 43 w w.heap.size (fun k_ => (P0_1_ k_ ∨ w.heap.size ≤ k_)) (.slice A0_1 l0_1.length c0_1) l0_1 from V_mono hs0_1 (fun k_ hk => .inl hk))
 have HB := zA (Below.refl w.heap.size w)
 have H : ((raw_Fits.f k a0_0 l0_1 a0_2).bind fun t275 => (if t275 = true then (some (a0_0, l0_1, a0_2, 0)) else (some (false, ([] : List Int), 0, 3)))) = some (r1, r2, r3, r4) := h
 clear h
 obtain ⟨t275, A2, H⟩ := zh H
 by_cases c3 : t275 = true
 ·subst c3
  rw [if_pos rfl] at H
  simp only [Option.some.injEq, Prod.mk.injEq] at H
  obtain ⟨rfl, rfl, rfl, rfl⟩ := H
  go_enter Tryd.func111, Tryd.ntmps111
  go_wp2_with (first | ((with_reducible refine zD 1 rfl ?_); refine zn (N := 1) (cs := #[.bool a0_0, .slice A0_1 l0_1.length c0_1, .int .i64 a0_2]) (t := 25) rfl rfl ?_; intro gb273 hg w4 hbox hb; replace HO0_1 := zA (V_below (V_elderB (vu HO0_1.out) gb273 (Nat.le_of_eq hg.symm)) hb); have BK273 := zA (hbox); have GW273 := zw hg; replace HB := ze hb; clear hb hbox hg) | ((with_reducible refine zD 2 rfl ?_); refine zn (N := 2) (cs := #[.bool false, .slice none 0 0, .int .i64 0]) (t := 25) rfl rfl ?_; intro gb274 hg w5 hbox hb; replace HO0_1 := zA (V_below (V_elderB (vu HO0_1.out) gb274 (Nat.le_of_eq hg.symm)) hb); have BK274 := zA (hbox); have GW274 := zx hg; replace HB := zf hb; have NB273_274 := zl BK273 hg; have NB274_273 := zg BK273 hg; replace BK273 := zb BK273 hb; clear hb hbox hg; have hnb6 := NB273_274.out; have hnc6 := NB274_273.out; obtain ⟨_, _, _, _, _, _⟩ := zc BK273) | ((with_reducible refine zG 101 rfl ?_); refine zL (some 5) rfl rfl Tryd.func101 #[.agg #[.bool a0_0, .slice A0_1 l0_1.length c0_1, .int .i64 a0_2]] rfl ?_; (with_reducible refine (raw_Fits.calls k a0_0 _ _ l0_1 a0_2 true _ ?side1 ?side2 A2.out).mono ?_); (case side1 => exact zk (V_reads' HO0_1.out).2.2); (case side2 => exact (V_reads' HO0_1.out).2.1); rintro e w8 ⟨rfl, hb⟩; refine ⟨_, rfl, ?_⟩; replace HO0_1 := zA (V_below (vu HO0_1.out) hb); replace BK273 := zb BK273 hb; replace BK274 := zb BK274 hb; replace HB := zf hb; obtain ⟨hcz9_0, hcz9_1, hcz9_2, hfz9_0, hfz9_1, hfz9_2⟩ := zc BK273; obtain ⟨hcz10_0, hcz10_1, hcz10_2, hfz10_0, hfz10_1, hfz10_2⟩ := zc BK274))
  refine bodyPost_ret (results_ct rfl _ _ gb274 25 #[.bool a0_0, .slice A0_1 l0_1.length c0_1, .int .i64 a0_2] (0, 0) _ rfl (zy BK274) Tryd.underlying25 rfl (by kernel_rfl)) rfl ?_
  exact ⟨_, er, vu (V_mono (zv gb274 (V_mono HO0_1.out (fun k_ hk => (⟨hk, hk.2⟩ : _ ∧ k_ ≠ gb274))) (fun _ hk => hk.2) _ _ _) (fun _ hk => hk.1.1.1)), zs⟩
 replace c3 := Bool.eq_false_iff.mpr c3
 subst c3
 rw [if_neg (show ¬ (false = true) by decide)] at H
 simp only [Option.some.injEq, Prod.mk.injEq] at H
 obtain ⟨rfl, rfl, rfl, rfl⟩ := H
 go_enter Tryd.func111, Tryd.ntmps111
 go_wp2_with (first | ((with_reducible refine zD 1 rfl ?_); refine zn (N := 1) (cs := #[.bool a0_0, .slice A0_1 l0_1.length c0_1, .int .i64 a0_2]) (t := 25) rfl rfl ?_; intro gb273 hg w11 hbox hb; replace HO0_1 := zA (V_below (V_elderB (vu HO0_1.out) gb273 (Nat.le_of_eq hg.symm)) hb); have BK273 := zA (hbox); have GW273 := zw hg; replace HB := ze hb; clear hb hbox hg) | ((with_reducible refine zD 2 rfl ?_); refine zn (N := 2) (cs := #[.bool false, .slice none 0 0, .int .i64 0]) (t := 25) rfl rfl ?_; intro gb274 hg w12 hbox hb; replace HO0_1 := zA (V_below (V_elderB (vu HO0_1.out) gb274 (Nat.le_of_eq hg.symm)) hb); have BK274 := zA (hbox); have GW274 := zx hg; replace HB := zf hb; have NB273_274 := zl BK273 hg; have NB274_273 := zg BK273 hg; replace BK273 := zb BK273 hb; clear hb hbox hg; have hnb13 := NB273_274.out; have hnc13 := NB274_273.out; obtain ⟨_, _, _, _, _, _⟩ := zc BK273) | ((with_reducible refine zG 101 rfl ?_); refine zL (some 5) rfl rfl Tryd.func101 #[.agg #[.bool a0_0, .slice A0_1 l0_1.length c0_1, .int .i64 a0_2]] rfl ?_; (with_reducible refine (raw_Fits.calls k a0_0 _ _ l0_1 a0_2 false _ ?side1 ?side2 A2.out).mono ?_); (case side1 => exact zk (V_reads' HO0_1.out).2.2); (case side2 => exact (V_reads' HO0_1.out).2.1); rintro e w15 ⟨rfl, hb⟩; refine ⟨_, rfl, ?_⟩; replace HO0_1 := zA (V_below (vu HO0_1.out) hb); replace BK273 := zb BK273 hb; replace BK274 := zb BK274 hb; replace HB := zf hb; obtain ⟨hcz16_0, hcz16_1, hcz16_2, hfz16_0, hfz16_1, hfz16_2⟩ := zc BK274))
 refine bodyPost_ret (results_ct rfl _ _ gb274 25 #[.bool false, .slice none 0 0, .int .i64 0] (0, 0) _ rfl (zy BK274) Tryd.underlying25 rfl (by kernel_rfl)) rfl ?_
 exact ⟨_, er, V_nil _ _ _ _ _, zs⟩
section
variable {P : Program} {ops : Array Oper} {Q : Exit → Act → World → Prop}
/-- A call of a function value, as an arm of go_wp2_with. -/
theorem goesV_ {rest : List Oper} {oi : Oper} {a : Act} {w : World} (N : Option Tmp) (hd : oi.dst = N) (hg : oi.guard = none) {f : FuncId} {fn : Func} {op : Operand} {as_ : Array Operand} {ts : Array TypeId} (first cap : Array Value)
  (hop : oi.op = .call { callee := .value op, args := as_, argTypes := ts }) (hv : a.eval op = .func (.func f) first cap)
  (hf : P.funcs[f]? = some fn) (hname : (fn.name == "runtime.NumGoroutine") = false) (hb : fn.body.isSome = true) (args : Array Value)
  (hargs : first ++ as_.map a.eval ++ cap = args)
  (h : Calls P f args w fun e w' => ∃ v, e = .returned v ∧ wpList P ops Q rest (a.put N v) w') : wpList P ops Q (oi :: rest) a w := by
 refine wpList_plain hg fun K hK => ?_
 have he := enters_ hf hname hb args w
 have hrun : (execOp a.eval oi).run P w = .ok (.enter f args) w := by
  unfold execOp
  simp [hop, resolve, Deferred.ofValue, invoke, hv, ← hargs] at he ⊢
  exact he
 unfold Oper.wp
 rw [hrun, Oper.upon_enter]
 refine h.mono fun e w'' hh => ?_
 obtain ⟨v, rfl, hk⟩ := hh
 subst hd
 exact hK _ _ hk
end
/-- of's test: the number is not right. -/
theorem hand_of1 (k : Nat) (s : Bool) (A : Option Addr) (c : Nat) (l : List Int) (e : Int) (r : Bool) (w : World) (hr : Kd.C (Kd.int .u64) w A l.length l) (hc : l.length ≤ c) (h : dyad_number_right.f k s l e = some r) :
  Calls Tryd.prog 110 #[.agg #[.bool s, .slice A l.length c, .int .i64 e]] w fun x w' => x = .returned (.bool (!r)) ∧ Below w.heap.size w w' := by
 have hu64 := Tryd.underlying25
 have HB := zA (Below.refl w.heap.size w)
 have HR := zA hr
 have HC := zA hc
 have HH := zA h
 clear hr hc h
 go_enter Tryd.func110, Tryd.ntmps110
 go_wp2_with (first
  | ((with_reducible refine zD 1 rfl ?_); refine zn (N := 1) (cs := #[.bool s, .slice A l.length c, .int .i64 e]) (t := 25) rfl rfl ?_; intro g hg w1 hbox hb; have n0 := zA (below_step HB.out hb); have n1 := zA hbox; have n2 := zA (C_below HR.out hb); clear HB hb hg HR; have HB := n0; have BK := n1; have HR := n2; clear n0 n1 n2; have hc0 := (blk_cell hbox 0).trans rfl; have hc1 := (blk_cell hbox 1).trans rfl; have hc2 := (blk_cell hbox 2).trans rfl; have hf0 := blk_frozen hbox 0; have hf1 := blk_frozen hbox 1; have hf2 := blk_frozen hbox 2; clear hbox)
  | ((with_reducible refine zG 72 rfl ?_); refine goesL_ (some 4) rfl rfl Tryd.func72 (by kernel_rfl) rfl #[.agg #[.bool s, .slice A l.length c, .int .i64 e]] rfl (by (try simp only [List.map_toArray, List.map_cons, List.map_nil]); first | done | rfl) ?_; refine (dyad_number_right.calls k s _ _ l e r _ HR.out HC.out HH.out).mono ?_; rintro e w5 ⟨rfl, hb⟩; refine ⟨_, rfl, ?_⟩; have n1 := zA (below_step HB.out hb); clear HB hb; have HB := n1; clear n1))
 go_ret
 exact ⟨rfl, HB.out⟩
set_option maxRecDepth 100000 in
/-- slices.IndexFunc of one number. -/
theorem hand_index1 (k : Nat) (g : Nat) (s : Bool) (A : Option Addr) (c : Nat) (l : List Int) (e : Int) (r : Bool) (w : World) (hb0 : w.heap[g]? = some (.cells #[.bool s, .slice A l.length c, .int .i64 e] 25 (0, 0))) (hr : Kd.C (Kd.int .u64) w A l.length l) (hc : l.length ≤ c) (h : dyad_number_right.f k s l e = some r) :
  Calls Tryd.prog 133 #[.slice (some ⟨g, 0, none⟩) 1 1, .func (.func 110) #[] #[]] w fun x w' => x = .returned (.int .i64 (if r then -1 else 0)) ∧ Below w.heap.size w w' := by
 have hu25 := Tryd.underlying25
 have HB := zA (Below.refl w.heap.size w)
 have HR := zA hr
 have HC := zA hc
 have HH := zA h
 have hc0 := (blk_cell hb0 0).trans rfl; have hc1 := (blk_cell hb0 1).trans rfl; have hc2 := (blk_cell hb0 2).trans rfl; have hf0 := blk_frozen hb0 0; have hf1 := blk_frozen hb0 1; have hf2 := blk_frozen hb0 2
 have BK := zA hb0
 clear hr hc h hb0
 go_enter Tryd.func133, Tryd.ntmps133
 go_wp2
 refine wp_loop_rounds 2 ?_
 rw [rounds_succ]
 cases r
 ·go_wp2_with (refine goesV_ (some 16) rfl rfl #[] #[] rfl rfl Tryd.func110 (by kernel_rfl) rfl #[.agg #[.bool s, .slice A l.length c, .int .i64 e]] (by (try simp only [List.map_toArray, List.map_cons, List.map_nil]); first | done | rfl) ?_; refine (hand_of1 k s _ _ l e _ _ (C_below HR.out HB.out) HC.out HH.out).mono ?_; rintro e w5 ⟨rfl, hb⟩; refine ⟨_, rfl, ?_⟩; have n0 := zA (blk_below BK.out hb); have n1 := zA (below_step HB.out hb); clear HB hb BK; have HB := n1; have BK := n0; clear n0 n1)
  go_ret
  exact ⟨rfl, HB.out⟩
 go_wp2_with (refine goesV_ (some 16) rfl rfl #[] #[] rfl rfl Tryd.func110 (by kernel_rfl) rfl #[.agg #[.bool s, .slice A l.length c, .int .i64 e]] (by (try simp only [List.map_toArray, List.map_cons, List.map_nil]); first | done | rfl) ?_; refine (hand_of1 k s _ _ l e _ _ (C_below HR.out HB.out) HC.out HH.out).mono ?_; rintro e w5 ⟨rfl, hb⟩; refine ⟨_, rfl, ?_⟩; have n0 := zA (blk_below BK.out hb); have n1 := zA (below_step HB.out hb); clear HB hb BK; have HB := n1; have BK := n0; clear n0 n1)
 rw [rounds_succ]
 go_wp2
 go_ret
 exact ⟨rfl, HB.out⟩
set_option maxRecDepth 100000 in
/-- slices.IndexFunc of two numbers. -/
theorem hand_index2 (k : Nat) (g : Nat) (s : Bool) (A : Option Addr) (c : Nat) (l : List Int) (e : Int) (s2 : Bool) (A2 : Option Addr) (c2 : Nat) (l2 : List Int) (e2 : Int) (r r2 : Bool) (w : World) (hb0 : w.heap[g]? = some (.cells #[.bool s, .slice A l.length c, .int .i64 e, .bool s2, .slice A2 l2.length c2, .int .i64 e2] 25 (0, 0))) (hr : Kd.C (Kd.int .u64) w A l.length l) (hc : l.length ≤ c) (hr2 : Kd.C (Kd.int .u64) w A2 l2.length l2) (hc2 : l2.length ≤ c2) (h : dyad_number_right.f k s l e = some r) (h2 : r = true → dyad_number_right.f k s2 l2 e2 = some r2) :
  Calls Tryd.prog 133 #[.slice (some ⟨g, 0, none⟩) 2 2, .func (.func 110) #[] #[]] w fun x w' => x = .returned (.int .i64 (if r then (if r2 then -1 else 1) else 0)) ∧ Below w.heap.size w w' := by
 have hu25 := Tryd.underlying25
 have HB := zA (Below.refl w.heap.size w)
 have HR := zA hr
 have HC := zA hc
 have HH := zA h
 have HR2 := zA hr2
 have HC2 := zA hc2
 have HH2 := zA h2
 have BK := zA hb0
 clear hr hc h hr2 hc2 h2 hb0
 have hc0 := (blk_cell BK.out 0).trans rfl; have hf0 := blk_frozen BK.out 0; have hc1 := (blk_cell BK.out 1).trans rfl; have hf1 := blk_frozen BK.out 1; have hc2 := (blk_cell BK.out 2).trans rfl; have hf2 := blk_frozen BK.out 2; have hc3 := (blk_cell BK.out 3).trans rfl; have hf3 := blk_frozen BK.out 3; have hc4 := (blk_cell BK.out 4).trans rfl; have hf4 := blk_frozen BK.out 4; have hc5 := (blk_cell BK.out 5).trans rfl; have hf5 := blk_frozen BK.out 5
 go_enter Tryd.func133, Tryd.ntmps133
 go_wp2
 refine wp_loop_rounds 3 ?_
 rw [rounds_succ]
 cases r
 ·go_wp2_with (refine goesV_ (some 16) rfl rfl #[] #[] rfl rfl Tryd.func110 (by kernel_rfl) rfl #[.agg #[.bool s, .slice A l.length c, .int .i64 e]] (by (try simp only [List.map_toArray, List.map_cons, List.map_nil]); first | done | rfl) ?_; refine (hand_of1 k s _ _ l e _ _ (C_below HR.out HB.out) HC.out HH.out).mono ?_; rintro e w5 ⟨rfl, hb⟩; refine ⟨_, rfl, ?_⟩; have n0 := zA (blk_below BK.out hb); have n1 := zA (below_step HB.out hb); clear HB hb BK; have HB := n1; have BK := n0; clear n0 n1)
  go_ret
  exact ⟨rfl, HB.out⟩
 go_wp2_with (refine goesV_ (some 16) rfl rfl #[] #[] rfl rfl Tryd.func110 (by kernel_rfl) rfl #[.agg #[.bool s, .slice A l.length c, .int .i64 e]] (by (try simp only [List.map_toArray, List.map_cons, List.map_nil]); first | done | rfl) ?_; refine (hand_of1 k s _ _ l e _ _ (C_below HR.out HB.out) HC.out HH.out).mono ?_; rintro e w5 ⟨rfl, hb⟩; refine ⟨_, rfl, ?_⟩; have n0 := zA (blk_below BK.out hb); have n1 := zA (below_step HB.out hb); clear HB hb BK; have HB := n1; have BK := n0; clear n0 n1; have hc0 := (blk_cell BK.out 0).trans rfl; have hf0 := blk_frozen BK.out 0; have hc1 := (blk_cell BK.out 1).trans rfl; have hf1 := blk_frozen BK.out 1; have hc2 := (blk_cell BK.out 2).trans rfl; have hf2 := blk_frozen BK.out 2; have hc3 := (blk_cell BK.out 3).trans rfl; have hf3 := blk_frozen BK.out 3; have hc4 := (blk_cell BK.out 4).trans rfl; have hf4 := blk_frozen BK.out 4; have hc5 := (blk_cell BK.out 5).trans rfl; have hf5 := blk_frozen BK.out 5)
 rw [rounds_succ]
 have HH3 := zA (HH2.out (by simp))
 cases r2
 ·go_wp2_with (refine goesV_ (some 16) rfl rfl #[] #[] rfl rfl Tryd.func110 (by kernel_rfl) rfl #[.agg #[.bool s2, .slice A2 l2.length c2, .int .i64 e2]] (by (try simp only [List.map_toArray, List.map_cons, List.map_nil]); first | done | rfl) ?_; refine (hand_of1 k s2 _ _ l2 e2 _ _ (C_below HR2.out HB.out) HC2.out HH3.out).mono ?_; rintro e w5 ⟨rfl, hb⟩; refine ⟨_, rfl, ?_⟩; have n0 := zA (blk_below BK.out hb); have n1 := zA (below_step HB.out hb); clear HB hb BK; have HB := n1; have BK := n0; clear n0 n1)
  go_ret
  exact ⟨rfl, HB.out⟩
 go_wp2_with (refine goesV_ (some 16) rfl rfl #[] #[] rfl rfl Tryd.func110 (by kernel_rfl) rfl #[.agg #[.bool s2, .slice A2 l2.length c2, .int .i64 e2]] (by (try simp only [List.map_toArray, List.map_cons, List.map_nil]); first | done | rfl) ?_; refine (hand_of1 k s2 _ _ l2 e2 _ _ (C_below HR2.out HB.out) HC2.out HH3.out).mono ?_; rintro e w5 ⟨rfl, hb⟩; refine ⟨_, rfl, ?_⟩; have n0 := zA (blk_below BK.out hb); have n1 := zA (below_step HB.out hb); clear HB hb BK; have HB := n1; have BK := n0; clear n0 n1)
 rw [rounds_succ]
 go_wp2
 go_ret
 exact ⟨rfl, HB.out⟩
set_option maxRecDepth 100000 in
/-- slices.ContainsFunc, by what IndexFunc answers. -/
theorem hand_contains (sl : Value) (i : Int) (w : World) (h : Calls Tryd.prog 133 #[sl, .func (.func 110) #[] #[]] w fun x w' => x = .returned (.int .i64 i) ∧ Below w.heap.size w w') :
  Calls Tryd.prog 109 #[sl, .func (.func 110) #[] #[]] w fun x w' => x = .returned (.bool (decide (0 ≤ i))) ∧ Below w.heap.size w w' := by
 have HH := zA h
 clear h
 go_enter Tryd.func109, Tryd.ntmps109
 go_wp2_with ((with_reducible refine zG 133 rfl ?_); refine goesL_ (some 7) rfl rfl Tryd.func133 (by kernel_rfl) rfl #[sl, .func (.func 110) #[] #[]] rfl (by (try simp only [List.map_toArray, List.map_cons, List.map_nil]); first | done | rfl) ?_; refine HH.out.mono ?_; rintro e w5 ⟨rfl, hb⟩; refine ⟨_, rfl, ?_⟩; have HB := zA hb; clear hb)
 go_ret
 exact ⟨by simp, HB.out⟩
set_option maxRecDepth 100000 in
/-- of: room for what a function makes, where no number is wrong. -/
theorem hand_of (k : Nat) (sl : Value) (r : Bool) (fv : FuncId) (fn : Func) (first cap : Array Value) (hf : Tryd.prog.funcs[fv]? = some fn) (hname : (fn.name == "runtime.NumGoroutine") = false) (hbody : fn.body.isSome = true)
  (s1 : Bool) (l1 : List Int) (e1 : Int) (r1 : Bool) (r2 : List Int) (r3 r4 : Int) (ok : Nat → Prop) (w : World)
  (hc : ∀ w1, Below w.heap.size w w1 → Calls Tryd.prog 109 #[sl, .func (.func 110) #[] #[]] w1 fun x w2 => x = .returned (.bool (!r)) ∧ Below w1.heap.size w1 w2)
  (hm : r = true → ∀ w1, Below w.heap.size w w1 → Calls Tryd.prog fv (first ++ cap) w1 fun x w2 => ∃ v, x = .returned (.agg #[.bool s1, v, .int .i64 e1]) ∧ Kd.V (Kd.int .u64) 43 w2 w1.heap.size (fun k_ => ok k_ ∨ w1.heap.size ≤ k_) v l1 ∧ Below w1.heap.size w1 w2)
  (hroom : r = true → dyad_room.f k s1 l1 e1 = some (r1, r2, r3, r4))
  (hok : ∀ k_, ok k_ → k_ < w.heap.size) (hbad : r = false → (r1, r2, r3, r4) = (false, [], 0, 2)) :
  Calls Tryd.prog 60 #[.func (.func fv) first cap, sl] w fun x w' => ∃ v1_ : Value, x = .returned (.tuple #[.agg #[.bool r1, v1_, .int .i64 r3], .int .i64 r4]) ∧ Kd.V (Kd.int .u64) 43 w' w.heap.size (fun k_ => ok k_ ∨ w.heap.size ≤ k_) v1_ r2 ∧ Below w.heap.size w w' := by
 have hu25 := Tryd.underlying25
 have HB := zA (Below.refl w.heap.size w)
 have Hc := zA hc
 have Hm := zA hm
 have Hroom := zA hroom
 have Hbad := zA hbad
 have Hf := zA hf
 clear hc hm hroom hbad hf
 go_enter Tryd.func60, Tryd.ntmps60
 cases r
 ·have Hb := Hbad.out rfl
  simp only [Prod.mk.injEq] at Hb
  obtain ⟨rfl, rfl, rfl, rfl⟩ := Hb
  go_wp2_with (first | ((with_reducible refine zD 4 rfl ?_); refine zn (N := 4) (cs := #[.bool false, .slice none 0 0, .int .i64 0]) (t := 25) rfl rfl ?_; intro g hg w1 hbox hb; have GE := zA (hg ▸ Nat.le_refl _ : w.heap.size ≤ g); have n0 := zA (below_step HB.out hb); have n1 := zA hbox; clear HB hb hbox hg; have HB := n0; have BK := n1; clear n0 n1) | ((with_reducible refine zG 109 rfl ?_); refine goesL_ (some 7) rfl rfl Tryd.func109 (by kernel_rfl) rfl #[sl, .func (.func 110) #[] #[]] rfl (by (try simp only [List.map_toArray, List.map_cons, List.map_nil]); first | done | rfl) ?_; refine (Hc.out _ HB.out).mono ?_; rintro e w5 ⟨rfl, hb⟩; refine ⟨_, rfl, ?_⟩; have n0 := zA (blk_below BK.out hb); have n1 := zA (below_step HB.out hb); clear HB hb BK; have HB := n1; have BK := n0; clear n0 n1; have hc0 := (blk_cell BK.out 0).trans rfl; have hf0 := blk_frozen BK.out 0; have hc1 := (blk_cell BK.out 1).trans rfl; have hf1 := blk_frozen BK.out 1; have hc2 := (blk_cell BK.out 2).trans rfl; have hf2 := blk_frozen BK.out 2))
  refine bodyPost_ret (results_ct rfl _ _ g 25 #[.bool false, .slice none 0 0, .int .i64 0] (0, 0) _ rfl (by refine blk_put (cs := #[.bool false, .slice none 0 0, .int .i64 0]) ?_ 2 _ rfl; refine blk_put (cs := #[.bool false, .slice none 0 0, .int .i64 0]) ?_ 1 _ rfl; refine blk_put (cs := #[.bool false, .slice none 0 0, .int .i64 0]) ?_ 0 _ rfl; exact BK.out) Tryd.underlying25 rfl (by kernel_rfl)) rfl ?_
  exact ⟨_, rfl, V_nil _ _ _ _ _, below_set (below_set (below_set HB.out GE.out) GE.out) GE.out⟩
 go_wp2_with (first | ((with_reducible refine zD 4 rfl ?_); refine zn (N := 4) (cs := #[.bool false, .slice none 0 0, .int .i64 0]) (t := 25) rfl rfl ?_; intro g hg w1 hbox hb; have GE := zA (hg ▸ Nat.le_refl _ : w.heap.size ≤ g); have n0 := zA (below_step HB.out hb); have n1 := zA hbox; clear HB hb hbox hg; have HB := n0; have BK := n1; clear n0 n1) | ((with_reducible refine zG 109 rfl ?_); refine goesL_ (some 7) rfl rfl Tryd.func109 (by kernel_rfl) rfl #[sl, .func (.func 110) #[] #[]] rfl (by (try simp only [List.map_toArray, List.map_cons, List.map_nil]); first | done | rfl) ?_; refine (Hc.out _ HB.out).mono ?_; rintro e w5 ⟨rfl, hb⟩; refine ⟨_, rfl, ?_⟩; have n0 := zA (blk_below BK.out hb); have n1 := zA (below_step HB.out hb); clear HB hb BK; have HB := n1; have BK := n0; clear n0 n1; have hc0 := (blk_cell BK.out 0).trans rfl; have hf0 := blk_frozen BK.out 0; have hc1 := (blk_cell BK.out 1).trans rfl; have hf1 := blk_frozen BK.out 1; have hc2 := (blk_cell BK.out 2).trans rfl; have hf2 := blk_frozen BK.out 2) | ((with_reducible refine zD 10 rfl ?_); refine goesV_ (some 10) rfl rfl first cap rfl rfl Hf.out hname hbody (first ++ cap) (by simp) ?_; refine (Hm.out rfl _ HB.out).mono ?_; rintro e w6 ⟨v6, rfl, hv, hb⟩; obtain ⟨A6, c6, rfl⟩ := V_slice hv; refine ⟨_, rfl, ?_⟩; have LT := zA (blk_lt BK.out); have HV := zA hv; have n0 := zA (blk_below BK.out hb); have n1 := zA (below_step HB.out hb); have LE := zA hb.size; clear HB hb BK hv; have HB := n1; have BK := n0; clear n0 n1) | ((with_reducible refine zG 111 rfl ?_); refine goesL_ (some 11) rfl rfl Tryd.func111 (by kernel_rfl) rfl #[.agg #[.bool s1, .slice A6 l1.length c6, .int .i64 e1]] rfl (by (try simp only [List.map_toArray, List.map_cons, List.map_nil]); first | done | rfl) ?_; refine (dyad_room.calls k s1 _ _ _ l1 e1 r1 r2 r3 r4 _ HV.out (Hroom.out rfl)).mono ?_; rintro e w7 ⟨v7, rfl, hv, hb⟩; obtain ⟨A7, c7, rfl⟩ := V_slice hv; refine ⟨_, rfl, ?_⟩; have HV7 := zA (V_mono hv (ok' := fun k_ => (ok k_ ∨ w.heap.size ≤ k_) ∧ k_ ≠ g) (fun k_ hk => by { have h1 := LT.out; have h2 := LE.out; have h3 := GE.out; rcases hk with (hk | hk) | hk; (exact ⟨.inl hk, fun e => by { subst e; exact absurd (hok _ hk) (Nat.not_lt.mpr h3) }⟩); (exact ⟨.inr (by omega), by omega⟩); (exact ⟨.inr (by omega), by omega⟩) })); have n0 := zA (blk_below BK.out hb); have n1 := zA (below_step HB.out hb); clear HB hb BK hv HV; have HB := n1; have BK := n0; clear n0 n1; have hc0 := (blk_cell BK.out 0).trans rfl; have hf0 := blk_frozen BK.out 0; have hc1 := (blk_cell BK.out 1).trans rfl; have hf1 := blk_frozen BK.out 1; have hc2 := (blk_cell BK.out 2).trans rfl; have hf2 := blk_frozen BK.out 2))
 refine bodyPost_ret (results_ct rfl _ _ g 25 #[.bool r1, .slice A7 r2.length c7, .int .i64 r3] (0, 0) _ rfl (by refine blk_put (cs := #[.bool r1, .slice A7 r2.length c7, .int .i64 0]) ?_ 2 _ rfl; refine blk_put (cs := #[.bool r1, .slice none 0 0, .int .i64 0]) ?_ 1 _ rfl; refine blk_put (cs := #[.bool false, .slice none 0 0, .int .i64 0]) ?_ 0 _ rfl; exact BK.out) Tryd.underlying25 rfl (by kernel_rfl)) rfl ?_
 exact ⟨_, rfl, V_mono (V_far (p := ⟨g, 2, none⟩) (V_far (p := ⟨g, 1, none⟩) (V_far (p := ⟨g, 0, none⟩) HV7.out (fun _ hk => hk.2) (.bool r1)) (fun _ hk => hk.2) (.slice A7 r2.length c7)) (fun _ hk => hk.2) (.int .i64 r3)) (fun _ hk => hk.1), below_set (below_set (below_set HB.out GE.out) GE.out) GE.out⟩
theorem hand_slice_event {P : Program} {ops : Array Oper} {rest : List Oper} {o : Oper} {a : Act} {Q : Exit → Act → World → Prop} {W : World} {n : Nat} (hgd : o.guard = none) {N : Tmp} (_hd : o.dst = some N) {cs : Array Value} {t : TypeId}
  (hrun : (execOp a.eval o).run P W = .ok (.value (.slice (some ⟨W.heap.size, 0, none⟩) n n)) (W.alloc (.cells cs t (0, 0))))
  (h : ∀ g, g = W.heap.size → ∀ w1, w1.heap[g]? = some (.cells cs t (0, 0)) → Below W.heap.size W w1 → wpList P ops Q rest (a.put o.dst (.slice (some ⟨g, 0, none⟩) n n)) w1) : wpList P ops Q (o :: rest) a W :=
 Kd.event_run hgd hrun (h _ rfl _ (blk_new W _) (below_alloc (Below.refl _ _) _))
def raw_Zero.f (k : Nat) (a0_0 : Bool) (l0_1 : List Int) (a0_2 : Int) : Option (Bool) := (limbs_Trim.f k l0_1).bind fun t113 => (some ((t113.length : Int) == 0))
theorem raw_Zero.mono : ∀ a0 a1 a2 k, LeO (raw_Zero.f k a0 a1 a2) (raw_Zero.f (k + 1) a0 a1 a2) := by
 intro a0 a1 a2 k
 unfold raw_Zero.f
 repeat' first
   | (with_reducible exact limbs_Trim.mono _ _)
   | (with_reducible exact LeO.refl _)
   | (with_reducible exact LeO.none _)
   | (with_reducible refine LeO.ite ?_ ?_)
   | (with_reducible refine LeO.bind ?_ (fun _ => ?_))
   | exact limbs_Trim.mono _ _
   | exact LeO.none _
   | refine LeO.ite ?_ ?_
   | refine LeO.bind ?_ (fun _ => ?_)
set_option maxHeartbeats 8000000 in
set_option maxRecDepth 100000 in
theorem raw_Zero.calls (k : Nat) (a0_0 : Bool) (A0_1 : Option Addr) (c0_1 : Nat) (l0_1 : List Int) (a0_2 : Int) (r : Bool) (w : World) (hr0_1 : Kd.C (Kd.int .u64) w A0_1 l0_1.length l0_1) (hc0_1 : l0_1.length ≤ c0_1) (h : raw_Zero.f k a0_0 l0_1 a0_2 = some r) :
  Calls Tryd.prog 73 #[.agg #[.bool a0_0, .slice A0_1 l0_1.length c0_1, .int .i64 a0_2]] w fun e w' => e = .returned (.bool r) ∧ Below w.heap.size w w' := by
 have hu25 := Tryd.underlying25
 have HR0_1 := zA hr0_1
 have HC0_1 := zA hc0_1
 clear hr0_1 hc0_1
 have HB := zA (Below.refl w.heap.size w)
 have H : ((limbs_Trim.f k l0_1).bind fun t113 => (some ((t113.length : Int) == 0))) = some r := h
 clear h
 obtain ⟨t113, A2, H⟩ := zh H
 obtain rfl := Option.some.inj H
 go_enter Tryd.func73, Tryd.ntmps73
 go_wp2_with (first | ((with_reducible refine zD 1 rfl ?_); refine zn (N := 1) (cs := #[.bool a0_0, .slice A0_1 l0_1.length c0_1, .int .i64 a0_2]) (t := 25) rfl rfl ?_; intro gb112 hg w3 hbox hb; have BK112 := zA (hbox); have GW112 := zw hg; replace HB := ze hb; clear hb hbox hg; obtain ⟨_, _, _, _, _, _⟩ := zc BK112) | ((with_reducible refine zG 122 rfl ?_); refine zL (some 5) rfl rfl Tryd.func122 #[.slice A0_1 l0_1.length c0_1] rfl ?_; (with_reducible refine (limbs_Trim.calls k (fun k_ => k_ < w.heap.size) _ _ l0_1 t113 _ ?side1 A2.out).mono ?_); (case side1 => exact V_mk HC0_1.out (Kd.F_below (C_F (Kd.heap_int .u64) HR0_1.out) zs)); rintro e w5 ⟨v114, rfl, ho0, hb⟩; refine ⟨_, rfl, ?_⟩; have HO115 := zA (V_lower (V_mono (ok' := fun k_ => k_ ≠ gb112) ho0 (fun k_ hk_ => Or.elim hk_ (fun hs_ => fun e_ => Nat.not_le.2 hs_ (by rw [e_]; exact GW112.out)) (fun hn_ => (zj BK112 k_ hn_)))) (below_size zs)); replace BK112 := zb BK112 hb; replace HB := zf hb; (try clear ho0); obtain ⟨Ao6, co6, eo6⟩ := V_slice HO115.out; subst eo6))
 go_ret
 exact ⟨er, zs⟩
def raw_One.f (k : Nat) (a0_0 : Bool) (l0_1 : List Int) (a0_2 : Int) : Option (Bool × List Int × Int) := (raw_Form.f k a0_0 l0_1 a0_2).bind fun bt149 => (some (bt149.1, bt149.2.1, bt149.2.2))
theorem raw_One.mono : ∀ a0 a1 a2 k, LeO (raw_One.f k a0 a1 a2) (raw_One.f (k + 1) a0 a1 a2) := by
 intro a0 a1 a2 k
 unfold raw_One.f
 repeat' first
   | (with_reducible exact raw_Form.mono _ _ _ _)
   | (with_reducible exact LeO.refl _)
   | (with_reducible exact LeO.none _)
   | (with_reducible refine LeO.ite ?_ ?_)
   | (with_reducible refine LeO.bind ?_ (fun _ => ?_))
   | exact raw_Form.mono _ _ _ _
   | exact LeO.none _
   | refine LeO.ite ?_ ?_
   | refine LeO.bind ?_ (fun _ => ?_)
set_option maxHeartbeats 8000000 in
set_option maxRecDepth 100000 in
theorem raw_One.calls (k : Nat) (a0_0 : Bool) (P0_1_ : Nat → Prop) (A0_1 : Option Addr) (c0_1 : Nat) (l0_1 : List Int) (a0_2 : Int) (r1 : Bool) (r2 : List Int) (r3 : Int) (w : World) (hs0_1 : Kd.V (Kd.int .u64) 43 w w.heap.size (fun k_ => P0_1_ k_) (.slice A0_1 l0_1.length c0_1) l0_1) (hT : Laid w) (h : raw_One.f k a0_0 l0_1 a0_2 = some (r1, r2, r3)) :
  Calls Tryd.prog 95 #[.agg #[.bool a0_0, .slice A0_1 l0_1.length c0_1, .int .i64 a0_2]] w fun e w' => ∃ v1_ : Value, e = .returned (.agg #[.bool r1, v1_, .int .i64 r3]) ∧ Kd.V (Kd.int .u64) 43 w' w.heap.size (fun k_ => (P0_1_ k_ ∨ w.heap.size ≤ k_)) v1_ r2 ∧ Below w.heap.size w w' := by
 have hu25 := Tryd.underlying25
 have HO0_1 := zA (show Kd.V (Kd.int .u64) 43 w w.heap.size (fun k_ => (P0_1_ k_ ∨ w.heap.size ≤ k_)) (.slice A0_1 l0_1.length c0_1) l0_1 from V_mono hs0_1 (fun k_ hk => .inl hk))
 have HB := zA (Below.refl w.heap.size w)
 have H : ((raw_Form.f k a0_0 l0_1 a0_2).bind fun bt149 => (some (bt149.1, bt149.2.1, bt149.2.2))) = some (r1, r2, r3) := h
 clear h
 obtain ⟨⟨t149, t150, t153⟩, A2, H⟩ := zh H
 (try dsimp only at H)
 simp only [Option.some.injEq, Prod.mk.injEq] at H
 obtain ⟨rfl, rfl, rfl⟩ := H
 go_enter Tryd.func95, Tryd.ntmps95
 go_wp2_with (first | ((with_reducible refine zD 1 rfl ?_); refine zn (N := 1) (cs := #[.bool a0_0, .slice A0_1 l0_1.length c0_1, .int .i64 a0_2]) (t := 25) rfl rfl ?_; intro gb147 hg w3 hbox hb; replace HO0_1 := zA (V_below (V_elderB (vu HO0_1.out) gb147 (Nat.le_of_eq hg.symm)) hb); have BK147 := zA (hbox); have GW147 := zw hg; replace HB := ze hb; clear hb hbox hg) | ((with_reducible refine zD 2 rfl ?_); refine zn (N := 2) (cs := #[.bool false, .slice none 0 0, .int .i64 0]) (t := 25) rfl rfl ?_; intro gb148 hg w4 hbox hb; replace HO0_1 := zA (V_below (V_elderB (vu HO0_1.out) gb148 (Nat.le_of_eq hg.symm)) hb); have BK148 := zA (hbox); have GW148 := zx hg; replace HB := zf hb; have NB147_148 := zl BK147 hg; have NB148_147 := zg BK147 hg; replace BK147 := zb BK147 hb; clear hb hbox hg; have hnb5 := NB147_148.out; have hnc5 := NB148_147.out; obtain ⟨_, _, _, _, _, _⟩ := zc BK147) | ((with_reducible refine zG 91 rfl ?_); refine zL (some 9) rfl rfl Tryd.func91 #[.bool a0_0, .slice A0_1 l0_1.length c0_1, .int .i64 a0_2] rfl ?_; (with_reducible refine (raw_Form.calls k a0_0 (fun k_ => (((P0_1_ k_ ∨ w.heap.size ≤ k_) ∧ k_ ≠ gb147) ∧ k_ ≠ gb148)) _ _ l0_1 a0_2 t149 t150 t153 _ ?side1 (laid_below hT zs) A2.out).mono ?_); (case side1 => exact HO0_1.out); rintro e w7 ⟨v151, rfl, ho0, hb⟩; refine ⟨_, rfl, ?_⟩; replace HO0_1 := zA (V_below (vu HO0_1.out) hb); have HO152 := zA (V_lower (V_mono (ok' := fun k_ => (P0_1_ k_ ∨ w.heap.size ≤ k_) ∧ k_ ≠ gb147 ∧ k_ ≠ gb148) ho0 (fun k_ hk_ => ⟨Or.elim hk_ (fun hs_ => hs_.1.1) (fun hn_ => (.inr (Nat.le_trans (below_size zs) hn_))), Or.elim hk_ (fun hs_ => hs_.1.2) (fun hn_ => (zj BK147 k_ hn_)), Or.elim hk_ (fun hs_ => hs_.2) (fun hn_ => (zj BK148 k_ hn_))⟩)) (below_size zs)); replace BK147 := zb BK147 hb; replace BK148 := zb BK148 hb; replace HB := zf hb; (try clear ho0); obtain ⟨hcz8_0, hcz8_1, hcz8_2, hfz8_0, hfz8_1, hfz8_2⟩ := zc BK148; obtain ⟨Ao9, co9, eo9⟩ := V_slice HO152.out; subst eo9))
 refine bodyPost_ret (results_cell_row rfl _ _ gb148 25 #[.bool t149, .slice Ao9 t150.length co9, .int .i64 t153] (0, 0) _ rfl (zy BK148) Tryd.underlying25 rfl (by kernel_rfl)) rfl ?_
 exact ⟨_, er, vu (V_mono (zv gb148 (V_mono HO152.out (fun k_ hk => (⟨hk, hk.2.2⟩ : _ ∧ k_ ≠ gb148))) (fun _ hk => hk.2) _ _ _) (fun _ hk => hk.1.1)), zs⟩
end Go.Proofs.YtemfckibdojbbaaDoor.PAll
