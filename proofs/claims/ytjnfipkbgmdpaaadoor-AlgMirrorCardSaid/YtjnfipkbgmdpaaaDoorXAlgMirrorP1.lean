/- Printed functions, merged by a program of this session. -/
import Derived.Test.YtjnfipkbgmdpaaaDoorXAlgMirrorP0
import Derived.Test.YtjnfipkbgmdpaaaDoorXAlgMirrorSh
namespace Go.Proofs.YtjnfipkbgmdpaaaDoor.PAll
open Go.RowKit Go.Proofs.YtjnfipkbgmdpaaaDoorW.PrintWords Go.Proofs.YtjnfipkbgmdpaaaDoorW.PrintLast Go.Proofs.YtjnfipkbgmdpaaaDoorW.PrintMore Go.Proofs.YtjnfipkbgmdpaaaDoorW.PrintWords.Kd
attribute [local go_sem] max2_int min2_int max_two min_two max_three min_three max_four min_four   -- for this text's walks alone
set_option linter.unusedVariables false
set_option linter.unusedSimpArgs false
attribute [local go_sem] ext75 ext76
def bits_Abs.f (a0 : Int) : Option (Int) := (bits_amount.f a0).bind fun a1 => (some a1)
set_option maxHeartbeats 8000000 in
set_option maxRecDepth 100000 in
theorem bits_Abs.calls (a0 : Int) (r : Int) (w : World) (h : bits_Abs.f a0 = some r) :
  Calls Tryd.prog 11 #[.int .u64 a0] w fun e w' => e = .returned (.int .u64 r) ∧ Drawn0 w w' := by
 have H := h
 unfold bits_Abs.f at H
 clear h;obtain ⟨a1, A2, H⟩ := zh H;obtain rfl := Option.some.inj H;go_enter Tryd.func11, Tryd.ntmps11
 go_wp2_with (first | ((with_reducible refine zG 24 rfl ?_); refine zC (some 4) Tryd.func24 (bits_amount.calls a0 a1 _ A2.out) ?_; rintro e w' ⟨rfl, ⟨nd, rfl⟩⟩; refine ⟨_, rfl, ?_⟩))
 go_ret;exact ⟨by first | rfl | (simp; done) | (simp [*]; done), by repeat (first | exact Drawn0.refl _ | apply Drawn0.step)⟩
def raw_Fits.f (k : Nat) (a4 : Bool) (a2 : List Int) (a1 : Int) : Option (Bool) := (limbs_Trim.f k a2).bind fun a3 => (if (a3.length : Int) ≤ 1024 then (if a1 ≥ (-32768) then (some (decide (a1 ≤ 32768))) else (some false)) else (some false))
set_option maxHeartbeats 8000000 in
set_option maxRecDepth 100000 in
theorem raw_Fits.calls (k : Nat) (aa : Bool) (ab : Option Addr) (ac : Nat) (a2 : List Int) (a7 : Int) (r : Bool) (w : World) (af : Kd.C (Kd.int .u64) w ab a2.length a2) (ag : a2.length ≤ ac) (h : raw_Fits.f k aa a2 a7 = some r) :
  Calls Tryd.prog 58 #[.agg #[.bool aa, .slice ab a2.length ac, .int .i64 a7]] w fun e w' => e = .returned (.bool r) ∧ Below w.heap.size w w' := by
 have hu36 := Tryd.underlying36;have ad := zA af;have ae := zA ag;clear af ag;have HB := zA (Below.refl w.heap.size w);have H := h
 unfold raw_Fits.f at H
 clear h;obtain ⟨a8, A2, H⟩ := zh H
 by_cases c3 : (a8.length : Int) ≤ 1024
 ·rw [if_pos c3] at H;have ah := decide_eq_true c3;have ai : decide (a8.length ≤ 1024) = true := decide_eq_true (by omega);clear c3
  by_cases c4 : a7 ≥ (-32768)
  ·rw [if_pos c4] at H;have aj := decide_eq_true c4;clear c4;obtain rfl := Option.some.inj H;go_enter Tryd.func58, Tryd.ntmps58
   go_wp2_with (first | ((with_reducible refine zD 1 rfl ?_); refine zn (N := 1) (cs := #[.bool aa, .slice ab a2.length ac, .int .i64 a7]) (t := 36) rfl rfl ?_; intro a3 hg w5 hbox hb; have a1 := zA (hbox); have a4 := zw hg; replace HB := ze hb; clear hb hbox hg; obtain ⟨_, _, _, _, _, _⟩ := zc a1) | ((with_reducible refine zG 59 rfl ?_); refine zC (some 5) Tryd.func59 (limbs_Trim.calls k (fun k_ => k_ < w.heap.size) _ _ a2 a8 _ ?a5 A2.out) ?_; (case a5 => exact V_mk ae.out (Kd.F_below (C_F (Kd.heap_int .u64) ad.out) zs)); rintro e w7 ⟨v454, rfl, a9, hb⟩; refine ⟨_, rfl, ?_⟩; have a6 := zA (V_lower (V_mono (ok' := fun k_ => k_ ≠ a3) a9 (fun k_ hk_ => Or.elim hk_ (fun hs_ => fun e_ => Nat.not_le.2 hs_ (by rw [e_]; exact a4.out)) (fun hn_ => (zj a1 k_ hn_)))) (below_size zs)); replace a1 := zb a1 hb; replace HB := zf hb; (try clear a9); obtain ⟨aM, aN, aB⟩ := V_slice a6.out; subst aB; obtain ⟨aC, aD, aE, aF, aG, aH⟩ := zc a1))
   go_ret;exact ⟨er, zs⟩
  rw [if_neg c4] at H;have aj := decide_eq_false c4;clear c4;obtain rfl := Option.some.inj H;go_enter Tryd.func58, Tryd.ntmps58
  go_wp2_with (first | ((with_reducible refine zD 1 rfl ?_); refine zn (N := 1) (cs := #[.bool aa, .slice ab a2.length ac, .int .i64 a7]) (t := 36) rfl rfl ?_; intro a3 hg w10 hbox hb; have a1 := zA (hbox); have a4 := zw hg; replace HB := ze hb; clear hb hbox hg; obtain ⟨_, _, _, _, _, _⟩ := zc a1) | ((with_reducible refine zG 59 rfl ?_); refine zC (some 5) Tryd.func59 (limbs_Trim.calls k (fun k_ => k_ < w.heap.size) _ _ a2 a8 _ ?a5 A2.out) ?_; (case a5 => exact V_mk ae.out (Kd.F_below (C_F (Kd.heap_int .u64) ad.out) zs)); rintro e w12 ⟨v454, rfl, a9, hb⟩; refine ⟨_, rfl, ?_⟩; have a6 := zA (V_lower (V_mono (ok' := fun k_ => k_ ≠ a3) a9 (fun k_ hk_ => Or.elim hk_ (fun hs_ => fun e_ => Nat.not_le.2 hs_ (by rw [e_]; exact a4.out)) (fun hn_ => (zj a1 k_ hn_)))) (below_size zs)); replace a1 := zb a1 hb; replace HB := zf hb; (try clear a9); obtain ⟨aI, aJ, ak⟩ := V_slice a6.out; subst ak; obtain ⟨am, an, ao, ap, aq, ar⟩ := zc a1))
  go_ret;exact ⟨er, zs⟩
 rw [if_neg c3] at H;have ah := decide_eq_false c3;have ai : decide (a8.length ≤ 1024) = false := decide_eq_false (by omega);clear c3;obtain rfl := Option.some.inj H;go_enter Tryd.func58, Tryd.ntmps58
 go_wp2_with (first | ((with_reducible refine zD 1 rfl ?_); refine zn (N := 1) (cs := #[.bool aa, .slice ab a2.length ac, .int .i64 a7]) (t := 36) rfl rfl ?_; intro a3 hg w15 hbox hb; have a1 := zA (hbox); have a4 := zw hg; replace HB := ze hb; clear hb hbox hg; obtain ⟨au, av, aw, ax, ay, aA⟩ := zc a1) | ((with_reducible refine zG 59 rfl ?_); refine zC (some 5) Tryd.func59 (limbs_Trim.calls k (fun k_ => k_ < w.heap.size) _ _ a2 a8 _ ?a5 A2.out) ?_; (case a5 => exact V_mk ae.out (Kd.F_below (C_F (Kd.heap_int .u64) ad.out) zs)); rintro e w17 ⟨v454, rfl, a9, hb⟩; refine ⟨_, rfl, ?_⟩; have a6 := zA (V_lower (V_mono (ok' := fun k_ => k_ ≠ a3) a9 (fun k_ hk_ => Or.elim hk_ (fun hs_ => fun e_ => Nat.not_le.2 hs_ (by rw [e_]; exact a4.out)) (fun hn_ => (zj a1 k_ hn_)))) (below_size zs)); replace a1 := zb a1 hb; replace HB := zf hb; (try clear a9); obtain ⟨aK, aL, al⟩ := V_slice a6.out; subst al))
 go_ret;exact ⟨er, zs⟩
def dyad_number_right.f (k : Nat) (a1 : Bool) (a2 : List Int) (a3 : Int) : Option (Bool) := (raw_Fits.f k a1 a2 a3).bind fun a4 => (some a4)
set_option maxHeartbeats 8000000 in
set_option maxRecDepth 100000 in
theorem dyad_number_right.calls (k : Nat) (a2 : Bool) (a5 : Option Addr) (a6 : Nat) (a1 : List Int) (a3 : Int) (r : Bool) (w : World) (a7 : Kd.C (Kd.int .u64) w a5 a1.length a1) (a8 : a1.length ≤ a6) (h : dyad_number_right.f k a2 a1 a3 = some r) :
  Calls Tryd.prog 32 #[.agg #[.bool a2, .slice a5 a1.length a6, .int .i64 a3]] w fun e w' => e = .returned (.bool r) ∧ Below w.heap.size w w' := by
 have hu57 := Tryd.underlying57;have a9 := zA a7;have aa := zA a8;clear a7 a8;have HB := zA (Below.refl w.heap.size w);have H := h
 unfold dyad_number_right.f at H
 clear h;obtain ⟨ad, A2, H⟩ := zh H;obtain rfl := Option.some.inj H;go_enter Tryd.func32, Tryd.ntmps32
 go_wp2_with (first | ((with_reducible refine zD 1 rfl ?_); refine zn (N := 1) (cs := #[.bool a2, .slice a5 a1.length a6, .int .i64 a3]) (t := 57) rfl rfl ?_; intro ae hg w3 hbox hb; have a4 := zA (hbox); have af := zw hg; replace HB := ze hb; clear hb hbox hg; obtain ⟨_, _, _, _, _, _⟩ := zc a4) | ((with_reducible refine zG 58 rfl ?_); refine zC (some 4) Tryd.func58 (raw_Fits.calls k a2 _ _ a1 a3 ad _ ?ab ?ac A2.out) ?_; (case ab => exact zk (C_below a9.out HB.out)); (case ac => exact aa.out); rintro e w5 ⟨rfl, hb⟩; refine ⟨_, rfl, ?_⟩; replace a4 := zb a4 hb; replace HB := zf hb))
 go_ret;exact ⟨er, zs⟩
def dyad_room.f (k : Nat) (a1 : Bool) (a2 : List Int) (a3 : Int) : Option (Bool × List Int × Int × Int) := (raw_Fits.f k a1 a2 a3).bind fun a4 => (if a4 = true then (some (a1, a2, a3, 0)) else (some (false, ([] : List Int), 0, 3)))
set_option maxHeartbeats 8000000 in
set_option maxRecDepth 100000 in
theorem dyad_room.calls (k : Nat) (a8 : Bool) (P0_1_ : Nat → Prop) (aa : Option Addr) (ab : Nat) (a4 : List Int) (a9 : Int) (r1 : Bool) (r2 : List Int) (r3 : Int) (r4 : Int) (w : World) (hs0_1 : Kd.V (Kd.int .u64) 22 w w.heap.size (fun k_ => P0_1_ k_) (.slice aa a4.length ab) a4) (h : dyad_room.f k a8 a4 a9 = some (r1, r2, r3, r4)) :
  Calls Tryd.prog 51 #[.agg #[.bool a8, .slice aa a4.length ab, .int .i64 a9]] w fun e w' => ∃ v1_ : Value, e = .returned (.tuple #[.agg #[.bool r1, v1_, .int .i64 r3], .int .i64 r4]) ∧ Kd.V (Kd.int .u64) 22 w' w.heap.size (fun k_ => (P0_1_ k_ ∨ w.heap.size ≤ k_)) v1_ r2 ∧ Below w.heap.size w w' := by
 have hu36 := Tryd.underlying36;have a1 := zA (show Kd.V (Kd.int .u64) 22 w w.heap.size (fun k_ => (P0_1_ k_ ∨ w.heap.size ≤ k_)) (.slice aa a4.length ab) a4 from V_mono hs0_1 (fun k_ hk => .inl hk));have HB := zA (Below.refl w.heap.size w);have H := h
 unfold dyad_room.f at H
 clear h;obtain ⟨ah, A2, H⟩ := zh H
 by_cases c3 : ah = true
 ·subst c3;rw [if_pos rfl] at H;simp only [Option.some.injEq, Prod.mk.injEq] at H;obtain ⟨rfl, rfl, rfl, rfl⟩ := H;go_enter Tryd.func51, Tryd.ntmps51
  go_wp2_with (first | ((with_reducible refine zD 1 rfl ?_); refine zn (N := 1) (cs := #[.bool a8, .slice aa a4.length ab, .int .i64 a9]) (t := 36) rfl rfl ?_; intro ac hg w4 hbox hb; replace a1 := zA (V_below (V_elderB (vu a1.out) ac (Nat.le_of_eq hg.symm)) hb); have a2 := zA (hbox); have af := zw hg; replace HB := ze hb; clear hb hbox hg) | ((with_reducible refine zD 2 rfl ?_); refine zn (N := 2) (cs := #[.bool false, .slice none 0 0, .int .i64 0]) (t := 36) rfl rfl ?_; intro a5 hg w5 hbox hb; replace a1 := zA (V_below (V_elderB (vu a1.out) a5 (Nat.le_of_eq hg.symm)) hb); have a3 := zA (hbox); have ag := zx hg; replace HB := zf hb; have a6 := zl a2 hg; have a7 := zg a2 hg; replace a2 := zb a2 hb; clear hb hbox hg; have aL := a6.out; have aM := a7.out; obtain ⟨_, _, _, _, _, _⟩ := zc a2) | ((with_reducible refine zG 58 rfl ?_); refine zC (some 5) Tryd.func58 (raw_Fits.calls k a8 _ _ a4 a9 true _ ?ad ?ae A2.out) ?_; (case ad => exact zk (V_reads' a1.out).2.2); (case ae => exact (V_reads' a1.out).2.1); rintro e w8 ⟨rfl, hb⟩; refine ⟨_, rfl, ?_⟩; replace a1 := zA (V_below (vu a1.out) hb); replace a2 := zb a2 hb; replace a3 := zb a3 hb; replace HB := zf hb; obtain ⟨aD, aE, aF, aG, aH, aI⟩ := zc a2; obtain ⟨ai, aj, ak, al, am, an⟩ := zc a3))
  refine bodyPost_ret (results_ct rfl _ _ a5 36 #[.bool a8, .slice aa a4.length ab, .int .i64 a9] (0, 0) _ rfl (zy a3) Tryd.underlying36 rfl (by kernel_rfl)) rfl ?_;exact ⟨_, er, vu (V_mono (zv a5 (V_mono a1.out (fun k_ hk => (⟨hk, hk.2⟩ : _ ∧ k_ ≠ a5))) (fun _ hk => hk.2) _ _ _) (fun _ hk => hk.1.1.1)), zs⟩
 replace c3 := Bool.eq_false_iff.mpr c3;subst c3;rw [if_neg (show ¬ (false = true) by decide)] at H;simp only [Option.some.injEq, Prod.mk.injEq] at H;obtain ⟨rfl, rfl, rfl, rfl⟩ := H;go_enter Tryd.func51, Tryd.ntmps51
 go_wp2_with (first | ((with_reducible refine zD 1 rfl ?_); refine zn (N := 1) (cs := #[.bool a8, .slice aa a4.length ab, .int .i64 a9]) (t := 36) rfl rfl ?_; intro ac hg w11 hbox hb; replace a1 := zA (V_below (V_elderB (vu a1.out) ac (Nat.le_of_eq hg.symm)) hb); have a2 := zA (hbox); have af := zw hg; replace HB := ze hb; clear hb hbox hg) | ((with_reducible refine zD 2 rfl ?_); refine zn (N := 2) (cs := #[.bool false, .slice none 0 0, .int .i64 0]) (t := 36) rfl rfl ?_; intro a5 hg w12 hbox hb; replace a1 := zA (V_below (V_elderB (vu a1.out) a5 (Nat.le_of_eq hg.symm)) hb); have a3 := zA (hbox); have ag := zx hg; replace HB := zf hb; have a6 := zl a2 hg; have a7 := zg a2 hg; replace a2 := zb a2 hb; clear hb hbox hg; have aJ := a6.out; have aK := a7.out; obtain ⟨ao, ap, aq, ar, au, av⟩ := zc a2) | ((with_reducible refine zG 58 rfl ?_); refine zC (some 5) Tryd.func58 (raw_Fits.calls k a8 _ _ a4 a9 false _ ?ad ?ae A2.out) ?_; (case ad => exact zk (V_reads' a1.out).2.2); (case ae => exact (V_reads' a1.out).2.1); rintro e w15 ⟨rfl, hb⟩; refine ⟨_, rfl, ?_⟩; replace a1 := zA (V_below (vu a1.out) hb); replace a2 := zb a2 hb; replace a3 := zb a3 hb; replace HB := zf hb; obtain ⟨aw, ax, ay, aA, aB, aC⟩ := zc a3))
 refine bodyPost_ret (results_ct rfl _ _ a5 36 #[.bool false, .slice none 0 0, .int .i64 0] (0, 0) _ rfl (zy a3) Tryd.underlying36 rfl (by kernel_rfl)) rfl ?_;exact ⟨_, er, V_nil _ _ _ _ _, zs⟩
section
variable {P : Program} {ops : Array Oper} {Q : Exit → Act → World → Prop}
/-- A call of a function value, as an arm of go_wp2_with. -/
theorem goesV_ {rest : List Oper} {oi : Oper} {a : Act} {w : World} (N : Option Tmp) (hd : oi.dst = N) (hg : oi.guard = none) {f : FuncId} {fn : Func} {op : Operand} {as_ : Array Operand} {ts : Array TypeId} (first cap : Array Value)
  (hop : oi.op = .call { callee := .value op, args := as_, argTypes := ts }) (hv : a.eval op = .func (.func f) first cap)
  (hf : P.funcs[f]? = some fn) (hname : (fn.name == "runtime.NumGoroutine") = false) (hb : fn.body.isSome = true) (args : Array Value)
  (hargs : first ++ as_.map a.eval ++ cap = args)
  (h : Calls P f args w fun e w' => ∃ v, e = .returned v ∧ wpList P ops Q rest (a.put N v) w') : wpList P ops Q (oi :: rest) a w := by
 refine wpList_plain hg fun K hK => ?_
 have he := enters_ hf hname hb args w
 have hrun : (execOp a.eval oi).run P w = .ok (.enter f args) w := by
  unfold execOp
  simp [hop, resolve, Deferred.ofValue, invoke, hv, ← hargs] at he ⊢
  exact he
 unfold Oper.wp
 rw [hrun, Oper.upon_enter]
 refine h.mono fun e w'' hh => ?_
 obtain ⟨v, rfl, hk⟩ := hh;subst hd;exact hK _ _ hk
end
/-- of's test: the number is not right. -/
theorem hand_of1 (k : Nat) (s : Bool) (A : Option Addr) (c : Nat) (l : List Int) (e : Int) (r : Bool) (w : World) (hr : Kd.C (Kd.int .u64) w A l.length l) (hc : l.length ≤ c) (h : dyad_number_right.f k s l e = some r) :
  Calls Tryd.prog 50 #[.agg #[.bool s, .slice A l.length c, .int .i64 e]] w fun x w' => x = .returned (.bool (!r)) ∧ Below w.heap.size w w' := by
 have hu64 := Tryd.underlying36;have HB := zA (Below.refl w.heap.size w);have HR := zA hr;have HC := zA hc;have HH := zA h;clear hr hc h;go_enter Tryd.func50, Tryd.ntmps50
 go_wp2_with (first
  | ((with_reducible refine zD 1 rfl ?_); refine zn (N := 1) (cs := #[.bool s, .slice A l.length c, .int .i64 e]) (t := 36) rfl rfl ?_; intro g hg w1 hbox hb; have n0 := zA (below_step HB.out hb); have n1 := zA hbox; have n2 := zA (C_below HR.out hb); clear HB hb hg HR; have HB := n0; have BK := n1; have HR := n2; clear n0 n1 n2; have hc0 := (blk_cell hbox 0).trans rfl; have hc1 := (blk_cell hbox 1).trans rfl; have hc2 := (blk_cell hbox 2).trans rfl; have hf0 := blk_frozen hbox 0; have hf1 := blk_frozen hbox 1; have hf2 := blk_frozen hbox 2; clear hbox)
  | ((with_reducible refine zG 32 rfl ?_); refine goesL_ (some 4) rfl rfl Tryd.func32 (by kernel_rfl) rfl #[.agg #[.bool s, .slice A l.length c, .int .i64 e]] rfl (by (try simp only [List.map_toArray, List.map_cons, List.map_nil]); first | done | rfl) ?_; refine (dyad_number_right.calls k s _ _ l e r _ HR.out HC.out HH.out).mono ?_; rintro e w5 ⟨rfl, hb⟩; refine ⟨_, rfl, ?_⟩; have n1 := zA (below_step HB.out hb); clear HB hb; have HB := n1; clear n1))
 go_ret;exact ⟨rfl, HB.out⟩
set_option maxRecDepth 100000 in
/-- slices.IndexFunc of two numbers. -/
theorem hand_index2 (k : Nat) (g : Nat) (s : Bool) (A : Option Addr) (c : Nat) (l : List Int) (e : Int) (s2 : Bool) (A2 : Option Addr) (c2 : Nat) (l2 : List Int) (e2 : Int) (r r2 : Bool) (w : World) (hb0 : w.heap[g]? = some (.cells #[.bool s, .slice A l.length c, .int .i64 e, .bool s2, .slice A2 l2.length c2, .int .i64 e2] 36 (0, 0))) (hr : Kd.C (Kd.int .u64) w A l.length l) (hc : l.length ≤ c) (hr2 : Kd.C (Kd.int .u64) w A2 l2.length l2) (hc2 : l2.length ≤ c2) (h : dyad_number_right.f k s l e = some r) (h2 : r = true → dyad_number_right.f k s2 l2 e2 = some r2) :
  Calls Tryd.prog 77 #[.slice (some ⟨g, 0, none⟩) 2 2, .func (.func 50) #[] #[]] w fun x w' => x = .returned (.int .i64 (if r then (if r2 then -1 else 1) else 0)) ∧ Below w.heap.size w w' := by
 have hu25 := Tryd.underlying36;have HB := zA (Below.refl w.heap.size w);have HR := zA hr;have HC := zA hc;have HH := zA h;have a1 := zA hr2;have a2 := zA hc2;have HH2 := zA h2;have BK := zA hb0;clear hr hc h hr2 hc2 h2 hb0;have hc0 := (blk_cell BK.out 0).trans rfl; have hf0 := blk_frozen BK.out 0; have hc1 := (blk_cell BK.out 1).trans rfl; have hf1 := blk_frozen BK.out 1; have hc2 := (blk_cell BK.out 2).trans rfl; have hf2 := blk_frozen BK.out 2; have hc3 := (blk_cell BK.out 3).trans rfl; have hf3 := blk_frozen BK.out 3; have hc4 := (blk_cell BK.out 4).trans rfl; have hf4 := blk_frozen BK.out 4; have hc5 := (blk_cell BK.out 5).trans rfl; have hf5 := blk_frozen BK.out 5;go_enter Tryd.func77, Tryd.ntmps77
 go_wp2
 refine wp_loop_rounds 3 ?_;rw [rounds_succ];cases r
 ·go_wp2_with (refine goesV_ (some 16) rfl rfl #[] #[] rfl rfl Tryd.func50 (by kernel_rfl) rfl #[.agg #[.bool s, .slice A l.length c, .int .i64 e]] (by (try simp only [List.map_toArray, List.map_cons, List.map_nil]); first | done | rfl) ?_; refine (hand_of1 k s _ _ l e _ _ (C_below HR.out HB.out) HC.out HH.out).mono ?_; rintro e w5 ⟨rfl, hb⟩; refine ⟨_, rfl, ?_⟩; have n0 := zA (blk_below BK.out hb); have n1 := zA (below_step HB.out hb); clear HB hb BK; have HB := n1; have BK := n0; clear n0 n1)
  go_ret;exact ⟨rfl, HB.out⟩
 go_wp2_with (refine goesV_ (some 16) rfl rfl #[] #[] rfl rfl Tryd.func50 (by kernel_rfl) rfl #[.agg #[.bool s, .slice A l.length c, .int .i64 e]] (by (try simp only [List.map_toArray, List.map_cons, List.map_nil]); first | done | rfl) ?_; refine (hand_of1 k s _ _ l e _ _ (C_below HR.out HB.out) HC.out HH.out).mono ?_; rintro e w5 ⟨rfl, hb⟩; refine ⟨_, rfl, ?_⟩; have n0 := zA (blk_below BK.out hb); have n1 := zA (below_step HB.out hb); clear HB hb BK; have HB := n1; have BK := n0; clear n0 n1; have hc0 := (blk_cell BK.out 0).trans rfl; have hf0 := blk_frozen BK.out 0; have hc1 := (blk_cell BK.out 1).trans rfl; have hf1 := blk_frozen BK.out 1; have hc2 := (blk_cell BK.out 2).trans rfl; have hf2 := blk_frozen BK.out 2; have hc3 := (blk_cell BK.out 3).trans rfl; have hf3 := blk_frozen BK.out 3; have hc4 := (blk_cell BK.out 4).trans rfl; have hf4 := blk_frozen BK.out 4; have hc5 := (blk_cell BK.out 5).trans rfl; have hf5 := blk_frozen BK.out 5)
 rw [rounds_succ];have HH3 := zA (HH2.out (by simp));cases r2
 ·go_wp2_with (refine goesV_ (some 16) rfl rfl #[] #[] rfl rfl Tryd.func50 (by kernel_rfl) rfl #[.agg #[.bool s2, .slice A2 l2.length c2, .int .i64 e2]] (by (try simp only [List.map_toArray, List.map_cons, List.map_nil]); first | done | rfl) ?_; refine (hand_of1 k s2 _ _ l2 e2 _ _ (C_below a1.out HB.out) a2.out HH3.out).mono ?_; rintro e w5 ⟨rfl, hb⟩; refine ⟨_, rfl, ?_⟩; have n0 := zA (blk_below BK.out hb); have n1 := zA (below_step HB.out hb); clear HB hb BK; have HB := n1; have BK := n0; clear n0 n1)
  go_ret;exact ⟨rfl, HB.out⟩
 go_wp2_with (refine goesV_ (some 16) rfl rfl #[] #[] rfl rfl Tryd.func50 (by kernel_rfl) rfl #[.agg #[.bool s2, .slice A2 l2.length c2, .int .i64 e2]] (by (try simp only [List.map_toArray, List.map_cons, List.map_nil]); first | done | rfl) ?_; refine (hand_of1 k s2 _ _ l2 e2 _ _ (C_below a1.out HB.out) a2.out HH3.out).mono ?_; rintro e w5 ⟨rfl, hb⟩; refine ⟨_, rfl, ?_⟩; have n0 := zA (blk_below BK.out hb); have n1 := zA (below_step HB.out hb); clear HB hb BK; have HB := n1; have BK := n0; clear n0 n1)
 rw [rounds_succ]
 go_wp2
 go_ret;exact ⟨rfl, HB.out⟩
set_option maxRecDepth 100000 in
/-- slices.ContainsFunc, by what IndexFunc answers. -/
theorem hand_contains (sl : Value) (i : Int) (w : World) (h : Calls Tryd.prog 77 #[sl, .func (.func 50) #[] #[]] w fun x w' => x = .returned (.int .i64 i) ∧ Below w.heap.size w w') :
  Calls Tryd.prog 49 #[sl, .func (.func 50) #[] #[]] w fun x w' => x = .returned (.bool (decide (0 ≤ i))) ∧ Below w.heap.size w w' := by
 have HH := zA h;clear h;go_enter Tryd.func49, Tryd.ntmps49
 go_wp2_with ((with_reducible refine zG 77 rfl ?_); refine goesL_ (some 7) rfl rfl Tryd.func77 (by kernel_rfl) rfl #[sl, .func (.func 50) #[] #[]] rfl (by (try simp only [List.map_toArray, List.map_cons, List.map_nil]); first | done | rfl) ?_; refine HH.out.mono ?_; rintro e w5 ⟨rfl, hb⟩; refine ⟨_, rfl, ?_⟩; have HB := zA hb; clear hb)
 go_ret;exact ⟨by simp, HB.out⟩
set_option maxRecDepth 100000 in
/-- of: room for what a function makes, where no number is wrong. -/
theorem hand_of (k : Nat) (sl : Value) (r : Bool) (fv : FuncId) (fn : Func) (first cap : Array Value) (hf : Tryd.prog.funcs[fv]? = some fn) (hname : (fn.name == "runtime.NumGoroutine") = false) (hbody : fn.body.isSome = true)
  (s1 : Bool) (l1 : List Int) (e1 : Int) (r1 : Bool) (r2 : List Int) (r3 r4 : Int) (ok : Nat → Prop) (w : World)
  (hc : ∀ w1, Below w.heap.size w w1 → Calls Tryd.prog 49 #[sl, .func (.func 50) #[] #[]] w1 fun x w2 => x = .returned (.bool (!r)) ∧ Below w1.heap.size w1 w2)
  (hm : r = true → ∀ w1, Below w.heap.size w w1 → Calls Tryd.prog fv (first ++ cap) w1 fun x w2 => ∃ v, x = .returned (.agg #[.bool s1, v, .int .i64 e1]) ∧ Kd.V (Kd.int .u64) 22 w2 w1.heap.size (fun k_ => ok k_ ∨ w1.heap.size ≤ k_) v l1 ∧ Below w1.heap.size w1 w2)
  (hroom : r = true → dyad_room.f k s1 l1 e1 = some (r1, r2, r3, r4))
  (hok : ∀ k_, ok k_ → k_ < w.heap.size) (hbad : r = false → (r1, r2, r3, r4) = (false, [], 0, 2)) :
  Calls Tryd.prog 27 #[.func (.func fv) first cap, sl] w fun x w' => ∃ v1_ : Value, x = .returned (.tuple #[.agg #[.bool r1, v1_, .int .i64 r3], .int .i64 r4]) ∧ Kd.V (Kd.int .u64) 22 w' w.heap.size (fun k_ => ok k_ ∨ w.heap.size ≤ k_) v1_ r2 ∧ Below w.heap.size w w' := by
 have hu25 := Tryd.underlying36;have HB := zA (Below.refl w.heap.size w);have Hc := zA hc;have Hm := zA hm;have Hroom := zA hroom;have Hbad := zA hbad;have Hf := zA hf;clear hc hm hroom hbad hf;go_enter Tryd.func27, Tryd.ntmps27;cases r
 ·have Hb := Hbad.out rfl;simp only [Prod.mk.injEq] at Hb;obtain ⟨rfl, rfl, rfl, rfl⟩ := Hb
  go_wp2_with (first | ((with_reducible refine zD 4 rfl ?_); refine zn (N := 4) (cs := #[.bool false, .slice none 0 0, .int .i64 0]) (t := 36) rfl rfl ?_; intro g hg w1 hbox hb; have GE := zA (hg ▸ Nat.le_refl _ : w.heap.size ≤ g); have n0 := zA (below_step HB.out hb); have n1 := zA hbox; clear HB hb hbox hg; have HB := n0; have BK := n1; clear n0 n1) | ((with_reducible refine zG 49 rfl ?_); refine goesL_ (some 7) rfl rfl Tryd.func49 (by kernel_rfl) rfl #[sl, .func (.func 50) #[] #[]] rfl (by (try simp only [List.map_toArray, List.map_cons, List.map_nil]); first | done | rfl) ?_; refine (Hc.out _ HB.out).mono ?_; rintro e w5 ⟨rfl, hb⟩; refine ⟨_, rfl, ?_⟩; have n0 := zA (blk_below BK.out hb); have n1 := zA (below_step HB.out hb); clear HB hb BK; have HB := n1; have BK := n0; clear n0 n1; have hc0 := (blk_cell BK.out 0).trans rfl; have hf0 := blk_frozen BK.out 0; have hc1 := (blk_cell BK.out 1).trans rfl; have hf1 := blk_frozen BK.out 1; have hc2 := (blk_cell BK.out 2).trans rfl; have hf2 := blk_frozen BK.out 2))
  refine bodyPost_ret (results_ct rfl _ _ g 36 #[.bool false, .slice none 0 0, .int .i64 0] (0, 0) _ rfl (by refine blk_put (cs := #[.bool false, .slice none 0 0, .int .i64 0]) ?_ 2 _ rfl; refine blk_put (cs := #[.bool false, .slice none 0 0, .int .i64 0]) ?_ 1 _ rfl; refine blk_put (cs := #[.bool false, .slice none 0 0, .int .i64 0]) ?_ 0 _ rfl; exact BK.out) Tryd.underlying36 rfl (by kernel_rfl)) rfl ?_;exact ⟨_, rfl, V_nil _ _ _ _ _, below_set (below_set (below_set HB.out GE.out) GE.out) GE.out⟩
 go_wp2_with (first | ((with_reducible refine zD 4 rfl ?_); refine zn (N := 4) (cs := #[.bool false, .slice none 0 0, .int .i64 0]) (t := 36) rfl rfl ?_; intro g hg w1 hbox hb; have GE := zA (hg ▸ Nat.le_refl _ : w.heap.size ≤ g); have n0 := zA (below_step HB.out hb); have n1 := zA hbox; clear HB hb hbox hg; have HB := n0; have BK := n1; clear n0 n1) | ((with_reducible refine zG 49 rfl ?_); refine goesL_ (some 7) rfl rfl Tryd.func49 (by kernel_rfl) rfl #[sl, .func (.func 50) #[] #[]] rfl (by (try simp only [List.map_toArray, List.map_cons, List.map_nil]); first | done | rfl) ?_; refine (Hc.out _ HB.out).mono ?_; rintro e w5 ⟨rfl, hb⟩; refine ⟨_, rfl, ?_⟩; have n0 := zA (blk_below BK.out hb); have n1 := zA (below_step HB.out hb); clear HB hb BK; have HB := n1; have BK := n0; clear n0 n1; have hc0 := (blk_cell BK.out 0).trans rfl; have hf0 := blk_frozen BK.out 0; have hc1 := (blk_cell BK.out 1).trans rfl; have hf1 := blk_frozen BK.out 1; have hc2 := (blk_cell BK.out 2).trans rfl; have hf2 := blk_frozen BK.out 2) | ((with_reducible refine zD 10 rfl ?_); refine goesV_ (some 10) rfl rfl first cap rfl rfl Hf.out hname hbody (first ++ cap) (by simp) ?_; refine (Hm.out rfl _ HB.out).mono ?_; rintro e w6 ⟨v6, rfl, hv, hb⟩; obtain ⟨A6, c6, rfl⟩ := V_slice hv; refine ⟨_, rfl, ?_⟩; have LT := zA (blk_lt BK.out); have HV := zA hv; have n0 := zA (blk_below BK.out hb); have n1 := zA (below_step HB.out hb); have LE := zA hb.size; clear HB hb BK hv; have HB := n1; have BK := n0; clear n0 n1) | ((with_reducible refine zG 51 rfl ?_); refine goesL_ (some 11) rfl rfl Tryd.func51 (by kernel_rfl) rfl #[.agg #[.bool s1, .slice A6 l1.length c6, .int .i64 e1]] rfl (by (try simp only [List.map_toArray, List.map_cons, List.map_nil]); first | done | rfl) ?_; refine (dyad_room.calls k s1 _ _ _ l1 e1 r1 r2 r3 r4 _ HV.out (Hroom.out rfl)).mono ?_; rintro e w7 ⟨v7, rfl, hv, hb⟩; obtain ⟨A7, c7, rfl⟩ := V_slice hv; refine ⟨_, rfl, ?_⟩; have HV7 := zA (V_mono hv (ok' := fun k_ => (ok k_ ∨ w.heap.size ≤ k_) ∧ k_ ≠ g) (fun k_ hk => by { have h1 := LT.out; have h2 := LE.out; have h3 := GE.out; rcases hk with (hk | hk) | hk; (exact ⟨.inl hk, fun e => by { subst e; exact absurd (hok _ hk) (Nat.not_lt.mpr h3) }⟩); (exact ⟨.inr (by omega), by omega⟩); (exact ⟨.inr (by omega), by omega⟩) })); have n0 := zA (blk_below BK.out hb); have n1 := zA (below_step HB.out hb); clear HB hb BK hv HV; have HB := n1; have BK := n0; clear n0 n1; have hc0 := (blk_cell BK.out 0).trans rfl; have hf0 := blk_frozen BK.out 0; have hc1 := (blk_cell BK.out 1).trans rfl; have hf1 := blk_frozen BK.out 1; have hc2 := (blk_cell BK.out 2).trans rfl; have hf2 := blk_frozen BK.out 2))
 refine bodyPost_ret (results_ct rfl _ _ g 36 #[.bool r1, .slice A7 r2.length c7, .int .i64 r3] (0, 0) _ rfl (by refine blk_put (cs := #[.bool r1, .slice A7 r2.length c7, .int .i64 0]) ?_ 2 _ rfl; refine blk_put (cs := #[.bool r1, .slice none 0 0, .int .i64 0]) ?_ 1 _ rfl; refine blk_put (cs := #[.bool false, .slice none 0 0, .int .i64 0]) ?_ 0 _ rfl; exact BK.out) Tryd.underlying36 rfl (by kernel_rfl)) rfl ?_;exact ⟨_, rfl, V_mono (V_far (p := ⟨g, 2, none⟩) (V_far (p := ⟨g, 1, none⟩) (V_far (p := ⟨g, 0, none⟩) HV7.out (fun _ hk => hk.2) (.bool r1)) (fun _ hk => hk.2) (.slice A7 r2.length c7)) (fun _ hk => hk.2) (.int .i64 r3)) (fun _ hk => hk.1), below_set (below_set (below_set HB.out GE.out) GE.out) GE.out⟩
theorem hand_slice_event {P : Program} {ops : Array Oper} {rest : List Oper} {o : Oper} {a : Act} {Q : Exit → Act → World → Prop} {W : World} {n : Nat} (hgd : o.guard = none) {N : Tmp} (_hd : o.dst = some N) {cs : Array Value} {t : TypeId}
  (hrun : (execOp a.eval o).run P W = .ok (.value (.slice (some ⟨W.heap.size, 0, none⟩) n n)) (W.alloc (.cells cs t (0, 0))))
  (h : ∀ g, g = W.heap.size → ∀ w1, w1.heap[g]? = some (.cells cs t (0, 0)) → Below W.heap.size W w1 → wpList P ops Q rest (a.put o.dst (.slice (some ⟨g, 0, none⟩) n n)) w1) : wpList P ops Q (o :: rest) a W :=
 Kd.event_run hgd hrun (h _ rfl _ (blk_new W _) (below_alloc (Below.refl _ _) _))
def nat_norm.l0 : Nat → List Int → Option (List Int)
 | 0, _ => none
 | k + 1, x0 => if (x0.length : Int) > 0 then (if 0 ≤ (wrap64 ((x0.length : Int) - 1)) then (if (wrap64 ((x0.length : Int) - 1)) < (x0.length : Int) then (if (rd x0 (wrap64 ((x0.length : Int) - 1))) = 0 then (if (wrap64 ((x0.length : Int) - 1)) ≤ (x0.length : Int) then (nat_norm.l0 k (x0.take ((wrap64 ((x0.length : Int) - 1)) : Int).toNat)) else (none)) else (some x0)) else (none)) else (none)) else (some x0)
def nat_norm.f (k : Nat) (l0 : List Int) : Option (List Int) := nat_norm.l0 k l0
set_option maxHeartbeats 8000000 in
set_option maxRecDepth 100000 in
theorem nat_norm.calls (k : Nat) (P0_ : Nat → Prop) (A0 : Option Addr) (c0 : Nat) (l0 : List Int) (r : List Int) (w : World) (hs0 : Kd.V (Kd.int .u64) 22 w w.heap.size (fun k_ => P0_ k_) (.slice A0 l0.length c0) l0) (h : nat_norm.f k l0 = some r) :
  Calls Tryd.prog 38 #[.slice A0 l0.length c0] w fun e w' => ∃ v0_ : Value, e = .returned (v0_) ∧ Kd.V (Kd.int .u64) 22 w' w.heap.size (fun k_ => (P0_ k_ ∨ w.heap.size ≤ k_)) v0_ r ∧ Below w.heap.size w w' := by
 have ai := zA (show Kd.V (Kd.int .u64) 22 w w.heap.size (fun k_ => (P0_ k_ ∨ w.heap.size ≤ k_)) (.slice A0 l0.length c0) l0 from V_mono hs0 (fun k_ hk => .inl hk));have HB := zA (Below.refl w.heap.size w);have H : (nat_norm.l0 k l0) = some r := h;clear h;have H' := zA H;clear H;go_enter Tryd.func38, Tryd.ntmps38
 go_wp2
 go_loopg [0] k (fun kq v0 w' => ∃ (a1 : List Int), Aside0 (nat_norm.l0 kq a1 = some r) ∧ Aside0 (kq ≤ k) ∧ Aside0 (Kd.V (Kd.int .u64) 22 w' w.heap.size (fun k_ => (P0_ k_ ∨ w.heap.size ≤ k_)) v0 a1) ∧ Aside0 (Below w.heap.size w w'))
 case atStart => exact ⟨(l0), H', ⟨Nat.le_refl _⟩, ⟨vu ai.out⟩, ⟨bq⟩⟩
 case round =>
  clear H';obtain ⟨a1, HA, HK1, a3, HB⟩ := hrel
  cases gk with
  | zero => exact absurd HA.out (by simp [nat_norm.l0])
  | succ k1 =>
   have H := HA.out;clear HA;simp only [nat_norm.l0] at H
   by_cases c2 : (a1.length : Int) > 0
   ·rw [if_pos c2] at H;have ac := decide_eq_true c2;have ad : decide (0 < a1.length) = true := decide_eq_true (by omega);clear c2;generalize a5 : wrap64 ((a1.length : Int) - 1) = a2 at H;have hji3w : (IntKind.i64.wrap ((a1.length : Int) - 1)) = a2 := (i64_w _).trans a5;replace H := dn H;obtain ⟨c4, H⟩ := H;have al := decide_eq_true c4;clear c4;replace H := dn H;obtain ⟨c5, H⟩ := H;have am := decide_eq_true c5;clear c5
    by_cases c6 : (rd a1 (a2)) = 0
    ·rw [if_pos c6] at H;have ae := beq_iff_eq.mpr c6;have af := bne_eq_false_iff_eq.mpr c6;clear c6;have an := eq_true (od : 0 ≤ (a2));replace H := dn H;obtain ⟨c8, H⟩ := H;have ao := eq_true c8;have ap := decide_eq_true c8;clear c8;obtain ⟨a4, a6⟩ : ∃ y_ : List Int, y_ = (a1.take ((a2) : Int).toNat) := ⟨_, rfl⟩;replace H : (nat_norm.l0 k1 a4) = some r := zR a6 H;have a8 := zA a6;clear a6;have H' := zA H;clear H;obtain ⟨aw, a9, aj⟩ := V_slice a3.out;subst aj;have p168 : 0 ≤ ((a2) : Int) := od;have q168 : (a2) < (a1.length : Int) := od;obtain ⟨ad168, e168, aa⟩ := Kd.at_int (V_reads' a3.out).2.2 (a2) p168 q168;cases e168;replace p168 := eq_true p168;replace q168 := eq_true q168;have q10 : ((a2) : Int) ≤ ((a1.length : Int) : Int) := od;obtain ⟨i010, hi010, _, hsz10, _⟩ := info_parts info22;have hroom10 : a1.length ≤ a9 := (V_reads' a3.out).2.1;have hC10 : Kd.F (Kd.int .u64) _ _ (some ad168) a1.length a1 := (V_at (base := w.heap.size) a3.out).2.2;have hcut10 := cut_to (P := Tryd.prog) 34 22 .i64 Tryd.underlying34 hi010 (some ad168) a1.length a9 (a2) (od) q10 hroom10;have hr10 := Kd.F_take (m := ((a2) : Int).toNat) hC10 (by omega);have a7 : a4.length = ((a2) : Int).toNat := (by rw [a8.out, List.length_take]; omega);rw [← a8.out] at hr10;rw [← a7] at hcut10;have ab := zA (show Kd.V (Kd.int .u64) 22 _ w.heap.size _ (.slice (some ad168) a4.length a9) a4 from V_mk (by omega) hr10);have ak := zA (show a4.length ≤ a9 from by omega);clear hr10 hC10 hroom10 hi010 hsz10;have KY10 := zA a7;clear a7;replace q10 := eq_true q10
     go_wp2
     go_roundg k1
     case measure => have := HK1.out; omega
     case rel => exact ⟨(a4), (by first | exact H' | (simp only [a5]; exact H') | (simp only [a5] at H' ⊢; exact H')), ⟨by have := HK1.out; omega⟩, ⟨vu ab.out⟩, ⟨bq⟩⟩
    rw [if_neg c6] at H;have ae := beq_eq_false_iff_ne.mpr c6;have af := bne_iff_ne.mpr c6;obtain rfl := Option.some.inj H;obtain ⟨aq, ar, ag⟩ := V_slice a3.out;subst ag;have p168 : 0 ≤ ((a2) : Int) := od;have q168 : (a2) < (a1.length : Int) := od;obtain ⟨ad168, e168, aa⟩ := Kd.at_int (V_reads' a3.out).2.2 (a2) p168 q168;cases e168;replace p168 := eq_true p168;replace q168 := eq_true q168
    go_wp2
    go_ret;exact ⟨_, by first | rfl | (simp [errW_none, errW_some] <;> rfl) | (simp only [← a5]; first | rfl | (simp [errW_none, errW_some] <;> rfl)) | (simp [*, errW_none, errW_some] <;> rfl), vu a3.out, bq⟩
   rw [if_neg c2] at H;have ac := decide_eq_false c2;have ad : decide (0 < a1.length) = false := decide_eq_false (by omega);clear c2;obtain rfl := Option.some.inj H;obtain ⟨au, av, ah⟩ := V_slice a3.out;subst ah
   go_wp2
   go_ret;exact ⟨_, er, vu a3.out, bq⟩
def nat_number_great.f (l0 : List Int) : Option (Bool) := some (decide ((l0.length : Int) > 1024))
set_option maxHeartbeats 8000000 in
set_option maxRecDepth 100000 in
theorem nat_number_great.calls (A0 : Option Addr) (c0 : Nat) (l0 : List Int) (r : Bool) (w : World) (hr0 : Kd.C (Kd.int .u64) w A0 l0.length l0) (hc0 : l0.length ≤ c0) (h : nat_number_great.f l0 = some r) :
  Calls Tryd.prog 60 #[.slice A0 l0.length c0] w fun e w' => e = .returned (.bool r) ∧ Drawn0 w w' := by
 have a1 := zA hr0;have a2 := zA hc0;clear hr0 hc0;have H := h
 unfold nat_number_great.f at H
 clear h;obtain rfl := Option.some.inj H;go_enter Tryd.func60, Tryd.ntmps60
 go_wp2
 go_ret;exact ⟨by first | rfl | (simp; done) | (simp [*]; done), by repeat (first | exact Drawn0.refl _ | apply Drawn0.step)⟩
def nat_one.f (k : Nat) (l0 : List Int) : Option (List Int × Int) := (nat_norm.f k l0).bind fun a1 => ((nat_number_great.f a1).bind fun a2 => (if a2 = true then (some (([] : List Int), 3)) else (some (a1, 0))))
set_option maxHeartbeats 8000000 in
set_option maxRecDepth 100000 in
theorem nat_one.calls (k : Nat) (P0_ : Nat → Prop) (A0 : Option Addr) (c0 : Nat) (l0 : List Int) (r1 : List Int) (r2 : Int) (w : World) (hs0 : Kd.V (Kd.int .u64) 22 w w.heap.size (fun k_ => P0_ k_) (.slice A0 l0.length c0) l0) (h : nat_one.f k l0 = some (r1, r2)) :
  Calls Tryd.prog 34 #[.slice A0 l0.length c0] w fun e w' => ∃ v0_ : Value, e = .returned (.tuple #[v0_, .int .i64 r2]) ∧ Kd.V (Kd.int .u64) 22 w' w.heap.size (fun k_ => (P0_ k_ ∨ w.heap.size ≤ k_)) v0_ r1 ∧ Below w.heap.size w w' := by
 have a3 := zA (show Kd.V (Kd.int .u64) 22 w w.heap.size (fun k_ => (P0_ k_ ∨ w.heap.size ≤ k_)) (.slice A0 l0.length c0) l0 from V_mono hs0 (fun k_ hk => .inl hk));have HB := zA (Below.refl w.heap.size w);have H := h
 unfold nat_one.f at H
 clear h;obtain ⟨a4, A2, H⟩ := zh H;obtain ⟨a7, A3, H⟩ := zh H
 by_cases c4 : a7 = true
 ·subst c4;rw [if_pos rfl] at H;simp only [Option.some.injEq, Prod.mk.injEq] at H;obtain ⟨rfl, rfl⟩ := H;go_enter Tryd.func34, Tryd.ntmps34
  go_wp2_with (first | ((with_reducible refine zG 38 rfl ?_); refine zC (some 6) Tryd.func38 (nat_norm.calls k (fun k_ => (P0_ k_ ∨ w.heap.size ≤ k_)) _ _ l0 a4 _ ?a2 A2.out) ?_; (case a2 => exact a3.out); rintro e w5 ⟨v175, rfl, a6, hb⟩; refine ⟨_, rfl, ?_⟩; replace a3 := zA (V_below (vu a3.out) hb); have a1 := zA (V_lower (V_mono (ok' := fun k_ => (P0_ k_ ∨ w.heap.size ≤ k_)) a6 (fun k_ hk_ => Or.elim hk_ (fun hs_ => hs_) (fun hn_ => (.inr (Nat.le_trans (below_size bq) hn_))))) (below_size bq)); replace HB := ze hb; (try clear a6); obtain ⟨aa, ab, a8⟩ := V_slice a1.out; subst a8) | ((with_reducible refine zG 60 rfl ?_); refine zC (some 8) Tryd.func60 (nat_number_great.calls _ _ a4 true _ ?a2 ?a5 A3.out) ?_; (case a2 => exact zk (V_reads' a1.out).2.2); (case a5 => exact (V_reads' a1.out).2.1); rintro e w' ⟨rfl, ⟨nd, rfl⟩⟩; refine ⟨_, rfl, ?_⟩))
  go_ret2
  exact ⟨_, er, V_nil _ _ _ _ _, bq⟩
 replace c4 := Bool.eq_false_iff.mpr c4;subst c4;rw [if_neg (show ¬ (false = true) by decide)] at H;simp only [Option.some.injEq, Prod.mk.injEq] at H;obtain ⟨rfl, rfl⟩ := H;go_enter Tryd.func34, Tryd.ntmps34
 go_wp2_with (first | ((with_reducible refine zG 38 rfl ?_); refine zC (some 6) Tryd.func38 (nat_norm.calls k (fun k_ => (P0_ k_ ∨ w.heap.size ≤ k_)) _ _ l0 a4 _ ?a2 A2.out) ?_; (case a2 => exact a3.out); rintro e w7 ⟨v175, rfl, a6, hb⟩; refine ⟨_, rfl, ?_⟩; replace a3 := zA (V_below (vu a3.out) hb); have a1 := zA (V_lower (V_mono (ok' := fun k_ => (P0_ k_ ∨ w.heap.size ≤ k_)) a6 (fun k_ hk_ => Or.elim hk_ (fun hs_ => hs_) (fun hn_ => (.inr (Nat.le_trans (below_size bq) hn_))))) (below_size bq)); replace HB := ze hb; (try clear a6); obtain ⟨ac, ad, a9⟩ := V_slice a1.out; subst a9) | ((with_reducible refine zG 60 rfl ?_); refine zC (some 8) Tryd.func60 (nat_number_great.calls _ _ a4 false _ ?a2 ?a5 A3.out) ?_; (case a2 => exact zk (V_reads' a1.out).2.2); (case a5 => exact (V_reads' a1.out).2.1); rintro e w' ⟨rfl, ⟨nd, rfl⟩⟩; refine ⟨_, rfl, ?_⟩))
 go_ret2
 exact ⟨_, er, vu a1.out, bq⟩
def nat_number_own.f (l0 : List Int) : Option (List Int) := if ([] : List Int).length + l0.length < 17592186044416 then (some (([] : List Int) ++ l0)) else (none)
set_option maxHeartbeats 8000000 in
set_option maxRecDepth 100000 in
theorem nat_number_own.calls (A0 : Option Addr) (c0 : Nat) (l0 : List Int) (r : List Int) (w : World) (hr0 : Kd.C (Kd.int .u64) w A0 l0.length l0) (hc0 : l0.length ≤ c0) (h : nat_number_own.f l0 = some r) :
  Calls Tryd.prog 39 #[.slice A0 l0.length c0] w fun e w' => ∃ v0_ : Value, e = .returned (v0_) ∧ Kd.R (Kd.int .u64) 22 w' w.heap.size (fun _ => True) v0_ r ∧ Below w.heap.size w w' := by
 have a6 := zA hr0;have a7 := zA hc0;clear hr0 hc0;have HB := zA (Below.refl w.heap.size w);have H := h
 unfold nat_number_own.f at H
 clear h;replace H := dn H;obtain ⟨c2, H⟩ := H;have a4 := zA c2;clear c2;obtain ⟨a5, a1⟩ : ∃ y_ : List Int, y_ = (([] : List Int) ++ l0) := ⟨_, rfl⟩;replace H : (some a5) = some r := zR a1 H;have a2 := zA a1;clear a1;obtain rfl := Option.some.inj H;go_enter Tryd.func39, Tryd.ntmps39
 go_wp2_with (first | ((with_reducible refine gate_builtin (b := .append) (xs := #[.const (.slice none 0 0), .tmp 3]) rfl ?_); at_builtin; refine Kd.R_append_rows2 (Kd.int .u64) (w0 := w) w.heap.size rfl (.const (.slice none 0 0)) (.tmp 3) 34 58 22 (.int .u64 0) 8 rfl Tryd.underlying34 Tryd.underlying58 info22 rfl (by decide) (by omega) (.slice none 0 0) ([] : List Int) l0 _ _ _ (fun _ => True) (fun _ => False) rfl rfl ?aO ?aR (fun _ _ h => h) (fun _ h => h.elim) ?aF ?aB ?aS ?aL ?_; (case aR => repeat (first | exact a6.out | (with_reducible refine C_alloc ?_ _) | (with_reducible refine C_drewN ?_ _) | (with_reducible refine C_drew ?_))); (case aB => exact bq); (case aF => exact (fun _ _ => trivial)); (case aO => exact ((R_nil _ _ _ _ (fun _ => True)))); (case aS => exact (below_size bq)); (case aL => have := a4.out; omega); intro v179 w3 ho hb hg hat; rw [← a2.out] at ho; replace HB := zA (hb); have a3 := zA (ho); clear ho hb hg hat))
 go_ret;exact ⟨_, er, ru a3.out, bq⟩
def bits_Mul64.f (a0 : Int) (a1 : Int) : Option (Int × Int) := some (IntKind.u64.wrap ((IntKind.u64.wrap ((IntKind.u64.wrap ((a0 / 4294967296) * (a1 / 4294967296))) + ((IntKind.u64.wrap ((IntKind.u64.wrap ((a0 / 4294967296) * (Go.bits .and .u64 a1 4294967295))) + ((IntKind.u64.wrap ((Go.bits .and .u64 a0 4294967295) * (Go.bits .and .u64 a1 4294967295))) / 4294967296))) / 4294967296))) + ((IntKind.u64.wrap ((Go.bits .and .u64 (IntKind.u64.wrap ((IntKind.u64.wrap ((a0 / 4294967296) * (Go.bits .and .u64 a1 4294967295))) + ((IntKind.u64.wrap ((Go.bits .and .u64 a0 4294967295) * (Go.bits .and .u64 a1 4294967295))) / 4294967296))) 4294967295) + (IntKind.u64.wrap ((Go.bits .and .u64 a0 4294967295) * (a1 / 4294967296))))) / 4294967296)), IntKind.u64.wrap (a0 * a1))
set_option maxHeartbeats 8000000 in
set_option maxRecDepth 100000 in
theorem bits_Mul64.calls (a0 : Int) (a1 : Int) (r1 : Int) (r2 : Int) (w : World) (h : bits_Mul64.f a0 a1 = some (r1, r2)) :
  Calls Tryd.prog 74 #[.int .u64 a0, .int .u64 a1] w fun e w' => e = .returned (.tuple #[.int .u64 r1, .int .u64 r2]) ∧ Drawn0 w w' := by
 have H := h
 unfold bits_Mul64.f at H
 clear h;simp only [Option.some.injEq, Prod.mk.injEq] at H;obtain ⟨rfl, rfl⟩ := H;go_enter Tryd.func74, Tryd.ntmps74
 go_wp2
 go_ret2
 exact ⟨by first | rfl | (simp; done) | (simp [*]; done), by repeat (first | exact Drawn0.refl _ | apply Drawn0.step)⟩
mutual
def nat_number_mul.l0 : Nat → List Int → List Int → List Int → Int → Int → Option (List Int)
 | 0, _, _, _, _, _ => none
 | k + 1, x1, x5, x20, x21, x22 => if x22 < x21 then (if 0 ≤ x22 then (if x22 < (x20.length : Int) then (nat_number_mul.l1 k x1 x5 x22 (rd x20 x22) 0 x20 x21 x22 x1 (x1.length : Int) 0) else (none)) else (none)) else ((nat_norm.f k x5).bind fun a1 => (some a1))
def nat_number_mul.l1 : Nat → List Int → List Int → Int → Int → Int → List Int → Int → Int → List Int → Int → Int → Option (List Int)
 | 0, _, _, _, _, _, _, _, _, _, _, _ => none
 | k + 1, x1, x5, x6, x7, x8, x20, x21, x22, x27, x28, x29 => if x29 < x28 then (if 0 ≤ x29 then (if x29 < (x27.length : Int) then ((bits_Mul64.f x7 (rd x27 x29)).bind fun a1 => (if 0 ≤ (wrap64 (x6 + x29)) then (if (wrap64 (x6 + x29)) < (x5.length : Int) then (nat_number_mul.l1 k x1 (x5.set ((wrap64 (x6 + x29)) : Int).toNat (add64s (add64s a1.2 (rd x5 (wrap64 (x6 + x29))) 0) x8 0)) x6 x7 (IntKind.u64.wrap ((IntKind.u64.wrap (a1.1 + (add64c a1.2 (rd x5 (wrap64 (x6 + x29))) 0))) + (add64c (add64s a1.2 (rd x5 (wrap64 (x6 + x29))) 0) x8 0))) x20 x21 x22 x27 x28 (wrap64 (x29 + 1))) else (none)) else (none))) else (none)) else (none)) else (if 0 ≤ (wrap64 (x6 + (x1.length : Int))) then (if (wrap64 (x6 + (x1.length : Int))) < (x5.length : Int) then (nat_number_mul.l0 k x1 (x5.set ((wrap64 (x6 + (x1.length : Int))) : Int).toNat x8) x20 x21 (wrap64 (x22 + 1))) else (none)) else (none))
end
def nat_number_mul.f (k : Nat) (l0 : List Int) (l1 : List Int) : Option (List Int) := if 0 ≤ (wrap64 ((l0.length : Int) + (l1.length : Int))) then (if (wrap64 ((l0.length : Int) + (l1.length : Int)) : Int).toNat ≤ 35184372088832 then (nat_number_mul.l0 k l1 (List.replicate (wrap64 ((l0.length : Int) + (l1.length : Int)) : Int).toNat 0) l0 (l0.length : Int) 0) else (none)) else (none)
set_option maxHeartbeats 8000000 in
set_option maxRecDepth 100000 in
theorem nat_number_mul.calls (k : Nat) (A0 : Option Addr) (c0 : Nat) (l0 : List Int) (A1 : Option Addr) (c1 : Nat) (l1 : List Int) (r : List Int) (w : World) (hr0 : Kd.C (Kd.int .u64) w A0 l0.length l0) (hc0 : l0.length ≤ c0) (hr1 : Kd.C (Kd.int .u64) w A1 l1.length l1) (hc1 : l1.length ≤ c1) (h : nat_number_mul.f k l0 l1 = some r) :
  Calls Tryd.prog 47 #[.slice A0 l0.length c0, .slice A1 l1.length c1] w fun e w' => ∃ v0_ : Value, e = .returned (v0_) ∧ Kd.V (Kd.int .u64) 22 w' w.heap.size (fun k_ => (w.heap.size ≤ k_)) v0_ r ∧ Below w.heap.size w w' := by
 have aT := zA hr0;have b6 := zA hc0;clear hr0 hc0;have aU := zA hr1;have b7 := zA hc1;clear hr1 hc1;have HB := zA (Below.refl w.heap.size w);have H := h
 unfold nat_number_mul.f at H
 clear h;generalize aa : wrap64 ((l0.length : Int) + (l1.length : Int)) = aj at H;have hji3w : (IntKind.i64.wrap ((l0.length : Int) + (l1.length : Int))) = aj := (i64_w _).trans aa;replace H := dn H;obtain ⟨c4, H⟩ := H;have am := eq_true c4;have an := decide_eq_true c4;clear c4;replace H := dn H;obtain ⟨c5, H⟩ := H;have ao := eq_true c5;have ap := decide_eq_true c5;clear c5;obtain ⟨aK, ae⟩ : ∃ y_ : List Int, y_ = (List.replicate (aj : Int).toNat 0) := ⟨_, rfl⟩;(first | replace H := zRb ae H | rw [← ae] at H | skip);have ak := zA ae;clear ae;have H' := zA H;clear H;go_enter Tryd.func47, Tryd.ntmps47
 go_wp2_with (first | ((with_reducible refine zD 19 rfl ?_); refine R_make (Kd.int .u64) _ 22 rfl (N := 19) rfl 58 _ _ rfl aj rfl rfl Tryd.underlying58 (.int .u64 0) 8 info22 rfl (by decide) (by omega) 0 (ok := fun _ => True) (okp := fun _ => True) rfl (fun _ hk => hk) trivial (od) (Nat.le_trans (Nat.mul_le_mul_right _ (od : aj.toNat ≤ 35184372088832)) (by omega)) (Below.refl _ _) (Nat.le_refl _) ?_; intro v299 w6 ai hb hg_ hnew_; clear hg_ hnew_; (first | rw [← ak.out] at ai | (simp only [Int.reduceToNat] at ai; rw [← ak.out] at ai)); have aB := zA (R_lower (R_newM (M := fun k_ => (w.heap.size ≤ k_)) ai (below_size bq) (fun k_ h_ => h_)) (below_size bq)); replace HB := ze hb; clear hb ai))
 go_loopg [22] k (fun kq v22 w' => ∃ (ab : List Int) (a2 : Int), v22 = .int .i64 a2 ∧ Aside0 (nat_number_mul.l0 kq l1 ab l0 (l0.length : Int) a2 = some r) ∧ Aside0 (kq ≤ k) ∧ Aside0 (Kd.R (Kd.int .u64) 22 w' w.heap.size (fun k_ => (w.heap.size ≤ k_)) v299 ab) ∧ Aside0 (Below w.heap.size w w'))
 case atStart => exact ⟨(aK), (0), zi, H', ⟨Nat.le_refl _⟩, ⟨ru (R_mono aB.out (fun _ hk => hk.1))⟩, ⟨bq⟩⟩
 case round =>
  clear H'
  try clear c1
  try clear c4
  try clear am
  try clear an
  try clear c5
  try clear ao
  try clear ap
  obtain ⟨ab, a2, rfl, HA, HK1, a1, HB⟩ := hrel
  cases gk with
  | zero => exact absurd HA.out (by simp [nat_number_mul.l0])
  | succ k1 =>
   have H := HA.out;clear HA;simp only [nat_number_mul.l0] at H
   by_cases c8 : a2 < (l0.length : Int)
   ·rw [if_pos c8] at H;have aq := decide_eq_true c8;clear c8;replace H := dn H;obtain ⟨c9, H⟩ := H;have aL := decide_eq_true c9;clear c9;replace H := dn H;obtain ⟨c10, H⟩ := H;have aC := decide_eq_true c10;clear c10;have H' := zA H;clear H;have p304 : 0 ≤ (a2 : Int) := od;have q304 : a2 < (l0.length : Int) := od;obtain ⟨ad304, e304, a7⟩ := Kd.at_int aT.out a2 p304 q304;cases e304;replace a7 := (HB.out.cell (World.block_lt_of_cell? w _ a7)).trans a7;replace p304 := eq_true p304;replace q304 := eq_true q304
    go_wp2
    go_loopg [8, 29] k1 (fun kq v8 v29 w' => ∃ (a3 : List Int) (a6 : Int) (a5 : Int), v8 = .int .u64 a6 ∧ v29 = .int .i64 a5 ∧ Aside0 (nat_number_mul.l1 kq l1 a3 a2 (rd l0 a2) a6 l0 (l0.length : Int) a2 l1 (l1.length : Int) a5 = some r) ∧ Aside0 (kq ≤ k1) ∧ Aside0 (Kd.R (Kd.int .u64) 22 w' w.heap.size (fun k_ => (w.heap.size ≤ k_)) v299 a3) ∧ Aside0 (Below w.heap.size w w'))
    case atStart => exact ⟨(ab), (0), (0), zi, zi, H', ⟨Nat.le_refl _⟩, ⟨ru a1.out⟩, ⟨bq⟩⟩
    case round =>
     clear H'
     try clear c1
     try clear c4
     try clear am
     try clear an
     try clear c5
     try clear ao
     try clear ap
     try clear c8
     try clear aq
     try clear c9
     try clear aL
     try clear c10
     try clear aC
     try clear a7
     try clear p304
     try clear q304
     obtain ⟨a3, a6, a5, rfl, rfl, HA, HK2, a1, HB⟩ := hrel
     cases gk with
     | zero => exact absurd HA.out (by simp [nat_number_mul.l1])
     | succ k2 =>
      have H := HA.out;clear HA;simp only [nat_number_mul.l1] at H
      by_cases c11 : a5 < (l1.length : Int)
      ·rw [if_pos c11] at H;have aD := decide_eq_true c11;clear c11;replace H := dn H;obtain ⟨c12, H⟩ := H;have aY := decide_eq_true c12;clear c12;replace H := dn H;obtain ⟨c13, H⟩ := H;have az := decide_eq_true c13;clear c13;obtain ⟨⟨ar, ac⟩, aI, H⟩ := zh H;(try dsimp only at H);generalize a9 : wrap64 (a2 + a5) = a4 at H;(try rw [a9] at aI);have hji15w : (IntKind.i64.wrap (a2 + a5)) = a4 := (i64_w _).trans a9;replace H := dn H;obtain ⟨c16, H⟩ := H;have aZ := decide_eq_true c16;clear c16;replace H := dn H;obtain ⟨c17, H⟩ := H;have b1 := decide_eq_true c17;clear c17;obtain ⟨au, af⟩ : ∃ y_ : List Int, y_ = (a3.set ((a4) : Int).toNat (add64s (add64s ac (rd a3 (a4)) 0) a6 0)) := ⟨_, rfl⟩;(first | replace H := zRb af H | rw [← af] at H | skip);have aE := zA af;clear af;have H' := zA H;clear H;have p305 : 0 ≤ (a5 : Int) := od;have q305 : a5 < (l1.length : Int) := od;obtain ⟨ad305, e305, ad⟩ := Kd.at_int aU.out a5 p305 q305;cases e305;replace ad := (HB.out.cell (World.block_lt_of_cell? w _ ad)).trans ad;replace p305 := eq_true p305;replace q305 := eq_true q305
       go_wp2_with (first | ((with_reducible refine zG 74 rfl ?_); refine zC (some 37) Tryd.func74 (bits_Mul64.calls (rd l0 a2) (rd l1 a5) ar ac _ aI.out) ?_; rintro e w' ⟨rfl, ⟨nd, rfl⟩⟩; refine ⟨_, rfl, ?_⟩; (try (rw [drewN_self wr]; generalize hq_ : World.drewN wr _ = wr; have n0_ : Aside0 (Kd.R (Kd.int .u64) 22 wr w.heap.size (fun k_ => (w.heap.size ≤ k_)) v299 a3) := ⟨by rw [← hq_]; exact (ru a1.out)⟩; have n1_ : Aside0 (Below w.heap.size w wr) := ⟨by rw [← hq_]; exact bq⟩; clear a1 HB hq_; have a1 := n0_; have HB := n1_; clear n0_ n1_)); obtain ⟨b4, aM, aN⟩ := R_slice a1.out; subst aN; have p308 : 0 ≤ ((a4) : Int) := od; have q308 : (a4) < (a3.length : Int) := od; obtain ⟨ad308, e308, al⟩ := Kd.at_int (R_reads' a1.out).2.2 (a4) p308 q308; cases e308; replace p308 := eq_true p308; replace q308 := eq_true q308; have p18 : 0 ≤ ((a4) : Int) := od; have q18 : ((a4) : Int) < ((a3.length : Int) : Int) := od; obtain ⟨go18, b5, av, aw, gl18, cl18, HG18⟩ := R_form a1.out (by omega); (first | cases av | (injection av with ea_ en_ ec_; (first | subst ea_ | (injection ea_ with ea_; subst ea_)); subst ec_; clear en_)); have GB18 := zA aw; have GG18 := zA HG18; clear aw gl18 HG18; (first | simp only [add_plain] at al | skip); obtain ⟨aV, hf18_0⟩ := R_celln 0 a1.out ((a4) : Int) p18 q18; replace p18 := eq_true p18; replace q18 := eq_true q18; obtain ⟨hy20_, hz20_⟩ := R_celln 0 a1.out ((a4) : Int) (od) (od); have HP20 := R_putg a1.out ((a4) : Int) (add64s (add64s ac (rd a3 (a4)) 0) a6 0)) | ((with_reducible refine gate_store (t := 22) (p := 68) rfl ?_); refine store_event (t := 22) (p := 68) (v := ?vo_w21) (w1 := (wr.setCell ⟨go18, ((a4) : Int).toNat, none⟩ (.int .u64 (add64s (add64s ac (rd a3 (a4)) 0) a6 0)))) ?hg ?ho ?hn ?hr ?_; (case ho => rfl); (case hg => rfl); (case hn => rfl); (case hr => first | (go_simp; done) | (go_simp; rfl)); intro w21 hw; have hg : wr.grownBy w21 (some go18) := (by rw [hw]; exact HP20.2); have hp_ : Kd.R (Kd.int .u64) 22 w21 w.heap.size (fun k_ => (w.heap.size ≤ k_)) (.slice (some ⟨go18, 0, none⟩) a3.length aM) au := (by rw [hw, aE.out]; exact HP20.1); clear HP20; replace a1 := zA (hp_); replace HB := zA ((by rw [hw]; exact below_set (HB.out) GB18.out : Below w.heap.size w w21)); clear hg hw hp_))
       go_roundg k2
       case measure => have := HK1.out; have := HK2.out; omega
       case rel => exact ⟨(au), (IntKind.u64.wrap ((IntKind.u64.wrap (ar + (add64c ac (rd a3 (a4)) 0))) + (add64c (add64s ac (rd a3 (a4)) 0) a6 0))), (wrap64 (a5 + 1)), (by first | rfl | (simp; done) | (simp only [← a9] <;> (first | rfl | simp)) | (simp [*]; done)), zi, (by first | exact H' | (simp only [aa, a9]; exact H') | (simp only [aa, a9] at H' ⊢; exact H')), ⟨by have := HK1.out; have := HK2.out; omega⟩, ⟨ru a1.out⟩, ⟨bq⟩⟩
      rw [if_neg c11] at H;have aD := decide_eq_false c11;clear c11;generalize ah : wrap64 (a2 + (l1.length : Int)) = a8 at H;have hji22w : (IntKind.i64.wrap (a2 + (l1.length : Int))) = a8 := (i64_w _).trans ah;replace H := dn H;obtain ⟨c23, H⟩ := H;have b2 := decide_eq_true c23;clear c23;replace H := dn H;obtain ⟨c24, H⟩ := H;have b3 := decide_eq_true c24;clear c24;obtain ⟨ax, ag⟩ : ∃ y_ : List Int, y_ = (a3.set ((a8) : Int).toNat a6) := ⟨_, rfl⟩;(first | replace H := zRb ag H | rw [← ag] at H | skip);have aF := zA ag;clear ag;have H' := zA H;clear H;have p25 : 0 ≤ ((a8) : Int) := od;have q25 : ((a8) : Int) < ((a3.length : Int) : Int) := od;obtain ⟨go25, aO, ay, aA, gl25, cl25, HG25⟩ := R_form a1.out (by omega)
      (first | cases ay | (injection ay with ea_ en_ ec_; (first | subst ea_ | (injection ea_ with ea_; subst ea_)); subst ec_; clear en_))
      have GB25 := zA aA;have GG25 := zA HG25;clear aA gl25 HG25;obtain ⟨aW, hf25_0⟩ := R_celln 0 a1.out ((a8) : Int) p25 q25;replace p25 := eq_true p25;replace q25 := eq_true q25;have HP26 := R_putg a1.out ((a8) : Int) a6
      go_wp2_with (first | ((with_reducible refine gate_store (t := 22) (p := 76) rfl ?_); refine store_event (t := 22) (p := 76) (v := ?vo_w27) (w1 := (wr.setCell ⟨go25, ((a8) : Int).toNat, none⟩ (.int .u64 a6))) ?hg ?ho ?hn ?hr ?_; (case ho => rfl); (case hg => rfl); (case hn => rfl); (case hr => first | (go_simp; done) | (go_simp; rfl)); intro w27 hw; have hg : wr.grownBy w27 (some go25) := (by rw [hw]; exact HP26.2); have hp_ : Kd.R (Kd.int .u64) 22 w27 w.heap.size (fun k_ => (w.heap.size ≤ k_)) (.slice (some ⟨go25, 0, none⟩) a3.length aO) ax := (by rw [hw, aF.out]; exact HP26.1); clear HP26; replace a1 := zA (hp_); replace HB := zA ((by rw [hw]; exact below_set (HB.out) GB25.out : Below w.heap.size w w27)); clear hg hw hp_))
      go_roundg k2
      case measure => have := HK1.out; have := HK2.out; omega
      case rel => exact ⟨(ax), (wrap64 (a2 + 1)), zi, (by first | exact H' | (simp only [aa, ah]; exact H') | (simp only [aa, ah] at H' ⊢; exact H')), ⟨by have := HK1.out; have := HK2.out; omega⟩, ⟨ru a1.out⟩, ⟨bq⟩⟩
   rw [if_neg c8] at H;have aq := decide_eq_false c8;clear c8;obtain ⟨aP, aX, H⟩ := zh H;obtain rfl := Option.some.inj H;obtain ⟨aQ, aR, aS⟩ := R_slice a1.out;subst aS
   go_wp2_with (first | ((with_reducible refine zG 38 rfl ?_); refine zC (some 79) Tryd.func38 (nat_norm.calls k1 (fun k_ => some k_ = (.slice aQ ab.length aR : Value).ownBlock) _ _ ab aP _ ?aG aX.out) ?_; (case aG => exact R_V (R_tight rfl (a1.out))); rintro e w30 ⟨v302, rfl, aJ, hb⟩; refine ⟨_, rfl, ?_⟩; have aH := zA (V_lower (V_mono (ok' := fun k_ => (w.heap.size ≤ k_)) aJ (fun k_ hk_ => Or.elim hk_ (fun hs_ => ((a1.out).1 k_ hs_.symm)) (fun hn_ => (Nat.le_trans (below_size bq) hn_)))) (below_size bq)); replace a1 := zA (R_below (ru a1.out) hb); replace HB := ze hb; (try clear aJ)))
   go_ret;exact ⟨_, by first | rfl | (simp [errW_none, errW_some] <;> rfl) | (simp only [← aa]; first | rfl | (simp [errW_none, errW_some] <;> rfl)) | (simp [*, errW_none, errW_some] <;> rfl), vu aH.out, bq⟩
def bits_Len64.j0 : Nat → Int → Int → Option (Int)
 | 0, _, _ => none
 | k + 1, x0, x2 => if x0 ≥ 65536 then (if (x0 / 65536) ≥ 256 then (if 0 ≤ (((x0 / 65536) / 256) % 256) then (if (((x0 / 65536) / 256) % 256) < 256 then (some (wrap64 ((wrap64 ((wrap64 (x2 + 16)) + 8)) + (wrap64 (bt (⟨#[0, 1, 2, 2, 3, 3, 3, 3, 4, 4, 4, 4, 4, 4, 4, 4, 5, 5, 5, 5, 5, 5, 5, 5, 5, 5, 5, 5, 5, 5, 5, 5, 6, 6, 6, 6, 6, 6, 6, 6, 6, 6, 6, 6, 6, 6, 6, 6, 6, 6, 6, 6, 6, 6, 6, 6, 6, 6, 6, 6, 6, 6, 6, 6, 7, 7, 7, 7, 7, 7, 7, 7, 7, 7, 7, 7, 7, 7, 7, 7, 7, 7, 7, 7, 7, 7, 7, 7, 7, 7, 7, 7, 7, 7, 7, 7, 7, 7, 7, 7, 7, 7, 7, 7, 7, 7, 7, 7, 7, 7, 7, 7, 7, 7, 7, 7, 7, 7, 7, 7, 7, 7, 7, 7, 7, 7, 7, 7, 8, 8, 8, 8, 8, 8, 8, 8, 8, 8, 8, 8, 8, 8, 8, 8, 8, 8, 8, 8, 8, 8, 8, 8, 8, 8, 8, 8, 8, 8, 8, 8, 8, 8, 8, 8, 8, 8, 8, 8, 8, 8, 8, 8, 8, 8, 8, 8, 8, 8, 8, 8, 8, 8, 8, 8, 8, 8, 8, 8, 8, 8, 8, 8, 8, 8, 8, 8, 8, 8, 8, 8, 8, 8, 8, 8, 8, 8, 8, 8, 8, 8, 8, 8, 8, 8, 8, 8, 8, 8, 8, 8, 8, 8, 8, 8, 8, 8, 8, 8, 8, 8, 8, 8, 8, 8, 8, 8, 8, 8, 8, 8, 8, 8, 8, 8, 8, 8, 8, 8, 8, 8, 8, 8, 8, 8, 8, 8]⟩ : ByteArray) (((x0 / 65536) / 256) % 256)))))) else (none)) else (none)) else (if 0 ≤ ((x0 / 65536) % 256) then (if ((x0 / 65536) % 256) < 256 then (some (wrap64 ((wrap64 (x2 + 16)) + (wrap64 (bt (⟨#[0, 1, 2, 2, 3, 3, 3, 3, 4, 4, 4, 4, 4, 4, 4, 4, 5, 5, 5, 5, 5, 5, 5, 5, 5, 5, 5, 5, 5, 5, 5, 5, 6, 6, 6, 6, 6, 6, 6, 6, 6, 6, 6, 6, 6, 6, 6, 6, 6, 6, 6, 6, 6, 6, 6, 6, 6, 6, 6, 6, 6, 6, 6, 6, 7, 7, 7, 7, 7, 7, 7, 7, 7, 7, 7, 7, 7, 7, 7, 7, 7, 7, 7, 7, 7, 7, 7, 7, 7, 7, 7, 7, 7, 7, 7, 7, 7, 7, 7, 7, 7, 7, 7, 7, 7, 7, 7, 7, 7, 7, 7, 7, 7, 7, 7, 7, 7, 7, 7, 7, 7, 7, 7, 7, 7, 7, 7, 7, 8, 8, 8, 8, 8, 8, 8, 8, 8, 8, 8, 8, 8, 8, 8, 8, 8, 8, 8, 8, 8, 8, 8, 8, 8, 8, 8, 8, 8, 8, 8, 8, 8, 8, 8, 8, 8, 8, 8, 8, 8, 8, 8, 8, 8, 8, 8, 8, 8, 8, 8, 8, 8, 8, 8, 8, 8, 8, 8, 8, 8, 8, 8, 8, 8, 8, 8, 8, 8, 8, 8, 8, 8, 8, 8, 8, 8, 8, 8, 8, 8, 8, 8, 8, 8, 8, 8, 8, 8, 8, 8, 8, 8, 8, 8, 8, 8, 8, 8, 8, 8, 8, 8, 8, 8, 8, 8, 8, 8, 8, 8, 8, 8, 8, 8, 8, 8, 8, 8, 8, 8, 8, 8, 8, 8, 8, 8, 8]⟩ : ByteArray) ((x0 / 65536) % 256)))))) else (none)) else (none))) else (if x0 ≥ 256 then (if 0 ≤ ((x0 / 256) % 256) then (if ((x0 / 256) % 256) < 256 then (some (wrap64 ((wrap64 (x2 + 8)) + (wrap64 (bt (⟨#[0, 1, 2, 2, 3, 3, 3, 3, 4, 4, 4, 4, 4, 4, 4, 4, 5, 5, 5, 5, 5, 5, 5, 5, 5, 5, 5, 5, 5, 5, 5, 5, 6, 6, 6, 6, 6, 6, 6, 6, 6, 6, 6, 6, 6, 6, 6, 6, 6, 6, 6, 6, 6, 6, 6, 6, 6, 6, 6, 6, 6, 6, 6, 6, 7, 7, 7, 7, 7, 7, 7, 7, 7, 7, 7, 7, 7, 7, 7, 7, 7, 7, 7, 7, 7, 7, 7, 7, 7, 7, 7, 7, 7, 7, 7, 7, 7, 7, 7, 7, 7, 7, 7, 7, 7, 7, 7, 7, 7, 7, 7, 7, 7, 7, 7, 7, 7, 7, 7, 7, 7, 7, 7, 7, 7, 7, 7, 7, 8, 8, 8, 8, 8, 8, 8, 8, 8, 8, 8, 8, 8, 8, 8, 8, 8, 8, 8, 8, 8, 8, 8, 8, 8, 8, 8, 8, 8, 8, 8, 8, 8, 8, 8, 8, 8, 8, 8, 8, 8, 8, 8, 8, 8, 8, 8, 8, 8, 8, 8, 8, 8, 8, 8, 8, 8, 8, 8, 8, 8, 8, 8, 8, 8, 8, 8, 8, 8, 8, 8, 8, 8, 8, 8, 8, 8, 8, 8, 8, 8, 8, 8, 8, 8, 8, 8, 8, 8, 8, 8, 8, 8, 8, 8, 8, 8, 8, 8, 8, 8, 8, 8, 8, 8, 8, 8, 8, 8, 8, 8, 8, 8, 8, 8, 8, 8, 8, 8, 8, 8, 8, 8, 8, 8, 8, 8, 8]⟩ : ByteArray) ((x0 / 256) % 256)))))) else (none)) else (none)) else (if 0 ≤ ((x0) % 256) then (if ((x0) % 256) < 256 then (some (wrap64 (x2 + (wrap64 (bt (⟨#[0, 1, 2, 2, 3, 3, 3, 3, 4, 4, 4, 4, 4, 4, 4, 4, 5, 5, 5, 5, 5, 5, 5, 5, 5, 5, 5, 5, 5, 5, 5, 5, 6, 6, 6, 6, 6, 6, 6, 6, 6, 6, 6, 6, 6, 6, 6, 6, 6, 6, 6, 6, 6, 6, 6, 6, 6, 6, 6, 6, 6, 6, 6, 6, 7, 7, 7, 7, 7, 7, 7, 7, 7, 7, 7, 7, 7, 7, 7, 7, 7, 7, 7, 7, 7, 7, 7, 7, 7, 7, 7, 7, 7, 7, 7, 7, 7, 7, 7, 7, 7, 7, 7, 7, 7, 7, 7, 7, 7, 7, 7, 7, 7, 7, 7, 7, 7, 7, 7, 7, 7, 7, 7, 7, 7, 7, 7, 7, 8, 8, 8, 8, 8, 8, 8, 8, 8, 8, 8, 8, 8, 8, 8, 8, 8, 8, 8, 8, 8, 8, 8, 8, 8, 8, 8, 8, 8, 8, 8, 8, 8, 8, 8, 8, 8, 8, 8, 8, 8, 8, 8, 8, 8, 8, 8, 8, 8, 8, 8, 8, 8, 8, 8, 8, 8, 8, 8, 8, 8, 8, 8, 8, 8, 8, 8, 8, 8, 8, 8, 8, 8, 8, 8, 8, 8, 8, 8, 8, 8, 8, 8, 8, 8, 8, 8, 8, 8, 8, 8, 8, 8, 8, 8, 8, 8, 8, 8, 8, 8, 8, 8, 8, 8, 8, 8, 8, 8, 8, 8, 8, 8, 8, 8, 8, 8, 8, 8, 8, 8, 8, 8, 8, 8, 8, 8, 8]⟩ : ByteArray) ((x0) % 256)))))) else (none)) else (none)))
def bits_Len64.f (k : Nat) (a0 : Int) : Option (Int) := if a0 ≥ 4294967296 then (bits_Len64.j0 k (a0 / 4294967296) 32) else (bits_Len64.j0 k a0 0)
set_option maxHeartbeats 8000000 in
set_option maxRecDepth 100000 in
theorem bits_Len64.calls (k : Nat) (a0 : Int) (r : Int) (w : World) (h : bits_Len64.f k a0 = some r) :
  Calls Tryd.prog 61 #[.int .u64 a0] w fun e w' => e = .returned (.int .i64 r) ∧ Drawn0 w w' := by
 have H := h
 unfold bits_Len64.f at H
 clear h;have a7 := zA H;clear H;go_enter Tryd.func61, Tryd.ntmps61
 go_upto_if 4 with (fail)
 go_cut [0, 2] (fun v0 v2 wc => ∃ (kq : Nat) (a1 : Int) (a3 : Int), v0 = .int .u64 a1 ∧ v2 = .int .i64 a3 ∧ Aside0 (bits_Len64.j0 kq a1 a3 = some r) ∧ Aside0 (kq ≤ k) ∧ Drawn0 w wc)
 case first =>
  have H := a7.out;clear a7
  by_cases c3 : a0 ≥ 4294967296
  ·rw [if_pos c3] at H;have a2 := decide_eq_true c3;clear c3
   (first | rw [a2] | (simp only [i64_w, i32_w]; rw [a2]) | skip)
   have H' := zA H;clear H
   go_wp2
   go_meet
   case rel => exact ⟨_, (a0 / 4294967296), (32), zi, zi, H', ⟨by first | omega | exact Nat.le_refl _⟩, by repeat (first | exact Drawn0.refl _ | apply Drawn0.step)⟩
  rw [if_neg c3] at H;have a2 := decide_eq_false c3;clear c3
  (first | rw [a2] | (simp only [i64_w, i32_w]; rw [a2]) | skip)
  have H' := zA H;clear H
  go_wp2
  go_meet
  case rel => exact ⟨_, (a0), (0), zi, zi, H', ⟨by first | omega | exact Nat.le_refl _⟩, by repeat (first | exact Drawn0.refl _ | apply Drawn0.step)⟩
 case rest =>
  clear a7
  try clear c3
  try clear a2
  obtain ⟨kq, a1, a3, rfl, rfl, HA, ao, ⟨mc1, rfl⟩⟩ := hcut
  cases kq with
  | zero => exact absurd HA.out (by simp [bits_Len64.j0])
  | succ ap =>
   have H := HA.out;clear HA;simp only [bits_Len64.j0] at H
   by_cases c4 : a1 ≥ 65536
   ·rw [if_pos c4] at H;have ad := decide_eq_true c4;clear c4
    by_cases c5 : (a1 / 65536) ≥ 256
    ·rw [if_pos c5] at H;have ae := decide_eq_true c5;clear c5;generalize af : ((a1 / 65536) / 256) % 256 = a8 at H;replace H := dn H;obtain ⟨c7, H⟩ := H;have am := decide_eq_true c7;clear c7;replace H := dn H;obtain ⟨c8, H⟩ := H;have an := decide_eq_true c8;clear c8;obtain rfl := Option.some.inj H;have p9 : 0 ≤ ((a8) : Int) := od;have q9 : (a8) < (256 : Int) := od;have hx9 := bt_at (⟨#[0, 1, 2, 2, 3, 3, 3, 3, 4, 4, 4, 4, 4, 4, 4, 4, 5, 5, 5, 5, 5, 5, 5, 5, 5, 5, 5, 5, 5, 5, 5, 5, 6, 6, 6, 6, 6, 6, 6, 6, 6, 6, 6, 6, 6, 6, 6, 6, 6, 6, 6, 6, 6, 6, 6, 6, 6, 6, 6, 6, 6, 6, 6, 6, 7, 7, 7, 7, 7, 7, 7, 7, 7, 7, 7, 7, 7, 7, 7, 7, 7, 7, 7, 7, 7, 7, 7, 7, 7, 7, 7, 7, 7, 7, 7, 7, 7, 7, 7, 7, 7, 7, 7, 7, 7, 7, 7, 7, 7, 7, 7, 7, 7, 7, 7, 7, 7, 7, 7, 7, 7, 7, 7, 7, 7, 7, 7, 7, 8, 8, 8, 8, 8, 8, 8, 8, 8, 8, 8, 8, 8, 8, 8, 8, 8, 8, 8, 8, 8, 8, 8, 8, 8, 8, 8, 8, 8, 8, 8, 8, 8, 8, 8, 8, 8, 8, 8, 8, 8, 8, 8, 8, 8, 8, 8, 8, 8, 8, 8, 8, 8, 8, 8, 8, 8, 8, 8, 8, 8, 8, 8, 8, 8, 8, 8, 8, 8, 8, 8, 8, 8, 8, 8, 8, 8, 8, 8, 8, 8, 8, 8, 8, 8, 8, 8, 8, 8, 8, 8, 8, 8, 8, 8, 8, 8, 8, 8, 8, 8, 8, 8, 8, 8, 8, 8, 8, 8, 8, 8, 8, 8, 8, 8, 8, 8, 8, 8, 8, 8, 8, 8, 8, 8, 8, 8, 8]⟩ : ByteArray) (a8);replace p9 := eq_true p9;replace q9 := eq_true q9
     go_wp2
     go_ret;exact ⟨by first | rfl | (simp; done) | (simp only [← af] <;> (first | rfl | simp)) | (simp [*]; done), by repeat (first | exact Drawn0.refl _ | apply Drawn0.step)⟩
    rw [if_neg c5] at H;have ae := decide_eq_false c5;clear c5;generalize a9 : (a1 / 65536) % 256 = a4 at H;replace H := dn H;obtain ⟨c11, H⟩ := H;have ag := decide_eq_true c11;clear c11;replace H := dn H;obtain ⟨c12, H⟩ := H;have ah := decide_eq_true c12;clear c12;obtain rfl := Option.some.inj H;have p13 : 0 ≤ ((a4) : Int) := od;have q13 : (a4) < (256 : Int) := od;have hx13 := bt_at (⟨#[0, 1, 2, 2, 3, 3, 3, 3, 4, 4, 4, 4, 4, 4, 4, 4, 5, 5, 5, 5, 5, 5, 5, 5, 5, 5, 5, 5, 5, 5, 5, 5, 6, 6, 6, 6, 6, 6, 6, 6, 6, 6, 6, 6, 6, 6, 6, 6, 6, 6, 6, 6, 6, 6, 6, 6, 6, 6, 6, 6, 6, 6, 6, 6, 7, 7, 7, 7, 7, 7, 7, 7, 7, 7, 7, 7, 7, 7, 7, 7, 7, 7, 7, 7, 7, 7, 7, 7, 7, 7, 7, 7, 7, 7, 7, 7, 7, 7, 7, 7, 7, 7, 7, 7, 7, 7, 7, 7, 7, 7, 7, 7, 7, 7, 7, 7, 7, 7, 7, 7, 7, 7, 7, 7, 7, 7, 7, 7, 8, 8, 8, 8, 8, 8, 8, 8, 8, 8, 8, 8, 8, 8, 8, 8, 8, 8, 8, 8, 8, 8, 8, 8, 8, 8, 8, 8, 8, 8, 8, 8, 8, 8, 8, 8, 8, 8, 8, 8, 8, 8, 8, 8, 8, 8, 8, 8, 8, 8, 8, 8, 8, 8, 8, 8, 8, 8, 8, 8, 8, 8, 8, 8, 8, 8, 8, 8, 8, 8, 8, 8, 8, 8, 8, 8, 8, 8, 8, 8, 8, 8, 8, 8, 8, 8, 8, 8, 8, 8, 8, 8, 8, 8, 8, 8, 8, 8, 8, 8, 8, 8, 8, 8, 8, 8, 8, 8, 8, 8, 8, 8, 8, 8, 8, 8, 8, 8, 8, 8, 8, 8, 8, 8, 8, 8, 8, 8]⟩ : ByteArray) (a4);replace p13 := eq_true p13;replace q13 := eq_true q13
    go_wp2
    go_ret;exact ⟨by first | rfl | (simp; done) | (simp only [← a9] <;> (first | rfl | simp)) | (simp [*]; done), by repeat (first | exact Drawn0.refl _ | apply Drawn0.step)⟩
   rw [if_neg c4] at H;have ad := decide_eq_false c4;clear c4
   by_cases c14 : a1 ≥ 256
   ·rw [if_pos c14] at H;have aa := decide_eq_true c14;clear c14;generalize ab : (a1 / 256) % 256 = a5 at H;replace H := dn H;obtain ⟨c16, H⟩ := H;have ai := decide_eq_true c16;clear c16;replace H := dn H;obtain ⟨c17, H⟩ := H;have aj := decide_eq_true c17;clear c17;obtain rfl := Option.some.inj H;have p18 : 0 ≤ ((a5) : Int) := od;have q18 : (a5) < (256 : Int) := od;have hx18 := bt_at (⟨#[0, 1, 2, 2, 3, 3, 3, 3, 4, 4, 4, 4, 4, 4, 4, 4, 5, 5, 5, 5, 5, 5, 5, 5, 5, 5, 5, 5, 5, 5, 5, 5, 6, 6, 6, 6, 6, 6, 6, 6, 6, 6, 6, 6, 6, 6, 6, 6, 6, 6, 6, 6, 6, 6, 6, 6, 6, 6, 6, 6, 6, 6, 6, 6, 7, 7, 7, 7, 7, 7, 7, 7, 7, 7, 7, 7, 7, 7, 7, 7, 7, 7, 7, 7, 7, 7, 7, 7, 7, 7, 7, 7, 7, 7, 7, 7, 7, 7, 7, 7, 7, 7, 7, 7, 7, 7, 7, 7, 7, 7, 7, 7, 7, 7, 7, 7, 7, 7, 7, 7, 7, 7, 7, 7, 7, 7, 7, 7, 8, 8, 8, 8, 8, 8, 8, 8, 8, 8, 8, 8, 8, 8, 8, 8, 8, 8, 8, 8, 8, 8, 8, 8, 8, 8, 8, 8, 8, 8, 8, 8, 8, 8, 8, 8, 8, 8, 8, 8, 8, 8, 8, 8, 8, 8, 8, 8, 8, 8, 8, 8, 8, 8, 8, 8, 8, 8, 8, 8, 8, 8, 8, 8, 8, 8, 8, 8, 8, 8, 8, 8, 8, 8, 8, 8, 8, 8, 8, 8, 8, 8, 8, 8, 8, 8, 8, 8, 8, 8, 8, 8, 8, 8, 8, 8, 8, 8, 8, 8, 8, 8, 8, 8, 8, 8, 8, 8, 8, 8, 8, 8, 8, 8, 8, 8, 8, 8, 8, 8, 8, 8, 8, 8, 8, 8, 8, 8]⟩ : ByteArray) (a5);replace p18 := eq_true p18;replace q18 := eq_true q18
    go_wp2
    go_ret;exact ⟨by first | rfl | (simp; done) | (simp only [← ab] <;> (first | rfl | simp)) | (simp [*]; done), by repeat (first | exact Drawn0.refl _ | apply Drawn0.step)⟩
   rw [if_neg c14] at H;have aa := decide_eq_false c14;clear c14;generalize ac : (a1) % 256 = a6 at H;replace H := dn H;obtain ⟨c20, H⟩ := H;have ak := decide_eq_true c20;clear c20;replace H := dn H;obtain ⟨c21, H⟩ := H;have al := decide_eq_true c21;clear c21;obtain rfl := Option.some.inj H;have p22 : 0 ≤ ((a6) : Int) := od;have q22 : (a6) < (256 : Int) := od;have hx22 := bt_at (⟨#[0, 1, 2, 2, 3, 3, 3, 3, 4, 4, 4, 4, 4, 4, 4, 4, 5, 5, 5, 5, 5, 5, 5, 5, 5, 5, 5, 5, 5, 5, 5, 5, 6, 6, 6, 6, 6, 6, 6, 6, 6, 6, 6, 6, 6, 6, 6, 6, 6, 6, 6, 6, 6, 6, 6, 6, 6, 6, 6, 6, 6, 6, 6, 6, 7, 7, 7, 7, 7, 7, 7, 7, 7, 7, 7, 7, 7, 7, 7, 7, 7, 7, 7, 7, 7, 7, 7, 7, 7, 7, 7, 7, 7, 7, 7, 7, 7, 7, 7, 7, 7, 7, 7, 7, 7, 7, 7, 7, 7, 7, 7, 7, 7, 7, 7, 7, 7, 7, 7, 7, 7, 7, 7, 7, 7, 7, 7, 7, 8, 8, 8, 8, 8, 8, 8, 8, 8, 8, 8, 8, 8, 8, 8, 8, 8, 8, 8, 8, 8, 8, 8, 8, 8, 8, 8, 8, 8, 8, 8, 8, 8, 8, 8, 8, 8, 8, 8, 8, 8, 8, 8, 8, 8, 8, 8, 8, 8, 8, 8, 8, 8, 8, 8, 8, 8, 8, 8, 8, 8, 8, 8, 8, 8, 8, 8, 8, 8, 8, 8, 8, 8, 8, 8, 8, 8, 8, 8, 8, 8, 8, 8, 8, 8, 8, 8, 8, 8, 8, 8, 8, 8, 8, 8, 8, 8, 8, 8, 8, 8, 8, 8, 8, 8, 8, 8, 8, 8, 8, 8, 8, 8, 8, 8, 8, 8, 8, 8, 8, 8, 8, 8, 8, 8, 8, 8, 8]⟩ : ByteArray) (a6);replace p22 := eq_true p22;replace q22 := eq_true q22
   go_wp2
   go_ret;exact ⟨by first | rfl | (simp; done) | (simp only [← ac] <;> (first | rfl | simp)) | (simp [*]; done), by repeat (first | exact Drawn0.refl _ | apply Drawn0.step)⟩
def nat_number_len.f (k : Nat) (l0 : List Int) : Option (Int) := if (l0.length : Int) = 0 then (some 0) else (if 0 ≤ (wrap64 ((l0.length : Int) - 1)) then (if (wrap64 ((l0.length : Int) - 1)) < (l0.length : Int) then ((bits_Len64.f k (rd l0 (wrap64 ((l0.length : Int) - 1)))).bind fun a1 => (some (wrap64 ((wrap64 (64 * (wrap64 ((l0.length : Int) - 1)))) + a1)))) else (none)) else (none))
set_option maxHeartbeats 8000000 in
set_option maxRecDepth 100000 in
theorem nat_number_len.calls (k : Nat) (A0 : Option Addr) (c0 : Nat) (l0 : List Int) (r : Int) (w : World) (hr0 : Kd.C (Kd.int .u64) w A0 l0.length l0) (hc0 : l0.length ≤ c0) (h : nat_number_len.f k l0 = some r) :
  Calls Tryd.prog 35 #[.slice A0 l0.length c0] w fun e w' => e = .returned (.int .i64 r) ∧ Drawn0 w w' := by
 have a7 := zA hr0;have ab := zA hc0;clear hr0 hc0;have H := h
 unfold nat_number_len.f at H
 clear h
 by_cases c2 : (l0.length : Int) = 0
 ·rw [if_pos c2] at H;have a3 := beq_iff_eq.mpr c2;have a4 := bne_eq_false_iff_eq.mpr c2;clear c2;obtain rfl := Option.some.inj H;go_enter Tryd.func35, Tryd.ntmps35
  go_wp2
  go_ret;exact ⟨by first | rfl | (simp; done) | (simp [*]; done), by repeat (first | exact Drawn0.refl _ | apply Drawn0.step)⟩
 rw [if_neg c2] at H;have a3 := beq_eq_false_iff_ne.mpr c2;have a4 := bne_iff_ne.mpr c2
 have a8 : ¬ (l0 = []) := fun h_ => c2 (by rw [h_]; rfl)
 generalize a2 : wrap64 ((l0.length : Int) - 1) = a1 at H;have hji3w : (IntKind.i64.wrap ((l0.length : Int) - 1)) = a1 := (i64_w _).trans a2;replace H := dn H;obtain ⟨c4, H⟩ := H;have a9 := decide_eq_true c4;clear c4;replace H := dn H;obtain ⟨c5, H⟩ := H;have aa := decide_eq_true c5;clear c5;obtain ⟨a5, A6, H⟩ := zh H;obtain rfl := Option.some.inj H;have p181 : 0 ≤ ((a1) : Int) := od;have q181 : (a1) < (l0.length : Int) := od;obtain ⟨ad181, e181, a6⟩ := Kd.at_int a7.out (a1) p181 q181;cases e181;replace p181 := eq_true p181;replace q181 := eq_true q181;go_enter Tryd.func35, Tryd.ntmps35
 go_wp2_with (first | ((with_reducible refine zG 61 rfl ?_); refine goesL_ (some 16) rfl rfl Tryd.func61 (by kernel_rfl) rfl #[.int .u64 (rd l0 (a1))] rfl (by (try simp only [List.map_toArray, List.map_cons, List.map_nil]); first | done | (simp only [a2]; rfl) | rfl | (simp only [List.length_drop, List.length_take]; rfl)) ?_; (with_reducible refine (bits_Len64.calls k (rd l0 (a1)) a5 _ A6.out).mono ?_); rintro e w' ⟨rfl, ⟨nd, rfl⟩⟩; refine ⟨_, rfl, ?_⟩))
 go_ret;exact ⟨by first | rfl | (simp; done) | (simp only [← a2] <;> (first | rfl | simp)) | (simp [*]; done), by repeat (first | exact Drawn0.refl _ | apply Drawn0.step)⟩
end Go.Proofs.YtjnfipkbgmdpaaaDoor.PAll
