/- Printed functions. -/
import Derived.Test.YtjnfipkbgmdpaaaGreatDoorXAlgRisesP0
namespace Go.Proofs.YtjnfipkbgmdpaaaGreatDoor.PAll
open RowKit YtjnfipkbgmdpaaaGreatDoorW.PrintWords YtjnfipkbgmdpaaaGreatDoorW.PrintLast YtjnfipkbgmdpaaaGreatDoorW.PrintMore YtjnfipkbgmdpaaaGreatDoorW.PrintWords.Kd
attribute [local go_sem] Z1k Z1l Z1G Z1H Z16 Z17 Z1m Z1n
set_option linter.unusedVariables false
set_option maxHeartbeats 8000000
set_option maxRecDepth 100000
set_option linter.unusedSimpArgs false
attribute [local go_sem] fld77_0 fld77_1 fld77_2 ext153 ext154
def Z1L.f (k : Nat) (a1 : Bool) (a2 : List Int) (a3 : Int) : Option (Bool × List Int × Int × Int) := (Z2Q.f k a1 a2 a3).bind fun a4 => (if a4 = true then (some (a1, a2, a3, 0)) else (some (false, ([] : List Int), 0, 3)))
theorem Z1L.calls (k : Nat) (a6 : Bool) (P0_1_ : Nat → Prop) (a8 : Option Addr) (a9 : Nat) (a4 : List Int) (a7 : Int) (r1 : Bool) (r2 : List Int) (r3 : Int) (r4 : Int) (w : World) (hs0_1 : Kd.V Zu 22 w w.heap.size (fun k_ => P0_1_ k_) (.slice a8 a4.length a9) a4) (h : Z1L.f k a6 a4 a7 = some (r1, r2, r3, r4)) :
  Calls Tryz.prog 137 #[.agg #[.bool a6, .slice a8 a4.length a9, .int .i64 a7]] w fun e w' => ∃ v1_ : Value, e = .returned (.tuple #[.agg #[.bool r1, v1_, .int .i64 r3], .int .i64 r4]) ∧ Kd.V Zu 22 w' w.heap.size (fun k_ => (P0_1_ k_ ∨ w.heap.size ≤ k_)) v1_ r2 ∧ Below w.heap.size w w' := by
 have hu34 := Tryz.underlying34;have a1 := zA (show Kd.V Zu 22 w w.heap.size (fun k_ => (P0_1_ k_ ∨ w.heap.size ≤ k_)) (.slice a8 a4.length a9) a4 from Z5 hs0_1 (fun k_ hk => .inl hk));have HB := zA (Below.refl w.heap.size w);have H := h
 unfold Z1L.f at H
 clear h;obtain ⟨ad, A2, H⟩ := zh H
 by_cases c3 : ad = true
 subst c3;rw [if_pos rfl] at H;rotate_left;replace c3 := Bool.eq_false_iff.mpr c3;subst c3;rw [if_neg (show ¬ (false = true) by decide)] at H;rotate_left
 all_goals
  simp only [zk3, zk5] at H;obtain ⟨rfl, rfl, rfl, rfl⟩ := H;go_enter Tryz.func137, Tryz.ntmps137
  go_wp2_with (first | ((with_reducible refine zD 1 rfl ?_); refine zn (N := 1) (cs := #[.bool a6, .slice a8 a4.length a9, .int .i64 a7]) (t := 34) rfl rfl ?_; intro ac hg w4 hbox hb; replace a1 := zA (Z6 (ZX (vu a1.out) ac (zkg hg.symm)) hb); have a2 := zA (hbox); have aq := zw hg; replace HB := ze hb; clear hb hbox hg) | ((with_reducible refine zD 2 rfl ?_); refine zn (N := 2) (cs := #[.bool false, .slice none 0 0, .int .i64 0]) (t := 34) rfl rfl ?_; intro a5 hg w5 hbox hb; replace a1 := zA (Z6 (ZX (vu a1.out) a5 (zkg hg.symm)) hb); have a3 := zA (hbox); have ar := zx hg; replace HB := zf hb; have aa := zl a2 hg; have ab := zg a2 hg; replace a2 := zb a2 hb; clear hb hbox hg; have aB := aa.out; have aC := ab.out; obtain ⟨_, _, _, _, _, _⟩ := zc a2) | ((with_reducible refine zG 144 rfl ?_); refine zC (some 5) Tryz.func144 (Z2Q.calls k a6 _ _ a4 a7 true _ (zk (Z7 a1.out).2.2) ((Z7 a1.out).2.1) A2.out) ?_; rintro e w8 ⟨rfl, hb⟩; refine ⟨_, rfl, ?_⟩; replace a1 := zA (Z6 (vu a1.out) hb); replace a2 := zb a2 hb; replace a3 := zb a3 hb; replace HB := zf hb; obtain ⟨au, av, aw, ax, ay, aA⟩ := zc a2; obtain ⟨ae, af, ag, ah, ai, aj⟩ := zc a3) | ((with_reducible refine zG 144 rfl ?_); refine zC (some 5) Tryz.func144 (Z2Q.calls k a6 _ _ a4 a7 false _ (zk (Z7 a1.out).2.2) ((Z7 a1.out).2.1) A2.out) ?_; rintro e w15 ⟨rfl, hb⟩; refine ⟨_, rfl, ?_⟩; replace a1 := zA (Z6 (vu a1.out) hb); replace a2 := zb a2 hb; replace a3 := zb a3 hb; replace HB := zf hb; obtain ⟨ak, al, am, an, ao, ap⟩ := zc a3))
 ·refine bodyPost_ret (Z07 rfl _ _ a5 34 #[.bool a6, .slice a8 a4.length a9, .int .i64 a7] (0, 0) _ rfl (zy a3) Tryz.underlying34 rfl (by kernel_rfl)) rfl ?_;exact ⟨_, er, vu (Z5 (zv a5 (Z5 a1.out (fun k_ hk => (⟨hk, hk.2⟩ : _ ∧ k_ ≠ a5))) (fun _ hk => hk.2) _ _ _) (fun _ hk => hk.1.1.1)), zs⟩
 refine bodyPost_ret (Z07 rfl _ _ a5 34 #[.bool false, .slice none 0 0, .int .i64 0] (0, 0) _ rfl (zy a3) Tryz.underlying34 rfl (by kernel_rfl)) rfl ?_;exact ⟨_, er, Z11 _ _ _ _ _, zs⟩
section
variable {P : Program} {ops : Array Oper} {Q : Exit → Act → World → Prop}
/-- A call of a function value, as an arm of go_wp2_with. -/
theorem goesV_ {rest : List Oper} {oi : Oper} {a : Act} {w : World} (N : Option Tmp) (hd : oi.dst = N) (hg : oi.guard = none) {f : FuncId} {fn : Func} {op : Operand} {as_ : Array Operand} {ts : Array TypeId} (first cap : Array Value)
  (hop : oi.op = .call { callee := .value op, args := as_, argTypes := ts }) (hv : a.eval op = .func (.func f) first cap)
  (hf : P.funcs[f]? = some fn) (hname : (fn.name == "runtime.NumGoroutine") = false) (hb : fn.body.isSome = true) (args : Array Value)
  (hargs : first ++ as_.map a.eval ++ cap = args)
  (h : Calls P f args w fun e w' => ∃ v, e = .returned v ∧ wpList P ops Q rest (a.put N v) w') : wpList P ops Q (oi :: rest) a w := by
 refine wpList_plain hg fun K hK => ?_
 have he := Z76 hf hname hb args w
 have hrun : (execOp a.eval oi).run P w = .ok (.enter f args) w := by
  unfold execOp
  simp [hop, resolve, Deferred.ofValue, invoke, hv, ← hargs] at he ⊢
  exact he
 unfold Oper.wp
 rw [hrun, Oper.upon_enter]
 refine h.mono fun e w'' hh => ?_
 obtain ⟨v, rfl, hk⟩ := hh;subst hd;exact hK _ _ hk
end
/-- of's test: the number is not right. -/
theorem hand_of1 (k : Nat) (s : Bool) (A : Option Addr) (c : Nat) (l : List Int) (e : Int) (r : Bool) (w : World) (hr : Kd.C Zu w A l.length l) (hc : l.length ≤ c) (h : ZI.f k s l e = some r) :
  Calls Tryz.prog 136 #[.agg #[.bool s, .slice A l.length c, .int .i64 e]] w fun x w' => x = .returned (.bool (!r)) ∧ Below w.heap.size w w' := by
 have hu64 := Tryz.underlying34;have HB := zA (Below.refl w.heap.size w);have HR := zA hr;have HC := zA hc;have HH := zA h;clear hr hc h;go_enter Tryz.func136, Tryz.ntmps136
 go_wp2_with (first
  | ((with_reducible refine zD 1 rfl ?_); refine zn (N := 1) (cs := #[.bool s, .slice A l.length c, .int .i64 e]) (t := 34) rfl rfl ?_; intro g hg w1 hbox hb; have n0 := zA (ZG HB.out hb); have n1 := zA hbox; have n2 := zA (ZF HR.out hb); clear HB hb hg HR; have HB := n0; have BK := n1; have HR := n2; clear n0 n1 n2; have hc0 := (Zs hbox 0).trans rfl; have hc1 := (Zs hbox 1).trans rfl; have hc2 := (Zs hbox 2).trans rfl; have hf0 := Z3 hbox 0; have hf1 := Z3 hbox 1; have hf2 := Z3 hbox 2; clear hbox)
  | ((with_reducible refine zG 102 rfl ?_); refine Z0H (some 4) rfl rfl Tryz.func102 (by kernel_rfl) rfl #[.agg #[.bool s, .slice A l.length c, .int .i64 e]] rfl (by (try simp only [zk7, zkd, zkf]); first | done | rfl) ?_; refine (ZI.calls k s _ _ l e r _ HR.out HC.out HH.out).mono ?_; rintro e w5 ⟨rfl, hb⟩; refine ⟨_, rfl, ?_⟩; have n1 := zA (ZG HB.out hb); clear HB hb; have HB := n1; clear n1))
 go_ret;exact ⟨rfl, HB.out⟩
/-- slices.IndexFunc of two numbers. -/
theorem hand_index2 (k : Nat) (g : Nat) (s : Bool) (A : Option Addr) (c : Nat) (l : List Int) (e : Int) (s2 : Bool) (A2 : Option Addr) (c2 : Nat) (l2 : List Int) (e2 : Int) (r r2 : Bool) (w : World) (hb0 : w.heap[g]? = some (.cells #[.bool s, .slice A l.length c, .int .i64 e, .bool s2, .slice A2 l2.length c2, .int .i64 e2] 34 (0, 0))) (hr : Kd.C Zu w A l.length l) (hc : l.length ≤ c) (hr2 : Kd.C Zu w A2 l2.length l2) (hc2 : l2.length ≤ c2) (h : ZI.f k s l e = some r) (h2 : r = true → ZI.f k s2 l2 e2 = some r2) :
  Calls Tryz.prog 156 #[.slice (some ⟨g, 0, none⟩) 2 2, .func (.func 136) #[] #[]] w fun x w' => x = .returned (.int .i64 (if r then (if r2 then -1 else 1) else 0)) ∧ Below w.heap.size w w' := by
 have hu25 := Tryz.underlying34;have HB := zA (Below.refl w.heap.size w);have HR := zA hr;have HC := zA hc;have HH := zA h;have a1 := zA hr2;have a2 := zA hc2;have HH2 := zA h2;have BK := zA hb0;clear hr hc h hr2 hc2 h2 hb0;have hc0 := (Zs BK.out 0).trans rfl; have hf0 := Z3 BK.out 0; have hc1 := (Zs BK.out 1).trans rfl; have hf1 := Z3 BK.out 1; have hc2 := (Zs BK.out 2).trans rfl; have hf2 := Z3 BK.out 2; have hc3 := (Zs BK.out 3).trans rfl; have hf3 := Z3 BK.out 3; have hc4 := (Zs BK.out 4).trans rfl; have hf4 := Z3 BK.out 4; have hc5 := (Zs BK.out 5).trans rfl; have hf5 := Z3 BK.out 5;go_enter Tryz.func156, Tryz.ntmps156
 go_wp2
 refine wp_loop_rounds 3 ?_;rw [rounds_succ];cases r
 ·go_wp2_with (refine goesV_ (some 16) rfl rfl #[] #[] rfl rfl Tryz.func136 (by kernel_rfl) rfl #[.agg #[.bool s, .slice A l.length c, .int .i64 e]] (by (try simp only [zk7, zkd, zkf]); first | done | rfl) ?_; refine (hand_of1 k s _ _ l e _ _ (ZF HR.out HB.out) HC.out HH.out).mono ?_; rintro e w5 ⟨rfl, hb⟩; refine ⟨_, rfl, ?_⟩; have n0 := zA (Zv BK.out hb); have n1 := zA (ZG HB.out hb); clear HB hb BK; have HB := n1; have BK := n0; clear n0 n1)
  go_ret;exact ⟨rfl, HB.out⟩
 go_wp2_with (refine goesV_ (some 16) rfl rfl #[] #[] rfl rfl Tryz.func136 (by kernel_rfl) rfl #[.agg #[.bool s, .slice A l.length c, .int .i64 e]] (by (try simp only [zk7, zkd, zkf]); first | done | rfl) ?_; refine (hand_of1 k s _ _ l e _ _ (ZF HR.out HB.out) HC.out HH.out).mono ?_; rintro e w5 ⟨rfl, hb⟩; refine ⟨_, rfl, ?_⟩; have n0 := zA (Zv BK.out hb); have n1 := zA (ZG HB.out hb); clear HB hb BK; have HB := n1; have BK := n0; clear n0 n1; have hc0 := (Zs BK.out 0).trans rfl; have hf0 := Z3 BK.out 0; have hc1 := (Zs BK.out 1).trans rfl; have hf1 := Z3 BK.out 1; have hc2 := (Zs BK.out 2).trans rfl; have hf2 := Z3 BK.out 2; have hc3 := (Zs BK.out 3).trans rfl; have hf3 := Z3 BK.out 3; have hc4 := (Zs BK.out 4).trans rfl; have hf4 := Z3 BK.out 4; have hc5 := (Zs BK.out 5).trans rfl; have hf5 := Z3 BK.out 5)
 rw [rounds_succ];have HH3 := zA (HH2.out (by simp));cases r2
 ·go_wp2_with (refine goesV_ (some 16) rfl rfl #[] #[] rfl rfl Tryz.func136 (by kernel_rfl) rfl #[.agg #[.bool s2, .slice A2 l2.length c2, .int .i64 e2]] (by (try simp only [zk7, zkd, zkf]); first | done | rfl) ?_; refine (hand_of1 k s2 _ _ l2 e2 _ _ (ZF a1.out HB.out) a2.out HH3.out).mono ?_; rintro e w5 ⟨rfl, hb⟩; refine ⟨_, rfl, ?_⟩; have n0 := zA (Zv BK.out hb); have n1 := zA (ZG HB.out hb); clear HB hb BK; have HB := n1; have BK := n0; clear n0 n1)
  go_ret;exact ⟨rfl, HB.out⟩
 go_wp2_with (refine goesV_ (some 16) rfl rfl #[] #[] rfl rfl Tryz.func136 (by kernel_rfl) rfl #[.agg #[.bool s2, .slice A2 l2.length c2, .int .i64 e2]] (by (try simp only [zk7, zkd, zkf]); first | done | rfl) ?_; refine (hand_of1 k s2 _ _ l2 e2 _ _ (ZF a1.out HB.out) a2.out HH3.out).mono ?_; rintro e w5 ⟨rfl, hb⟩; refine ⟨_, rfl, ?_⟩; have n0 := zA (Zv BK.out hb); have n1 := zA (ZG HB.out hb); clear HB hb BK; have HB := n1; have BK := n0; clear n0 n1)
 rw [rounds_succ]
 go_wp2
 go_ret;exact ⟨rfl, HB.out⟩
/-- slices.ContainsFunc, by what IndexFunc answers. -/
theorem hand_contains (sl : Value) (i : Int) (w : World) (h : Calls Tryz.prog 156 #[sl, .func (.func 136) #[] #[]] w fun x w' => x = .returned (.int .i64 i) ∧ Below w.heap.size w w') :
  Calls Tryz.prog 135 #[sl, .func (.func 136) #[] #[]] w fun x w' => x = .returned (.bool (decide (0 ≤ i))) ∧ Below w.heap.size w w' := by
 have HH := zA h;clear h;go_enter Tryz.func135, Tryz.ntmps135
 go_wp2_with ((with_reducible refine zG 156 rfl ?_); refine Z0H (some 7) rfl rfl Tryz.func156 (by kernel_rfl) rfl #[sl, .func (.func 136) #[] #[]] rfl (by (try simp only [zk7, zkd, zkf]); first | done | rfl) ?_; refine HH.out.mono ?_; rintro e w5 ⟨rfl, hb⟩; refine ⟨_, rfl, ?_⟩; have HB := zA hb; clear hb)
 go_ret;exact ⟨by simp, HB.out⟩
/-- of: room for what a function makes, where no number is wrong. -/
theorem hand_of (k : Nat) (sl : Value) (r : Bool) (fv : FuncId) (fn : Func) (first cap : Array Value) (hf : Tryz.prog.funcs[fv]? = some fn) (hname : (fn.name == "runtime.NumGoroutine") = false) (hbody : fn.body.isSome = true)
  (s1 : Bool) (l1 : List Int) (e1 : Int) (r1 : Bool) (r2 : List Int) (r3 r4 : Int) (ok : Nat → Prop) (w : World)
  (hc : ∀ w1, Below w.heap.size w w1 → Calls Tryz.prog 135 #[sl, .func (.func 136) #[] #[]] w1 fun x w2 => x = .returned (.bool (!r)) ∧ Below w1.heap.size w1 w2)
  (hm : r = true → ∀ w1, Below w.heap.size w w1 → Calls Tryz.prog fv (first ++ cap) w1 fun x w2 => ∃ v, x = .returned (.agg #[.bool s1, v, .int .i64 e1]) ∧ Kd.V Zu 22 w2 w1.heap.size (fun k_ => ok k_ ∨ w1.heap.size ≤ k_) v l1 ∧ Below w1.heap.size w1 w2)
  (hroom : r = true → Z1L.f k s1 l1 e1 = some (r1, r2, r3, r4))
  (hok : ∀ k_, ok k_ → k_ < w.heap.size) (hbad : r = false → (r1, r2, r3, r4) = (false, [], 0, 2)) :
  Calls Tryz.prog 97 #[.func (.func fv) first cap, sl] w fun x w' => ∃ v1_ : Value, x = .returned (.tuple #[.agg #[.bool r1, v1_, .int .i64 r3], .int .i64 r4]) ∧ Kd.V Zu 22 w' w.heap.size (fun k_ => ok k_ ∨ w.heap.size ≤ k_) v1_ r2 ∧ Below w.heap.size w w' := by
 have hu25 := Tryz.underlying34;have HB := zA (Below.refl w.heap.size w);have Hc := zA hc;have Hm := zA hm;have Hroom := zA hroom;have Hbad := zA hbad;have Hf := zA hf;clear hc hm hroom hbad hf;go_enter Tryz.func97, Tryz.ntmps97;cases r
 ·have Hb := Hbad.out rfl;simp only [zk5] at Hb;obtain ⟨rfl, rfl, rfl, rfl⟩ := Hb
  go_wp2_with (first | ((with_reducible refine zD 4 rfl ?_); refine zn (N := 4) (cs := #[.bool false, .slice none 0 0, .int .i64 0]) (t := 34) rfl rfl ?_; intro g hg w1 hbox hb; have GE := zA (hg ▸ zk6 _ : w.heap.size ≤ g); have n0 := zA (ZG HB.out hb); have n1 := zA hbox; clear HB hb hbox hg; have HB := n0; have BK := n1; clear n0 n1) | ((with_reducible refine zG 135 rfl ?_); refine Z0H (some 7) rfl rfl Tryz.func135 (by kernel_rfl) rfl #[sl, .func (.func 136) #[] #[]] rfl (by (try simp only [zk7, zkd, zkf]); first | done | rfl) ?_; refine (Hc.out _ HB.out).mono ?_; rintro e w5 ⟨rfl, hb⟩; refine ⟨_, rfl, ?_⟩; have n0 := zA (Zv BK.out hb); have n1 := zA (ZG HB.out hb); clear HB hb BK; have HB := n1; have BK := n0; clear n0 n1; have hc0 := (Zs BK.out 0).trans rfl; have hf0 := Z3 BK.out 0; have hc1 := (Zs BK.out 1).trans rfl; have hf1 := Z3 BK.out 1; have hc2 := (Zs BK.out 2).trans rfl; have hf2 := Z3 BK.out 2))
  refine bodyPost_ret (Z07 rfl _ _ g 34 #[.bool false, .slice none 0 0, .int .i64 0] (0, 0) _ rfl (by refine Zb (cs := #[.bool false, .slice none 0 0, .int .i64 0]) ?_ 2 _ rfl; refine Zb (cs := #[.bool false, .slice none 0 0, .int .i64 0]) ?_ 1 _ rfl; refine Zb (cs := #[.bool false, .slice none 0 0, .int .i64 0]) ?_ 0 _ rfl; exact BK.out) Tryz.underlying34 rfl (by kernel_rfl)) rfl ?_;exact ⟨_, rfl, Z11 _ _ _ _ _, Zy (Zy (Zy HB.out GE.out) GE.out) GE.out⟩
 go_wp2_with (first | ((with_reducible refine zD 4 rfl ?_); refine zn (N := 4) (cs := #[.bool false, .slice none 0 0, .int .i64 0]) (t := 34) rfl rfl ?_; intro g hg w1 hbox hb; have GE := zA (hg ▸ zk6 _ : w.heap.size ≤ g); have n0 := zA (ZG HB.out hb); have n1 := zA hbox; clear HB hb hbox hg; have HB := n0; have BK := n1; clear n0 n1) | ((with_reducible refine zG 135 rfl ?_); refine Z0H (some 7) rfl rfl Tryz.func135 (by kernel_rfl) rfl #[sl, .func (.func 136) #[] #[]] rfl (by (try simp only [zk7, zkd, zkf]); first | done | rfl) ?_; refine (Hc.out _ HB.out).mono ?_; rintro e w5 ⟨rfl, hb⟩; refine ⟨_, rfl, ?_⟩; have n0 := zA (Zv BK.out hb); have n1 := zA (ZG HB.out hb); clear HB hb BK; have HB := n1; have BK := n0; clear n0 n1; have hc0 := (Zs BK.out 0).trans rfl; have hf0 := Z3 BK.out 0; have hc1 := (Zs BK.out 1).trans rfl; have hf1 := Z3 BK.out 1; have hc2 := (Zs BK.out 2).trans rfl; have hf2 := Z3 BK.out 2) | ((with_reducible refine zD 10 rfl ?_); refine goesV_ (some 10) rfl rfl first cap rfl rfl Hf.out hname hbody (first ++ cap) (by simp) ?_; refine (Hm.out rfl _ HB.out).mono ?_; rintro e w6 ⟨v6, rfl, hv, hb⟩; obtain ⟨A6, c6, rfl⟩ := Zm hv; refine ⟨_, rfl, ?_⟩; have LT := zA (Z2E BK.out); have HV := zA hv; have n0 := zA (Zv BK.out hb); have n1 := zA (ZG HB.out hb); have LE := zA hb.size; clear HB hb BK hv; have HB := n1; have BK := n0; clear n0 n1) | ((with_reducible refine zG 137 rfl ?_); refine Z0H (some 11) rfl rfl Tryz.func137 (by kernel_rfl) rfl #[.agg #[.bool s1, .slice A6 l1.length c6, .int .i64 e1]] rfl (by (try simp only [zk7, zkd, zkf]); first | done | rfl) ?_; refine (Z1L.calls k s1 _ _ _ l1 e1 r1 r2 r3 r4 _ HV.out (Hroom.out rfl)).mono ?_; rintro e w7 ⟨v7, rfl, hv, hb⟩; obtain ⟨A7, c7, rfl⟩ := Zm hv; refine ⟨_, rfl, ?_⟩; have HV7 := zA (Z5 hv (ok' := fun k_ => (ok k_ ∨ w.heap.size ≤ k_) ∧ k_ ≠ g) (fun k_ hk => by { have h1 := LT.out; have h2 := LE.out; have h3 := GE.out; rcases hk with (hk | hk) | hk; (exact ⟨.inl hk, fun e => by { subst e; exact absurd (hok _ hk) (Nat.not_lt.mpr h3) }⟩); (exact ⟨.inr (by omega), by omega⟩); (exact ⟨.inr (by omega), by omega⟩) })); have n0 := zA (Zv BK.out hb); have n1 := zA (ZG HB.out hb); clear HB hb BK hv HV; have HB := n1; have BK := n0; clear n0 n1; have hc0 := (Zs BK.out 0).trans rfl; have hf0 := Z3 BK.out 0; have hc1 := (Zs BK.out 1).trans rfl; have hf1 := Z3 BK.out 1; have hc2 := (Zs BK.out 2).trans rfl; have hf2 := Z3 BK.out 2))
 refine bodyPost_ret (Z07 rfl _ _ g 34 #[.bool r1, .slice A7 r2.length c7, .int .i64 r3] (0, 0) _ rfl (by refine Zb (cs := #[.bool r1, .slice A7 r2.length c7, .int .i64 0]) ?_ 2 _ rfl; refine Zb (cs := #[.bool r1, .slice none 0 0, .int .i64 0]) ?_ 1 _ rfl; refine Zb (cs := #[.bool false, .slice none 0 0, .int .i64 0]) ?_ 0 _ rfl; exact BK.out) Tryz.underlying34 rfl (by kernel_rfl)) rfl ?_;exact ⟨_, rfl, Z5 (Z0j (p := ⟨g, 2, none⟩) (Z0j (p := ⟨g, 1, none⟩) (Z0j (p := ⟨g, 0, none⟩) HV7.out (fun _ hk => hk.2) (.bool r1)) (fun _ hk => hk.2) (.slice A7 r2.length c7)) (fun _ hk => hk.2) (.int .i64 r3)) (fun _ hk => hk.1), Zy (Zy (Zy HB.out GE.out) GE.out) GE.out⟩
theorem hand_slice_event {P : Program} {ops : Array Oper} {rest : List Oper} {o : Oper} {a : Act} {Q : Exit → Act → World → Prop} {W : World} {n : Nat} (hgd : o.guard = none) {N : Tmp} (_hd : o.dst = some N) {cs : Array Value} {t : TypeId}
  (hrun : (execOp a.eval o).run P W = .ok (.value (.slice (some ⟨W.heap.size, 0, none⟩) n n)) (W.alloc (.cells cs t (0, 0))))
  (h : ∀ g, g = W.heap.size → ∀ w1, w1.heap[g]? = some (.cells cs t (0, 0)) → Below W.heap.size W w1 → wpList P ops Q rest (a.put o.dst (.slice (some ⟨g, 0, none⟩) n n)) w1) : wpList P ops Q (o :: rest) a W :=
 Kd.Z5w hgd hrun (h _ rfl _ (Z70 W _) (Z0q (Below.refl _ _) _))
def ZD.l0 : Nat → Int → Int → List Int → List Int → Int → Int → Option (List Int)
 | 0, _, _, _, _, _, _ => none
 | k + 1, x5, x6, x7, x23, x24, x25 => if x25 < x24 then (if 0 ≤ x25 then (if x25 < (x23.length : Int) then (if 0 ≤ (wrap64 (x25 + x5)) then (if (wrap64 (x25 + x5)) < (x7.length : Int) then (if 0 ≤ x6 then ((some (x7.set ((wrap64 (x25 + x5)) : Int).toNat (Go.bits .or .u64 (rd x7 (wrap64 (x25 + x5))) (shl .u64 (rd x23 x25) x6)) : List Int)).bind fun a1 => (if x6 > 0 then (if 0 ≤ (wrap64 (64 - x6)) then (if 0 ≤ (wrap64 ((wrap64 (x25 + x5)) + 1)) then (if (wrap64 ((wrap64 (x25 + x5)) + 1)) < (x7.length : Int) then (ZD.l0 k x5 x6 (a1.set ((wrap64 ((wrap64 (x25 + x5)) + 1)) : Int).toNat (shr .u64 (rd x23 x25) (wrap64 (64 - x6)))) x23 x24 (wrap64 (x25 + 1))) else (none)) else (none)) else (none)) else (ZD.l0 k x5 x6 a1 x23 x24 (wrap64 (x25 + 1))))) else (none)) else (none)) else (none)) else (none)) else (none)) else ((ZY.f k x7).bind fun a2 => (some a2))
def ZD.f (k : Nat) (l0 : List Int) (a1 : Int) : Option (List Int) := if (l0.length : Int) = 0 then (some ([] : List Int)) else (if 0 ≤ (wrap64 ((wrap64 ((l0.length : Int) + (wrap64 (Int.tdiv a1 64)))) + 1)) then (if (wrap64 ((wrap64 ((l0.length : Int) + (wrap64 (Int.tdiv a1 64)))) + 1) : Int).toNat ≤ 35184372088832 then (ZD.l0 k (wrap64 (Int.tdiv a1 64)) (Int.tmod a1 64) (List.replicate (wrap64 ((wrap64 ((l0.length : Int) + (wrap64 (Int.tdiv a1 64)))) + 1) : Int).toNat 0) l0 (l0.length : Int) 0) else (none)) else (none))
def ZD.T8 : Bool × List (List Nat × List Nat) := (true, [([], []), ([], []), ([], []), ([1, 2], [1, 2]), ([0, 3], [0, 3]), ([4], [4]), ([], []), ([], []), ([6, 7], [6, 7]), ([5, 8], [5, 8]), ([0, 3, 0, 1, 2, 3, 4, 5, 6, 7, 8, 9], [0, 3]), ([10, 9, 0, 1, 2, 3, 4, 5, 6, 7, 8, 9], [9, 10])])
def ZD.B8 : List Nat := [0, 0, 0, 6, 15, 31, 0, 0, 192, 511, 1023, 2047]
theorem ZD.tab8 : Z1r .any (Z2T Tryz.f86 8) = ZD.T8 := by kernel_rfl
theorem ZD.bits8 : Z1y ZD.T8.2 ZD.B8 = true := by kernel_rfl
theorem ZD.calls (k : Nat) (A0 : Option Addr) (c0 : Nat) (l0 : List Int) (a1 : Int) (r : List Int) (w : World) (hr0 : Kd.C Zu w A0 l0.length l0) (hc0 : l0.length ≤ c0) (h : ZD.f k l0 a1 = some r) :
  Calls Tryz.prog 86 #[.slice A0 l0.length c0, .int .i64 a1] w fun e w' => ∃ v0_ : Value, e = .returned (v0_) ∧ Kd.V Zu 22 w' w.heap.size (fun k_ => (w.heap.size ≤ k_)) v0_ r ∧ Below w.heap.size w w' := by
 have aG := zA hr0;have bb := zA hc0;clear hr0 hc0;have HB := zA (Below.refl w.heap.size w);have H := h
 unfold ZD.f at H
 clear h
 by_cases c3 : (l0.length : Int) = 0
 ·rw [if_pos c3] at H;have aH := eT c3;have aI := nF c3;clear c3;obtain rfl := zk4 H;go_enter Tryz.func86, Tryz.ntmps86
  go_wp2
  go_ret;exact ⟨_, er, Z11 _ _ _ _ _, bq⟩
 rw [if_neg c3] at H;have aH := eF c3;have aI := nT c3
 have b3 : ¬ (l0 = []) := fun h_ => c3 (by rw [h_]; rfl)
 generalize ae : wrap64 ((wrap64 ((l0.length : Int) + (wrap64 (Int.tdiv a1 64)))) + 1) = au at H;have hji4w : (IntKind.i64.wrap ((wrap64 ((l0.length : Int) + (wrap64 (Int.tdiv a1 64)))) + 1)) = au := (Z1a _).trans ae;replace H := dn H;obtain ⟨c5, H⟩ := H;have b4 := eq_true c5;have b5 := dT c5;clear c5;replace H := dn H;obtain ⟨c6, H⟩ := H;have b6 := eq_true c6;have b7 := dT c6;clear c6;obtain ⟨aJ, af⟩ : ∃ y_ : List Int, y_ = (List.replicate (au : Int).toNat 0) := ⟨_, rfl⟩;(first | replace H := zRb af H | rw [← af] at H | skip);have av := zA af;clear af;have H' := zA H;clear H;go_enter Tryz.func86, Tryz.ntmps86
 go_wp2_with (first | ((with_reducible refine zD 22 rfl ?_); refine Z2t Zu _ 22 rfl (N := 22) rfl 97 _ _ rfl au rfl rfl Tryz.underlying97 (.int .u64 0) 8 info22 rfl (by decide) (by omega) 0 (ok := fun _ => True) (okp := fun _ => True) rfl (fun _ hk => hk) trivial (od) (zk2 (zka _ (od : au.toNat ≤ 35184372088832)) (by omega)) (Below.refl _ _) (zk6 _) ?_; intro v184 w7 aq hb hg_ hnew_; clear hg_ hnew_; (first | rw [← av.out] at aq | (simp only [Int.reduceToNat] at aq; rw [← av.out] at aq)); have aC := zA (Zl (Z25 (M := fun k_ => (w.heap.size ≤ k_)) aq (Z2 bq) (fun k_ h_ => h_)) (Z2 bq)); replace HB := ze hb; clear hb aq))
 go_loopg [25] k (fun kq v25 w' => ∃ (a5 : List Int) (a4 : Int), v25 = .int .i64 a4 ∧ Aside0 (ZD.l0 kq (wrap64 (Int.tdiv a1 64)) (Int.tmod a1 64) a5 l0 (l0.length : Int) a4 = some r) ∧ Aside0 (kq ≤ k) ∧ Aside0 (Kd.R Zu 22 w' w.heap.size (fun k_ => (w.heap.size ≤ k_)) v184 a5) ∧ Aside0 (Below w.heap.size w w'))
 case atStart => exact ⟨(aJ), (0), zi, H', zB2, ⟨ru (ZB aC.out (fun _ hk => hk.1))⟩, ⟨bq⟩⟩
 case round =>
  clear H';obtain ⟨a5, a4, rfl, HA, HK1, a3, HB⟩ := hrel
  cases gk with
  | zero => exact absurd HA.out (by simp [ZD.l0])
  | succ k1 =>
   have H := HA.out;clear HA;simp only [ZD.l0] at H
   by_cases c9 : a4 < (l0.length : Int)
   ·rw [if_pos c9] at H;have aK := dT c9;clear c9;replace H := dn H;obtain ⟨c10, H⟩ := H;have aT := dT c10;clear c10;replace H := dn H;obtain ⟨c11, H⟩ := H;have aU := dT c11;clear c11;generalize ad : wrap64 (a4 + (wrap64 (Int.tdiv a1 64))) = a2 at H;have hji12w : (IntKind.i64.wrap (a4 + (wrap64 (Int.tdiv a1 64)))) = a2 := (Z1a _).trans ad;replace H := dn H;obtain ⟨c13, H⟩ := H;have aV := dT c13;clear c13;replace H := dn H;obtain ⟨c14, H⟩ := H;have aW := dT c14;clear c14;generalize aa : Int.tmod a1 64 = ac at H;replace H := dn H;obtain ⟨c16, H⟩ := H;have aX := eq_true c16;have aY := dT c16;clear c16;generalize ab : shl .u64 (rd l0 a4) (ac) = a8 at H;have hji17_ : (IntKind.u64.wrap ((rd l0 a4) * 2 ^ min (ac).toNat 64)) = a8 := ab;have hji17z : (ac) ≤ 64 → (IntKind.u64.wrap ((rd l0 a4) * 2 ^ (ac).toNat)) = a8 := Z2m ab;obtain ⟨ar, ag⟩ : ∃ y_ : List Int, y_ = (a5.set ((a2) : Int).toNat (Go.bits .or .u64 (rd a5 (a2)) (a8))) := ⟨_, rfl⟩;(first | replace H := zRb ag H | rw [← ag] at H | skip);have aw := zA ag;clear ag
    by_cases c19 : (ac) > 0
    ·rw [if_pos c19] at H;have aD := dT c19;clear c19;generalize ah : wrap64 (64 - (ac)) = ak at H;have hji20w : (IntKind.i64.wrap (64 - (ac))) = ak := (Z1a _).trans ah;replace H := dn H;obtain ⟨c21, H⟩ := H;have az := eq_true c21;have aZ := dT c21;clear c21;generalize ai : shr .u64 (rd l0 a4) (ak) = al at H;have hji22_ : ((rd l0 a4) / 2 ^ min (ak).toNat 64) = al := ai;have hji22z : (ak) ≤ 64 → ((rd l0 a4) / 2 ^ (ak).toNat) = al := Z2n ai;generalize ap : wrap64 ((a2) + 1) = a9 at H;have hji23w : (IntKind.i64.wrap ((a2) + 1)) = a9 := (Z1a _).trans ap;replace H := dn H;obtain ⟨c24, H⟩ := H;have b1 := dT c24;clear c24;replace H := dn H;obtain ⟨c25, H⟩ := H;have b2 := dT c25;clear c25;obtain ⟨ax, aj⟩ : ∃ y_ : List Int, y_ = (ar.set ((a9) : Int).toNat (al)) := ⟨_, rfl⟩;(first | replace H := zRb aj H | rw [← aj] at H | skip);have aE := zA aj;clear aj;have H' := zA H;clear H;have p186 : 0 ≤ (a4 : Int) := od;have q186 : a4 < (l0.length : Int) := od;obtain ⟨ad186, e186, a6⟩ := Kd.Zw aG.out a4 p186 q186;cases e186;replace a6 := (HB.out.cell (World.block_lt_of_cell? w _ a6)).trans a6;replace p186 := eq_true p186;replace q186 := eq_true q186
     try go_wp2
     replace a3 := zA (Z0U a3.out);replace HB := zA (ZP HB.out);obtain ⟨b8, ay, aA⟩ := Zx a3.out
     (first | subst aA | (injection aA with f1_ f2_ f3_; have f4_ := f1_.symm; have f5_ := f3_.symm; clear f1_ f2_ f3_; subst f4_; subst f5_))
     have p187 : 0 ≤ ((a2) : Int) := od;have q187 : (a2) < (a5.length : Int) := od;obtain ⟨ad187, e187, a7⟩ := Kd.Zw (Z8 a3.out).2.2 (a2) p187 q187;cases e187;replace p187 := eq_true p187;replace q187 := eq_true q187;have p18 : 0 ≤ ((a2) : Int) := od;have q18 : ((a2) : Int) < ((a5.length : Int) : Int) := od;obtain ⟨go18, aL, am, an, gl18, cl18, HG18⟩ := Z0K a3.out (by omega)
     (first | cases am | (injection am with ea_ en_ ec_; (first | subst ea_ | (injection ea_ with ea_; subst ea_)); subst ec_; clear en_))
     have GB18 := zA an;have GG18 := zA HG18;clear an gl18 HG18
     (first | simp only [Z2z] at a7 | skip)
     obtain ⟨ao, hf18_0⟩ := Z03 0 a3.out ((a2) : Int) p18 q18;replace p18 := eq_true p18;replace q18 := eq_true q18;have HP29 := Z4O a3.out ((a2) : Int) (Go.bits .or .u64 (rd a5 (a2)) (a8));rw [← aw.out] at HP29;have HQ29 := zA HP29;clear HP29;refine Z1Y (n := 12) (S := fun w' => w'.cell? ⟨go18, ((a2)).toNat, none⟩ = some (.int .u64 (rd a5 (a2)))) (ds := [11]) #[O, O, O, O, O, O, O, O, O, O, O, O] (by kernel_rfl) rfl rfl (a7) (fun hHeld => ?_); refine Z15 ZD.tab8 ZD.bits8 (fun HT_ HW_ => ?_);generalize wr.drew = w27 at a3 HB GG18 HQ29 hf18_0 a7 ao hHeld ⊢;refine zP 0 30 #[I, O, O, O, O, O, O, O, O, O, O, O] ?_;refine zP 1 31 #[I, I, O, O, O, O, O, O, O, O, O, O] ?_;refine zP 2 32 #[I, I, I, O, O, O, O, O, O, O, O, O] ?_;refine zP 3 33 #[I, I, I, I, O, O, O, O, O, O, O, O] ?_;refine zP 4 34 #[I, I, I, I, I, O, O, O, O, O, O, O] ?_;refine zP 6 36 #[I, I, I, I, I, O, I, O, O, O, O, O] ?_;refine zP 7 37 #[I, I, I, I, I, O, I, I, O, O, O, O] ?_;refine zP 8 38 #[I, I, I, I, I, O, I, I, I, O, O, O] ?_;refine zT 5 35 #[I, I, I, I, I, I, I, I, I, O, O, O] ?_;refine zP 9 39 #[I, I, I, I, I, I, I, I, I, I, O, O] ?_;refine zP 10 40 #[I, I, I, I, I, I, I, I, I, I, I, O] ?_;refine Z4C (i := 11) (N := none) #[I, I, I, I, I, I, I, I, I, I, I, I] rfl rfl (Z0B HT_.out (by kernel_rfl)) (by decide) (fun K hK => ?_);refine Z2u (w1 := ?_) (by rfl) rfl ?_ ?_;rotate_left;·go_simp;rfl
     refine hK.out _ _ ?_;clear hK K;refine Z2i (Z1F HT_.out (by kernel_rfl)) ?_;have n0_ : Aside0 (Kd.R Zu 22 (w27.setCell ⟨go18, ((a2) : Int).toNat, none⟩ (.int .u64 (Go.bits .or .u64 (rd a5 (a2)) (a8)))) w.heap.size (fun k_ => (w.heap.size ≤ k_)) (.slice (some ⟨go18, 0, none⟩) a5.length ay) ar) := ⟨ru HQ29.out⟩;have n1_ : Aside0 (Below w.heap.size w (w27.setCell ⟨go18, ((a2) : Int).toNat, none⟩ (.int .u64 (Go.bits .or .u64 (rd a5 (a2)) (a8))))) := ⟨by repeat (first | (with_reducible first | exact HB.out | apply Z0q | apply Z0p | apply ZP | refine Zy ?_ GB18.out) | exact HB.out)⟩;generalize (w27.setCell ⟨go18, ((a2) : Int).toNat, none⟩ (.int .u64 (Go.bits .or .u64 (rd a5 (a2)) (a8)))) = w30 at n0_ n1_ ⊢;have a3 := n0_;have HB := n1_;clear n0_ n1_;have p26 : 0 ≤ ((a9) : Int) := od;have q26 : ((a9) : Int) < ((a5.length : Int) : Int) := od;obtain ⟨aQ, hf26_0⟩ := Z03 0 a3.out ((a9) : Int) p26 q26;replace p26 := eq_true p26;replace q26 := eq_true q26;obtain ⟨hy31_, hz31_⟩ := Z03 0 a3.out ((a9) : Int) (od) (od);have HP31 := Z0V a3.out ((a9) : Int) al
     try go_wp2_with (first | ((with_reducible refine ZQ (t := 22) (p := 52) rfl ?_); refine ZN (t := 22) (p := 52) (v := ?vo_w32) (w1 := (w30.setCell ⟨go18, ((a9) : Int).toNat, none⟩ (.int .u64 al))) ?hg ?ho ?hn ?hr ?_; (case ho => rfl); (case hg => rfl); (case hn => rfl); (case hr => first | (go_simp; done) | (go_simp; rfl)); intro w32 hw; have hg : w30.grownBy w32 (some go18) := (by rw [hw]; exact HP31.2); have hp_ : Kd.R Zu 22 w32 w.heap.size (fun k_ => (w.heap.size ≤ k_)) (.slice (some ⟨go18, 0, none⟩) a5.length ay) ax := (by rw [hw, aE.out]; exact HP31.1); clear HP31; replace a3 := zA (hp_); replace HB := zA ((by rw [hw]; exact Zy (HB.out) GB18.out : Below w.heap.size w w32)); clear hg hw hp_))
     (try simp only [← aa, ← ah])
     go_roundg k1
     case measure => have := HK1.out; omega
     case rel => exact ⟨(ax), (wrap64 (a4 + 1)), zi, (by first | exact H' | (simp only [ae, ad, aa, ab, ah, ai, ap]; exact H') | (simp only [ae, ad, aa, ab, ah, ai, ap] at H' ⊢; exact H')), zB1, ⟨ru a3.out⟩, ⟨bq⟩⟩
    rw [if_neg c19] at H;have aD := dF c19;clear c19;have H' := zA H;clear H;have p186 : 0 ≤ (a4 : Int) := od;have q186 : a4 < (l0.length : Int) := od;obtain ⟨ad186, e186, a6⟩ := Kd.Zw aG.out a4 p186 q186;cases e186;replace a6 := (HB.out.cell (World.block_lt_of_cell? w _ a6)).trans a6;replace p186 := eq_true p186;replace q186 := eq_true q186
    try go_wp2
    replace a3 := zA (Z0U a3.out);replace HB := zA (ZP HB.out);obtain ⟨b9, ba, aB⟩ := Zx a3.out
    (first | subst aB | (injection aB with f1_ f2_ f3_; have f4_ := f1_.symm; have f5_ := f3_.symm; clear f1_ f2_ f3_; subst f4_; subst f5_))
    have p187 : 0 ≤ ((a2) : Int) := od;have q187 : (a2) < (a5.length : Int) := od;obtain ⟨ad187, e187, a7⟩ := Kd.Zw (Z8 a3.out).2.2 (a2) p187 q187;cases e187;replace p187 := eq_true p187;replace q187 := eq_true q187;have p18 : 0 ≤ ((a2) : Int) := od;have q18 : ((a2) : Int) < ((a5.length : Int) : Int) := od;obtain ⟨go18, aL, am, an, gl18, cl18, HG18⟩ := Z0K a3.out (by omega)
    (first | cases am | (injection am with ea_ en_ ec_; (first | subst ea_ | (injection ea_ with ea_; subst ea_)); subst ec_; clear en_))
    have GB18 := zA an;have GG18 := zA HG18;clear an gl18 HG18
    (first | simp only [Z2z] at a7 | skip)
    obtain ⟨ao, hf18_0⟩ := Z03 0 a3.out ((a2) : Int) p18 q18;replace p18 := eq_true p18;replace q18 := eq_true q18;have HP35 := Z4O a3.out ((a2) : Int) (Go.bits .or .u64 (rd a5 (a2)) (a8));rw [← aw.out] at HP35;have HQ35 := zA HP35;clear HP35;refine Z1Y (n := 12) (S := fun w' => w'.cell? ⟨go18, ((a2)).toNat, none⟩ = some (.int .u64 (rd a5 (a2)))) (ds := [11]) #[O, O, O, O, O, O, O, O, O, O, O, O] (by kernel_rfl) rfl rfl (a7) (fun hHeld => ?_); refine Z15 ZD.tab8 ZD.bits8 (fun HT_ HW_ => ?_);generalize wr.drew = w33 at a3 HB GG18 HQ35 hf18_0 a7 ao hHeld ⊢;refine zP 0 30 #[I, O, O, O, O, O, O, O, O, O, O, O] ?_;refine zP 1 31 #[I, I, O, O, O, O, O, O, O, O, O, O] ?_;refine zP 2 32 #[I, I, I, O, O, O, O, O, O, O, O, O] ?_;refine zP 3 33 #[I, I, I, I, O, O, O, O, O, O, O, O] ?_;refine zP 4 34 #[I, I, I, I, I, O, O, O, O, O, O, O] ?_;refine zP 6 36 #[I, I, I, I, I, O, I, O, O, O, O, O] ?_;refine zP 7 37 #[I, I, I, I, I, O, I, I, O, O, O, O] ?_;refine zP 8 38 #[I, I, I, I, I, O, I, I, I, O, O, O] ?_;refine zT 5 35 #[I, I, I, I, I, I, I, I, I, O, O, O] ?_;refine zP 9 39 #[I, I, I, I, I, I, I, I, I, I, O, O] ?_;refine zP 10 40 #[I, I, I, I, I, I, I, I, I, I, I, O] ?_;refine Z4C (i := 11) (N := none) #[I, I, I, I, I, I, I, I, I, I, I, I] rfl rfl (Z0B HT_.out (by kernel_rfl)) (by decide) (fun K hK => ?_);refine Z2u (w1 := ?_) (by rfl) rfl ?_ ?_;rotate_left;·go_simp;rfl
    refine hK.out _ _ ?_;clear hK K;refine Z2i (Z1F HT_.out (by kernel_rfl)) ?_
    try go_wp2
    (try simp only [← aa])
    go_roundg k1
    case measure => have := HK1.out; omega
    case rel => exact ⟨(ar), (wrap64 (a4 + 1)), zi, (by first | exact H' | (simp only [ae, ad, aa, ab]; exact H') | (simp only [ae, ad, aa, ab] at H' ⊢; exact H')), zB1, ⟨ru HQ35.out⟩, ⟨by repeat (first | (with_reducible first | exact HB.out | apply Z0q | apply Z0p | apply ZP | refine Zy ?_ GB18.out) | exact HB.out)⟩⟩
   rw [if_neg c9] at H;have aK := dF c9;clear c9;obtain ⟨aM, aR, H⟩ := zh H;obtain rfl := zk4 H;obtain ⟨aN, aO, aP⟩ := Zx a3.out;subst aP
   go_wp2_with (first | ((with_reducible refine zG 87 rfl ?_); refine zC (some 55) Tryz.func87 (ZY.calls k1 (fun k_ => some k_ = (.slice aN a5.length aO : Value).ownBlock) _ _ a5 aM _ (R_V (Z1j rfl (a3.out))) aR.out) ?_; rintro e w38 ⟨v191, rfl, aS, hb⟩; refine ⟨_, rfl, ?_⟩; have aF := zA (Zj (Z5 (ok' := fun k_ => (w.heap.size ≤ k_)) aS (fun k_ hk_ => Or.elim hk_ (fun hs_ => ((a3.out).1 k_ hs_.symm)) (fun hn_ => (zk2 (Z2 bq) hn_)))) (Z2 bq)); replace a3 := zA (Zt (ru a3.out) hb); replace HB := ze hb))
   go_ret;exact ⟨_, by first | rfl | (simp [errW_none, errW_some] <;> rfl) | (simp only [← ae]; first | rfl | (simp [errW_none, errW_some] <;> rfl)) | (simp [*, errW_none, errW_some] <;> rfl), vu aF.out, bq⟩
def Z2w.f (l0 : List Int) : Option (List Int × Int) := (Z09.f l0).bind fun a1 => (if a1 = true then (some (([] : List Int), 3)) else ((ZZ.f l0).bind fun a2 => (some (a2, 0))))
theorem Z2w.calls (A0 : Option Addr) (c0 : Nat) (l0 : List Int) (r1 : List Int) (r2 : Int) (w : World) (hr0 : Kd.C Zu w A0 l0.length l0) (hc0 : l0.length ≤ c0) (h : Z2w.f l0 = some (r1, r2)) :
  Calls Tryz.prog 85 #[.slice A0 l0.length c0] w fun e w' => ∃ v0_ : Value, e = .returned (.tuple #[v0_, .int .i64 r2]) ∧ Kd.R Zu 22 w' w.heap.size (fun _ => True) v0_ r1 ∧ Below w.heap.size w w' := by
 have a1 := zA hr0;have a2 := zA hc0;clear hr0 hc0;have HB := zA (Below.refl w.heap.size w);have H := h
 unfold Z2w.f at H
 clear h;obtain ⟨a4, A2, H⟩ := zh H
 by_cases c3 : a4 = true
 subst c3;rw [if_pos rfl] at H;rotate_left;replace c3 := Bool.eq_false_iff.mpr c3;subst c3;rw [if_neg (show ¬ (false = true) by decide)] at H;obtain ⟨a5, A4, H⟩ := zh H;rotate_left
 all_goals
  simp only [zk3, zk5] at H;obtain ⟨rfl, rfl⟩ := H;go_enter Tryz.func85, Tryz.ntmps85
  go_wp2_with (first | ((with_reducible refine zG 119 rfl ?_); refine zC (some 5) Tryz.func119 (Z09.calls _ _ l0 true _ (zk a1.out) (a2.out) A2.out) ?_; rintro e w' ⟨rfl, ⟨nd, rfl⟩⟩; refine ⟨_, rfl, ?_⟩) | ((with_reducible refine zG 119 rfl ?_); refine zC (some 5) Tryz.func119 (Z09.calls _ _ l0 false _ (zk a1.out) (a2.out) A2.out) ?_; rintro e w' ⟨rfl, ⟨nd, rfl⟩⟩; refine ⟨_, rfl, ?_⟩) | ((with_reducible refine zG 88 rfl ?_); refine zC (some 7) Tryz.func88 (ZZ.calls _ _ l0 a5 _ (zk a1.out) (a2.out) A4.out) ?_; rintro e w5 ⟨v438, rfl, a6, hb⟩; refine ⟨_, rfl, ?_⟩; have a3 := zA (Zl a6 (Z2 bq)); replace HB := ze hb))
 ·go_ret2
  exact ⟨_, er, by first | exact Z1Q _ _ _ _ _ | exact Kd.Z2k _ _ _ _ _ | exact Z11 _ _ _ _ _ | exact Kd.Z2h _ _ _ _ _ | exact Kd.Z2j _ _ _ _ _, bq⟩
 go_ret2
 exact ⟨_, er, ru a3.out, bq⟩
def Z2b.f (k : Nat) (l0 : List Int) (a1 : Int) : Option (List Int × Int) := (Z1I.f k l0).bind fun a2 => (if a2.2 = 0 then (if a1 < 0 then (some (([] : List Int), 2)) else (if (a2.1.length : Int) = 0 then (some (([] : List Int), 0)) else (if a1 > 65536 then (some (([] : List Int), 3)) else ((ZD.f k a2.1 a1).bind fun a4 => ((Z2w.f a4).bind fun a3 => (some (a3.1, a3.2))))))) else (some (([] : List Int), a2.2)))
theorem Z2b.calls (k : Nat) (A0 : Option Addr) (c0 : Nat) (l0 : List Int) (a1 : Int) (r1 : List Int) (r2 : Int) (w : World) (hr0 : Kd.C Zu w A0 l0.length l0) (hc0 : l0.length ≤ c0) (h : Z2b.f k l0 a1 = some (r1, r2)) :
  Calls Tryz.prog 43 #[.slice A0 l0.length c0, .int .i64 a1] w fun e w' => ∃ v0_ : Value, e = .returned (.tuple #[v0_, .int .i64 r2]) ∧ Kd.R Zu 22 w' w.heap.size (fun _ => True) v0_ r1 ∧ Below w.heap.size w w' := by
 have ai := zA hr0;have aj := zA hc0;clear hr0 hc0;have HB := zA (Below.refl w.heap.size w);have H := h
 unfold Z2b.f at H
 clear h;obtain ⟨⟨a5, a6⟩, A3, H⟩ := zh H;(try dsimp only at H)
 by_cases c4 : a6 = 0
 rw [if_pos c4] at H;have aa := eT c4;have ab := nF c4;clear c4
 by_cases c5 : a1 < 0
 rw [if_pos c5] at H;have ac := dT c5;clear c5;rotate_left;rw [if_neg c5] at H;have ac := dF c5;clear c5
 by_cases c7 : (a5.length : Int) = 0
 rw [if_pos c7] at H;have ad := eT c7;have ae := nF c7;clear c7;rotate_left;rw [if_neg c7] at H;have ad := eF c7;have ae := nT c7
 have an : ¬ (a5 = []) := fun h_ => c7 (by rw [h_]; rfl)
 by_cases c10 : a1 > 65536
 rw [if_pos c10] at H;have a8 := dT c10;clear c10;rotate_left;rw [if_neg c10] at H;have a8 := dF c10;clear c10;obtain ⟨a7, ak, H⟩ := zh H;obtain ⟨⟨af, ag⟩, al, H⟩ := zh H;(try dsimp only at H);rotate_left;rw [if_neg c4] at H;have aa := eF c4;have ab := nT c4;rotate_left
 all_goals
  simp only [zk3, zk5] at H;obtain ⟨rfl, rfl⟩ := H;go_enter Tryz.func43, Tryz.ntmps43
  go_wp2_with (first | ((with_reducible refine zG 83 rfl ?_); refine zC (some 10) Tryz.func83 (Z1I.calls k (fun k_ => k_ < w.heap.size) _ _ l0 a5 a6 _ (Z1E aj.out (Kd.Z0u (C_F (Kd.Z0r .u64) ai.out) bq)) A3.out) ?_; rintro e w6 ⟨v441, rfl, a4, hb⟩; refine ⟨_, rfl, ?_⟩; have a2 := zA (Zj (Z5 (ok' := fun k_ => True) a4 (fun k_ hk_ => trivial)) (Z2 bq)); replace HB := ze hb; (try (obtain ⟨aq, ar, am⟩ := Zm a2.out; subst am))) | ((with_reducible refine zG 86 rfl ?_); refine zC (some 29) Tryz.func86 (ZD.calls k _ _ a5 a1 a7 _ (zk (Z7 a2.out).2.2) ((Z7 a2.out).2.1) ak.out) ?_; rintro e w17 ⟨v445, rfl, a4, hb⟩; refine ⟨_, rfl, ?_⟩; replace a2 := zA (Z6 (vu a2.out) hb); have a3 := zA (Zj (Z5 (ok' := fun k_ => True) a4 (fun k_ hk_ => trivial)) (Z2 bq)); replace HB := ze hb; (try (obtain ⟨ao, ap, ah⟩ := Zm a3.out; subst ah))) | ((with_reducible refine zG 85 rfl ?_); refine zC (some 30) Tryz.func85 (Z2w.calls _ _ a7 af ag _ (zk (Z7 a3.out).2.2) ((Z7 a3.out).2.1) al.out) ?_; rintro e w19 ⟨v449, rfl, a4, hb⟩; refine ⟨_, rfl, ?_⟩; replace a2 := zA (ZR (vu a2.out) (Zc a4) hb); replace a3 := zA (ZR (vu a3.out) (Zc a4) hb); have a9 := zA (Zl a4 (Z2 bq)); replace HB := ze hb))
 ·go_ret2
  exact ⟨_, er, by first | exact Z1Q _ _ _ _ _ | exact Kd.Z2k _ _ _ _ _ | exact Z11 _ _ _ _ _ | exact Kd.Z2h _ _ _ _ _ | exact Kd.Z2j _ _ _ _ _, bq⟩
 ·go_ret2
  exact ⟨_, er, by first | exact Z1Q _ _ _ _ _ | exact Kd.Z2k _ _ _ _ _ | exact Z11 _ _ _ _ _ | exact Kd.Z2h _ _ _ _ _ | exact Kd.Z2j _ _ _ _ _, bq⟩
 ·go_ret2
  exact ⟨_, er, by first | exact Z1Q _ _ _ _ _ | exact Kd.Z2k _ _ _ _ _ | exact Z11 _ _ _ _ _ | exact Kd.Z2h _ _ _ _ _ | exact Kd.Z2j _ _ _ _ _, bq⟩
 ·go_ret2
  exact ⟨_, er, ru a9.out, bq⟩
 go_ret2
 exact ⟨_, er, by first | exact Z1Q _ _ _ _ _ | exact Kd.Z2k _ _ _ _ _ | exact Z11 _ _ _ _ _ | exact Kd.Z2h _ _ _ _ _ | exact Kd.Z2j _ _ _ _ _, bq⟩
end Go.Proofs.YtjnfipkbgmdpaaaGreatDoor.PAll
