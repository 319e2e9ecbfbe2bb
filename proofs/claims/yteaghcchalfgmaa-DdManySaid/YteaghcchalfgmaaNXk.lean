/- Steps that are told as function values, and what is made of two pairs: the code's side, walked. -/
import Derived.Test.YteaghcchalfgmaaNXj
namespace Go.Proofs.Yteaghcchalfgmaa.PAll
open Go.RowKit Go.Proofs.YteaghcchalfgmaaW.PrintWords Go.Proofs.YteaghcchalfgmaaW.PrintLast Go.Proofs.YteaghcchalfgmaaW.PrintMore
open Go.Proofs.Yteaghcchalfgmaa.Nm Ieee
set_option linter.unusedVariables false
set_option linter.unusedSimpArgs false
attribute [local go_sem] run_store_float ext32 ext60 un_neg
section
variable {P : Program} {ops : Array Oper} {Q : Exit → Act → World → Prop}
/-- A call of a function value, as an arm of go_wp2_with. -/
theorem goesV_ {rest : List Oper} {oi : Oper} {a : Act} {w : World} (N : Option Tmp) (hd : oi.dst = N) (hg : oi.guard = none) {f : FuncId} {fn : Func} {op : Operand} {as_ : Array Operand} {ts : Array TypeId} (first cap : Array Value)
    (hop : oi.op = .call { callee := .value op, args := as_, argTypes := ts }) (hv : a.eval op = .func (.func f) first cap)
    (hf : P.funcs[f]? = some fn) (hname : (fn.name == "runtime.NumGoroutine") = false) (hb : fn.body.isSome = true) (args : Array Value)
    (hargs : first ++ as_.map a.eval ++ cap = args)
    (h : Calls P f args w fun e w' => ∃ v, e = .returned v ∧ wpList P ops Q rest (a.put N v) w') : wpList P ops Q (oi :: rest) a w := by
  refine wpList_plain hg fun K hK => ?_
  have he := enters_ hf hname hb args w
  have hrun : (execOp a.eval oi).run P w = .ok (.enter f args) w := by
    unfold execOp
    simp [hop, resolve, Deferred.ofValue, invoke, hv, ← hargs] at he ⊢
    exact he
  unfold Oper.wp
  rw [hrun, Oper.upon_enter]
  refine h.mono fun e w'' hh => ?_
  obtain ⟨v, rfl, hk⟩ := hh
  subst hd
  exact hK _ _ hk
end

set_option maxHeartbeats 4000000 in
set_option maxRecDepth 100000 in
/-- dd.of: what a step makes of a right pair. -/
theorem of_calls (cl : FuncId) (fn : Func) (first cap : Array Value) (hf : Try.prog.funcs[cl]? = some fn) (hname : (fn.name == "runtime.NumGoroutine") = false) (hbd : fn.body.isSome = true) (h l s t : Nat) (hh : h < 18446744073709551616) (hl : l < 18446744073709551616) (ok : Bool) (w : World)
    (step0 : ok = true → Rt h l = true → ∀ W, Below w.heap.size w W → Calls Try.prog cl (first ++ #[.agg #[.float .f64 h, .float .f64 l]] ++ cap) W fun e w' => e = .returned (.agg #[.float .f64 s, .float .f64 t]) ∧ Below W.heap.size W w') :
    Calls Try.prog 55 #[.func (.func cl) first cap, .agg #[.float .f64 h, .float .f64 l], .bool ok] w fun e w' => e = .returned (if ok = true ∧ Rt h l = true then .tuple #[.agg #[.float .f64 s, .float .f64 t], .int .i64 0] else .tuple #[.agg #[.float .f64 0, .float .f64 0], .int .i64 2]) ∧ Below w.heap.size w w' := by
  have hu26 := Try.underlying26
  have HB := Aside0.mk (Below.refl w.heap.size w)
  cases ok
  · rw [if_neg (fun e => by cases e.1)]
    clear step0
    go_enter Try.func55, Try.ntmps55
    go_wp2_with (first | ((with_reducible refine gate_dst (N := 4) rfl ?_); refine box_event ?hg (N := 4) ?hd (cs := #[.float .f64 h, .float .f64 l]) (t := 26) ?hr ?_; (case hd => rfl); (case hg => rfl); (case hr => first | (go_simp; done) | (go_simp; rfl)); intro gB hg w1 hbox hb; have GB := Aside0.mk (hg ▸ below_size HB.out : w.heap.size ≤ gB); have m_HB := Aside0.mk (below_step HB.out hb); clear HB hb ; have HB := m_HB; clear m_HB hg ; have B := Aside0.mk hbox; clear hbox; obtain ⟨hcB0, hcB1, hfB0, hfB1⟩ := blk2 B.out) | ((with_reducible refine gate_dst (N := 6) rfl ?_); refine box_event ?hg (N := 6) ?hd (cs := #[.float .f64 0, .float .f64 0]) (t := 26) ?hr ?_; (case hd => rfl); (case hg => rfl); (case hr => first | (go_simp; done) | (go_simp; rfl)); intro gR hg w1 hbox hb; have GR := Aside0.mk (hg ▸ below_size HB.out : w.heap.size ≤ gR); have NE_B_R := Aside0.mk (show gB ≠ gR from hg ▸ Nat.ne_of_lt (blk_lt B.out)); have m_B := Aside0.mk (blk_below B.out hb); have m_HB := Aside0.mk (below_step HB.out hb); clear HB hb B; have HB := m_HB; have B := m_B; clear m_HB hg m_B; have R := Aside0.mk hbox; clear hbox; obtain ⟨hcB0, hcB1, hfB0, hfB1⟩ := blk2 B.out; obtain ⟨hcR0, hcR1, hfR0, hfR1⟩ := blk2 R.out) | ((with_reducible refine gate_store (t := 26) (p := 6) rfl ?_); refine stored2 (t := 26) (p := 6) (v := ?voz) (x := .float .f64 0) (y := .float .f64 0) R.out ?hg ?ho ?hn ?hr ?_; (case ho => rfl); (case hg => rfl); (case hn => rfl); (case hr => first | (go_simp; done) | (go_simp; rfl)); intro w1 hbox hoth hlow; have m_B := Aside0.mk ((hoth _ NE_B_R.out).trans B.out); have m_HB := Aside0.mk (HB.out.trans (hlow.mono GR.out)); clear HB hoth hlow R B; have HB := m_HB; have R := Aside0.mk hbox; clear m_HB hbox; have B := m_B; clear m_B; obtain ⟨hcB0, hcB1, hfB0, hfB1⟩ := blk2 B.out; obtain ⟨hcR0, hcR1, hfR0, hfR1⟩ := blk2 R.out))
    refine bodyPost_ret (results_ct rfl _ _ gR 26 #[.float .f64 0, .float .f64 0] (0, 0) _ rfl R.out Try.underlying26 rfl (by kernel_rfl)) rfl ?_
    exact ⟨rfl, HB.out⟩
  · cases hr : Rt h l
    · rw [if_neg (fun e => by cases e.2)]
      clear step0
      go_enter Try.func55, Try.ntmps55
      go_wp2_with (first | ((with_reducible refine gate_dst (N := 4) rfl ?_); refine box_event ?hg (N := 4) ?hd (cs := #[.float .f64 h, .float .f64 l]) (t := 26) ?hr ?_; (case hd => rfl); (case hg => rfl); (case hr => first | (go_simp; done) | (go_simp; rfl)); intro gB hg w1 hbox hb; have GB := Aside0.mk (hg ▸ below_size HB.out : w.heap.size ≤ gB); have m_HB := Aside0.mk (below_step HB.out hb); clear HB hb ; have HB := m_HB; clear m_HB hg ; have B := Aside0.mk hbox; clear hbox; obtain ⟨hcB0, hcB1, hfB0, hfB1⟩ := blk2 B.out) | ((with_reducible refine gate_dst (N := 6) rfl ?_); refine box_event ?hg (N := 6) ?hd (cs := #[.float .f64 0, .float .f64 0]) (t := 26) ?hr ?_; (case hd => rfl); (case hg => rfl); (case hr => first | (go_simp; done) | (go_simp; rfl)); intro gR hg w1 hbox hb; have GR := Aside0.mk (hg ▸ below_size HB.out : w.heap.size ≤ gR); have NE_B_R := Aside0.mk (show gB ≠ gR from hg ▸ Nat.ne_of_lt (blk_lt B.out)); have m_B := Aside0.mk (blk_below B.out hb); have m_HB := Aside0.mk (below_step HB.out hb); clear HB hb B; have HB := m_HB; have B := m_B; clear m_HB hg m_B; have R := Aside0.mk hbox; clear hbox; obtain ⟨hcB0, hcB1, hfB0, hfB1⟩ := blk2 B.out; obtain ⟨hcR0, hcR1, hfR0, hfR1⟩ := blk2 R.out) | ((with_reducible refine gate_store (t := 26) (p := 6) rfl ?_); refine stored2 (t := 26) (p := 6) (v := ?voz) (x := .float .f64 0) (y := .float .f64 0) R.out ?hg ?ho ?hn ?hr ?_; (case ho => rfl); (case hg => rfl); (case hn => rfl); (case hr => first | (go_simp; done) | (go_simp; rfl)); intro w1 hbox hoth hlow; have m_B := Aside0.mk ((hoth _ NE_B_R.out).trans B.out); have m_HB := Aside0.mk (HB.out.trans (hlow.mono GR.out)); clear HB hoth hlow R B; have HB := m_HB; have R := Aside0.mk hbox; clear m_HB hbox; have B := m_B; clear m_B; obtain ⟨hcB0, hcB1, hfB0, hfB1⟩ := blk2 B.out; obtain ⟨hcR0, hcR1, hfR0, hfR1⟩ := blk2 R.out) | ((with_reducible refine gate_calls (f := 22) ?_); refine (Right_calls h l hh hl _).mono ?_; rintro e_ w3 ⟨rfl, hb⟩; (try dsimp only); have m_B := Aside0.mk (blk_below B.out hb); have m_R := Aside0.mk (blk_below R.out hb); have m_HB := Aside0.mk (below_step HB.out hb); clear HB hb B R; have HB := m_HB; have B := m_B; have R := m_R; clear m_HB m_B m_R; obtain ⟨hcB0, hcB1, hfB0, hfB1⟩ := blk2 B.out; obtain ⟨hcR0, hcR1, hfR0, hfR1⟩ := blk2 R.out) | (simp only [hr]; try go_simp))
      refine bodyPost_ret (results_ct rfl _ _ gR 26 #[.float .f64 0, .float .f64 0] (0, 0) _ rfl R.out Try.underlying26 rfl (by kernel_rfl)) rfl ?_
      exact ⟨rfl, HB.out⟩
    · rw [if_pos ⟨rfl, rfl⟩]
      have step := step0 rfl hr
      clear step0
      go_enter Try.func55, Try.ntmps55
      go_wp2_with (first | ((with_reducible refine gate_dst (N := 4) rfl ?_); refine box_event ?hg (N := 4) ?hd (cs := #[.float .f64 h, .float .f64 l]) (t := 26) ?hr ?_; (case hd => rfl); (case hg => rfl); (case hr => first | (go_simp; done) | (go_simp; rfl)); intro gB hg w1 hbox hb; have GB := Aside0.mk (hg ▸ below_size HB.out : w.heap.size ≤ gB); have m_HB := Aside0.mk (below_step HB.out hb); clear HB hb ; have HB := m_HB; clear m_HB hg ; have B := Aside0.mk hbox; clear hbox; obtain ⟨hcB0, hcB1, hfB0, hfB1⟩ := blk2 B.out) | ((with_reducible refine gate_dst (N := 6) rfl ?_); refine box_event ?hg (N := 6) ?hd (cs := #[.float .f64 0, .float .f64 0]) (t := 26) ?hr ?_; (case hd => rfl); (case hg => rfl); (case hr => first | (go_simp; done) | (go_simp; rfl)); intro gR hg w1 hbox hb; have GR := Aside0.mk (hg ▸ below_size HB.out : w.heap.size ≤ gR); have NE_B_R := Aside0.mk (show gB ≠ gR from hg ▸ Nat.ne_of_lt (blk_lt B.out)); have m_B := Aside0.mk (blk_below B.out hb); have m_HB := Aside0.mk (below_step HB.out hb); clear HB hb B; have HB := m_HB; have B := m_B; clear m_HB hg m_B; have R := Aside0.mk hbox; clear hbox; obtain ⟨hcB0, hcB1, hfB0, hfB1⟩ := blk2 B.out; obtain ⟨hcR0, hcR1, hfR0, hfR1⟩ := blk2 R.out) | ((with_reducible refine gate_store (t := 26) (p := 6) rfl ?_); refine stored2 (t := 26) (p := 6) (v := ?vo6) (x := .float .f64 s) (y := .float .f64 t) R.out ?hg ?ho ?hn ?hr ?_; (case ho => rfl); (case hg => rfl); (case hn => rfl); (case hr => first | (go_simp; done) | (go_simp; rfl)); intro w1 hbox hoth hlow; have m_B := Aside0.mk ((hoth _ NE_B_R.out).trans B.out); have m_HB := Aside0.mk (HB.out.trans (hlow.mono GR.out)); clear HB hoth hlow R B; have HB := m_HB; have R := Aside0.mk hbox; clear m_HB hbox; have B := m_B; clear m_B; obtain ⟨hcB0, hcB1, hfB0, hfB1⟩ := blk2 B.out; obtain ⟨hcR0, hcR1, hfR0, hfR1⟩ := blk2 R.out) | ((with_reducible refine gate_calls (f := 22) ?_); refine (Right_calls h l hh hl _).mono ?_; rintro e_ w3 ⟨rfl, hb⟩; (try dsimp only); have m_B := Aside0.mk (blk_below B.out hb); have m_R := Aside0.mk (blk_below R.out hb); have m_HB := Aside0.mk (below_step HB.out hb); clear HB hb B R; have HB := m_HB; have B := m_B; have R := m_R; clear m_HB m_B m_R; obtain ⟨hcB0, hcB1, hfB0, hfB1⟩ := blk2 B.out; obtain ⟨hcR0, hcR1, hfR0, hfR1⟩ := blk2 R.out) | ((with_reducible refine gate_dst (N := 18) rfl ?_); refine goesV_ (some 18) rfl rfl first cap rfl rfl hf hname hbd (first ++ #[.agg #[.float .f64 h, .float .f64 l]] ++ cap) (by (try simp only [List.map_toArray, List.map_cons, List.map_nil]); first | done | rfl) ?_; refine (step _ HB.out).mono ?_; rintro e_ w3 ⟨rfl, hb⟩; refine ⟨_, rfl, ?_⟩; have m_B := Aside0.mk (blk_below B.out hb); have m_R := Aside0.mk (blk_below R.out hb); have m_HB := Aside0.mk (below_step HB.out hb); clear HB hb B R; have HB := m_HB; have B := m_B; have R := m_R; clear m_HB m_B m_R; obtain ⟨hcB0, hcB1, hfB0, hfB1⟩ := blk2 B.out; obtain ⟨hcR0, hcR1, hfR0, hfR1⟩ := blk2 R.out) | (simp only [hr]; try go_simp))
      refine bodyPost_ret (results_ct rfl _ _ gR 26 #[.float .f64 s, .float .f64 t] (0, 0) _ rfl R.out Try.underlying26 rfl (by kernel_rfl)) rfl ?_
      exact ⟨rfl, HB.out⟩
end Go.Proofs.Yteaghcchalfgmaa.PAll
