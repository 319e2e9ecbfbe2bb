/- The document's Right, turned pairs, equal pairs: walked. -/
import Derived.Test.YteaghcchalfgmaaNXi
namespace Go.Proofs.Yteaghcchalfgmaa.PAll
open Go.RowKit Go.Proofs.YteaghcchalfgmaaW.PrintWords Go.Proofs.YteaghcchalfgmaaW.PrintLast Go.Proofs.YteaghcchalfgmaaW.PrintMore
open Go.Proofs.Yteaghcchalfgmaa.Nm Ieee
set_option linter.unusedVariables false
set_option linter.unusedSimpArgs false
attribute [local go_sem] run_store_float ext32 ext60 un_neg

/-- what the tape gives where there is no sum. -/
def nanV (w : World) (h l : Nat) : Nat := (Question.nanBits .f64 h l).cut (w.tape w.drawn (.nanBits .f64 h l))
theorem nanA {P : Program} {h l : Nat} (e : fA h l = none) (t : TypeId) (w : World) : (binOp .add t (.float .f64 h) (.float .f64 l)).run P w = .ok (.float .f64 (nanV w h l)) w.drew := by
  have e' : FloatKind.f64.format.add h l = none := e
  simp [binOp, Op.floatArith, e', Question.forced, nanV]
theorem nanV_rg (w : World) (h l y : Nat) : (dOrd (nanV w h l) y == some .eq) = false := by
  have h1 : 9218868437227405312 < rg (nanV w h l) := by
    unfold nanV
    generalize w.tape w.drawn (.nanBits .f64 h l) = t
    show 9218868437227405312 < ((t % 2) * 2 ^ 63 + 0x7ff0000000000000 + 1 + (t / 2) % (2 ^ 52 - 1)) % 9223372036854775808
    have hr : (t / 2) % (2 ^ 52 - 1) < 2 ^ 52 - 1 := Nat.mod_lt _ (by decide)
    generalize (t / 2) % (2 ^ 52 - 1) = r at hr ⊢
    rcases Nat.mod_two_eq_zero_or_one t with e | e <;> rw [e] <;> omega
  show (double.order (nanV w h l) y == some .eq) = false
  rw [order_nan_l h1]; rfl

set_option maxHeartbeats 4000000 in
set_option maxRecDepth 100000 in
theorem Right'_calls (h l : Nat) (hh : h < 18446744073709551616) (hl : l < 18446744073709551616) (w : World) :
    Calls Try.prog 50 #[.agg #[.float .f64 h, .float .f64 l]] w fun e w' => e = .returned (.bool (Rt h l)) ∧ Below w.heap.size w w' := by
  have hu26 := Try.underlying26
  have HB := Aside0.mk (Below.refl w.heap.size w)
  have z1 := isZ_iff h
  have z2 := isZ_iff l
  by_cases q0 : rg h = 0
  · rw [rt_zero q0]
    rw [decide_eq_true q0] at z1
    by_cases q1 : rg l = 0
    · rw [decide_eq_true q1] at z2 ⊢
      go_enter Try.func50, Try.ntmps50
      go_wp2_with (first | ((with_reducible refine gate_dst (N := 1) rfl ?_); refine box_event ?hg (N := 1) ?hd (cs := #[.float .f64 h, .float .f64 l]) (t := 26) ?hr ?_; (case hd => rfl); (case hg => rfl); (case hr => first | (go_simp; done) | (go_simp; rfl)); intro gB hg w1 hbox hb; have GB := Aside0.mk (hg ▸ below_size HB.out : w.heap.size ≤ gB); have m_HB := Aside0.mk (below_step HB.out hb); clear HB hb ; have HB := m_HB; clear m_HB hg ; have B := Aside0.mk hbox; clear hbox; obtain ⟨hcB0, hcB1, hfB0, hfB1⟩ := blk2 B.out) | (simp only [z1, z2]; try go_simp))
      go_ret
      exact ⟨rfl, HB.out⟩
    · rw [decide_eq_false q1] at z2 ⊢
      go_enter Try.func50, Try.ntmps50
      go_wp2_with (first | ((with_reducible refine gate_dst (N := 1) rfl ?_); refine box_event ?hg (N := 1) ?hd (cs := #[.float .f64 h, .float .f64 l]) (t := 26) ?hr ?_; (case hd => rfl); (case hg => rfl); (case hr => first | (go_simp; done) | (go_simp; rfl)); intro gB hg w1 hbox hb; have GB := Aside0.mk (hg ▸ below_size HB.out : w.heap.size ≤ gB); have m_HB := Aside0.mk (below_step HB.out hb); clear HB hb ; have HB := m_HB; clear m_HB hg ; have B := Aside0.mk hbox; clear hbox; obtain ⟨hcB0, hcB1, hfB0, hfB1⟩ := blk2 B.out) | (simp only [z1, z2]; try go_simp))
      go_ret
      exact ⟨rfl, HB.out⟩
  rw [decide_eq_false q0] at z1
  by_cases q1 : 3256102530588868608 ≤ rg h ∧ rg h ≤ 5958262307011166208
  rotate_left
  · rw [rt_far q0 q1]
    have k : fOk h = false := by unfold fOk; rw [decide_eq_false q0, decide_eq_false q1]; rfl
    go_enter Try.func50, Try.ntmps50
    go_wp2_with (first | ((with_reducible refine gate_dst (N := 1) rfl ?_); refine box_event ?hg (N := 1) ?hd (cs := #[.float .f64 h, .float .f64 l]) (t := 26) ?hr ?_; (case hd => rfl); (case hg => rfl); (case hr => first | (go_simp; done) | (go_simp; rfl)); intro gB hg w1 hbox hb; have GB := Aside0.mk (hg ▸ below_size HB.out : w.heap.size ≤ gB); have m_HB := Aside0.mk (below_step HB.out hb); clear HB hb ; have HB := m_HB; clear m_HB hg ; have B := Aside0.mk hbox; clear hbox; obtain ⟨hcB0, hcB1, hfB0, hfB1⟩ := blk2 B.out) | ((with_reducible refine gate_dst (N := 11) rfl ?_); refine goesL_ (some 11) rfl rfl Try.func48 (by kernel_rfl) rfl #[.float .f64 h] rfl (by (try simp only [List.map_toArray, List.map_cons, List.map_nil]); first | done | rfl) ?_; refine (float_calls h hh _).mono ?_; rintro e_ w3 ⟨rfl, hw3⟩; obtain rfl := hw3.symm; refine ⟨_, rfl, ?_⟩) | (simp only [z1, k]; try go_simp))
    go_ret
    exact ⟨rfl, HB.out⟩
  rw [rt_in q1.1 q1.2]
  have k : fOk h = true := by unfold fOk; rw [decide_eq_false q0, decide_eq_true q1]; rfl
  cases e : fA h l with
  | none =>
    rw [keeps_nan e]
    go_enter Try.func50, Try.ntmps50
    go_wp2_with (first | ((with_reducible refine gate_dst (N := 1) rfl ?_); refine box_event ?hg (N := 1) ?hd (cs := #[.float .f64 h, .float .f64 l]) (t := 26) ?hr ?_; (case hd => rfl); (case hg => rfl); (case hr => first | (go_simp; done) | (go_simp; rfl)); intro gB hg w1 hbox hb; have GB := Aside0.mk (hg ▸ below_size HB.out : w.heap.size ≤ gB); have m_HB := Aside0.mk (below_step HB.out hb); clear HB hb ; have HB := m_HB; clear m_HB hg ; have B := Aside0.mk hbox; clear hbox; obtain ⟨hcB0, hcB1, hfB0, hfB1⟩ := blk2 B.out) | ((with_reducible refine gate_dst (N := 11) rfl ?_); refine goesL_ (some 11) rfl rfl Try.func48 (by kernel_rfl) rfl #[.float .f64 h] rfl (by (try simp only [List.map_toArray, List.map_cons, List.map_nil]); first | done | rfl) ?_; refine (float_calls h hh _).mono ?_; rintro e_ w3 ⟨rfl, hw3⟩; obtain rfl := hw3.symm; refine ⟨_, rfl, ?_⟩) | (simp only [z1, k, nanA e, nanV_rg]; try go_simp))
    go_ret
    exact ⟨rfl, below_drew HB.out⟩
  | some y =>
    rw [keeps_some e]
    go_enter Try.func50, Try.ntmps50
    go_wp2_with (first | ((with_reducible refine gate_dst (N := 1) rfl ?_); refine box_event ?hg (N := 1) ?hd (cs := #[.float .f64 h, .float .f64 l]) (t := 26) ?hr ?_; (case hd => rfl); (case hg => rfl); (case hr => first | (go_simp; done) | (go_simp; rfl)); intro gB hg w1 hbox hb; have GB := Aside0.mk (hg ▸ below_size HB.out : w.heap.size ≤ gB); have m_HB := Aside0.mk (below_step HB.out hb); clear HB hb ; have HB := m_HB; clear m_HB hg ; have B := Aside0.mk hbox; clear hbox; obtain ⟨hcB0, hcB1, hfB0, hfB1⟩ := blk2 B.out) | ((with_reducible refine gate_dst (N := 11) rfl ?_); refine goesL_ (some 11) rfl rfl Try.func48 (by kernel_rfl) rfl #[.float .f64 h] rfl (by (try simp only [List.map_toArray, List.map_cons, List.map_nil]); first | done | rfl) ?_; refine (float_calls h hh _).mono ?_; rintro e_ w3 ⟨rfl, hw3⟩; obtain rfl := hw3.symm; refine ⟨_, rfl, ?_⟩) | (simp only [z1, k, opA e]; try go_simp))
    go_ret
    exact ⟨rfl, HB.out⟩

set_option maxRecDepth 100000 in
theorem turned_calls (h l : Nat) (w : World) :
    Calls Try.prog 57 #[.agg #[.float .f64 h, .float .f64 l]] w fun e w' => e = .returned (.agg #[.float .f64 (Op.negFloat .f64 h), .float .f64 (Op.negFloat .f64 l)]) ∧ Below w.heap.size w w' := by
  have hu48 := Try.underlying48
  have HB := Aside0.mk (Below.refl w.heap.size w)
  go_enter Try.func57, Try.ntmps57
  go_wp2_with (first | ((with_reducible refine gate_dst (N := 1) rfl ?_); refine box_event ?hg (N := 1) ?hd (cs := #[.float .f64 h, .float .f64 l]) (t := 48) ?hr ?_; (case hd => rfl); (case hg => rfl); (case hr => first | (go_simp; done) | (go_simp; rfl)); intro gB hg w1 hbox hb; have GB := Aside0.mk (hg ▸ below_size HB.out : w.heap.size ≤ gB); have m_HB := Aside0.mk (below_step HB.out hb); clear HB hb ; have HB := m_HB; clear m_HB hg ; have B := Aside0.mk hbox; clear hbox; obtain ⟨hcB0, hcB1, hfB0, hfB1⟩ := blk2 B.out) | ((with_reducible refine gate_dst (N := 2) rfl ?_); refine box_event ?hg (N := 2) ?hd (cs := #[.float .f64 0, .float .f64 0]) (t := 48) ?hr ?_; (case hd => rfl); (case hg => rfl); (case hr => first | (go_simp; done) | (go_simp; rfl)); intro gR hg w1 hbox hb; have GR := Aside0.mk (hg ▸ below_size HB.out : w.heap.size ≤ gR); have NE_B_R := Aside0.mk (show gB ≠ gR from hg ▸ Nat.ne_of_lt (blk_lt B.out)); have m_B := Aside0.mk (blk_below B.out hb); have m_HB := Aside0.mk (below_step HB.out hb); clear HB hb B; have HB := m_HB; have B := m_B; clear m_HB hg m_B; have R := Aside0.mk hbox; clear hbox; obtain ⟨hcB0, hcB1, hfB0, hfB1⟩ := blk2 B.out; obtain ⟨hcR0, hcR1, hfR0, hfR1⟩ := blk2 R.out) | ((with_reducible refine gate_store (t := 48) (p := 2) rfl ?_); refine stored2 (t := 48) (p := 2) (v := ?vo2) (x := .float .f64 (Op.negFloat .f64 h)) (y := .float .f64 (Op.negFloat .f64 l)) R.out ?hg ?ho ?hn ?hr ?_; (case ho => rfl); (case hg => rfl); (case hn => rfl); (case hr => first | (go_simp; done) | (go_simp; rfl)); intro w1 hbox hoth hlow; have m_B := Aside0.mk ((hoth _ NE_B_R.out).trans B.out); have m_HB := Aside0.mk (HB.out.trans (hlow.mono GR.out)); clear HB hoth hlow R B; have HB := m_HB; have R := Aside0.mk hbox; clear m_HB hbox; have B := m_B; clear m_B; obtain ⟨hcB0, hcB1, hfB0, hfB1⟩ := blk2 B.out; obtain ⟨hcR0, hcR1, hfR0, hfR1⟩ := blk2 R.out))
  refine bodyPost_ret (results_cell_row rfl _ _ gR 48 #[.float .f64 (Op.negFloat .f64 h), .float .f64 (Op.negFloat .f64 l)] (0, 0) _ rfl R.out Try.underlying48 rfl (by kernel_rfl)) rfl ?_
  exact ⟨rfl, HB.out⟩

set_option maxRecDepth 100000 in
theorem Less_calls (h l : Nat) (w : World) :
    Calls Try.prog 51 #[.agg #[.float .f64 h, .float .f64 l]] w fun e w' => e = .returned (.agg #[.float .f64 (Op.negFloat .f64 h), .float .f64 (Op.negFloat .f64 l)]) ∧ Below w.heap.size w w' := by
  have hu26 := Try.underlying26
  have HB := Aside0.mk (Below.refl w.heap.size w)
  go_enter Try.func51, Try.ntmps51
  go_wp2_with (first | ((with_reducible refine gate_dst (N := 1) rfl ?_); refine box_event ?hg (N := 1) ?hd (cs := #[.float .f64 h, .float .f64 l]) (t := 26) ?hr ?_; (case hd => rfl); (case hg => rfl); (case hr => first | (go_simp; done) | (go_simp; rfl)); intro gB hg w1 hbox hb; have GB := Aside0.mk (hg ▸ below_size HB.out : w.heap.size ≤ gB); have m_HB := Aside0.mk (below_step HB.out hb); clear HB hb ; have HB := m_HB; clear m_HB hg ; have B := Aside0.mk hbox; clear hbox; obtain ⟨hcB0, hcB1, hfB0, hfB1⟩ := blk2 B.out) | ((with_reducible refine gate_dst (N := 2) rfl ?_); refine box_event ?hg (N := 2) ?hd (cs := #[.float .f64 0, .float .f64 0]) (t := 26) ?hr ?_; (case hd => rfl); (case hg => rfl); (case hr => first | (go_simp; done) | (go_simp; rfl)); intro gR hg w1 hbox hb; have GR := Aside0.mk (hg ▸ below_size HB.out : w.heap.size ≤ gR); have NE_B_R := Aside0.mk (show gB ≠ gR from hg ▸ Nat.ne_of_lt (blk_lt B.out)); have m_B := Aside0.mk (blk_below B.out hb); have m_HB := Aside0.mk (below_step HB.out hb); clear HB hb B; have HB := m_HB; have B := m_B; clear m_HB hg m_B; have R := Aside0.mk hbox; clear hbox; obtain ⟨hcB0, hcB1, hfB0, hfB1⟩ := blk2 B.out; obtain ⟨hcR0, hcR1, hfR0, hfR1⟩ := blk2 R.out) | ((with_reducible refine gate_store (t := 26) (p := 2) rfl ?_); refine stored2 (t := 26) (p := 2) (v := ?vo2) (x := .float .f64 (Op.negFloat .f64 h)) (y := .float .f64 (Op.negFloat .f64 l)) R.out ?hg ?ho ?hn ?hr ?_; (case ho => rfl); (case hg => rfl); (case hn => rfl); (case hr => first | (go_simp; done) | (go_simp; rfl)); intro w1 hbox hoth hlow; have m_B := Aside0.mk ((hoth _ NE_B_R.out).trans B.out); have m_HB := Aside0.mk (HB.out.trans (hlow.mono GR.out)); clear HB hoth hlow R B; have HB := m_HB; have R := Aside0.mk hbox; clear m_HB hbox; have B := m_B; clear m_B; obtain ⟨hcB0, hcB1, hfB0, hfB1⟩ := blk2 B.out; obtain ⟨hcR0, hcR1, hfR0, hfR1⟩ := blk2 R.out))
  refine bodyPost_ret (results_cell_row rfl _ _ gR 26 #[.float .f64 (Op.negFloat .f64 h), .float .f64 (Op.negFloat .f64 l)] (0, 0) _ rfl R.out Try.underlying26 rfl (by kernel_rfl)) rfl ?_
  exact ⟨rfl, HB.out⟩

/-- equal floats -/
def sEq (x y : Nat) : Bool := dOrd x y == some .eq
set_option maxRecDepth 100000 in
theorem Same_calls (a b c d : Nat) (w : World) :
    Calls Try.prog 9 #[.agg #[.float .f64 a, .float .f64 b], .agg #[.float .f64 c, .float .f64 d]] w fun e w' => e = .returned (.bool (sEq a c && sEq b d)) ∧ Below w.heap.size w w' := by
  have hu26 := Try.underlying26
  have HB := Aside0.mk (Below.refl w.heap.size w)
  cases e1 : sEq a c
  · replace e1 : (dOrd a c == some .eq) = false := e1
    go_enter Try.func9, Try.ntmps9
    go_wp2_with (first | ((with_reducible refine gate_dst (N := 2) rfl ?_); refine box_event ?hg (N := 2) ?hd (cs := #[.float .f64 a, .float .f64 b]) (t := 26) ?hr ?_; (case hd => rfl); (case hg => rfl); (case hr => first | (go_simp; done) | (go_simp; rfl)); intro gB hg w1 hbox hb; have GB := Aside0.mk (hg ▸ below_size HB.out : w.heap.size ≤ gB); have m_HB := Aside0.mk (below_step HB.out hb); clear HB hb ; have HB := m_HB; clear m_HB hg ; have B := Aside0.mk hbox; clear hbox; obtain ⟨hcB0, hcB1, hfB0, hfB1⟩ := blk2 B.out) | ((with_reducible refine gate_dst (N := 3) rfl ?_); refine box_event ?hg (N := 3) ?hd (cs := #[.float .f64 c, .float .f64 d]) (t := 26) ?hr ?_; (case hd => rfl); (case hg => rfl); (case hr => first | (go_simp; done) | (go_simp; rfl)); intro gC hg w1 hbox hb; have GC := Aside0.mk (hg ▸ below_size HB.out : w.heap.size ≤ gC); have NE_B_C := Aside0.mk (show gB ≠ gC from hg ▸ Nat.ne_of_lt (blk_lt B.out)); have m_B := Aside0.mk (blk_below B.out hb); have m_HB := Aside0.mk (below_step HB.out hb); clear HB hb B; have HB := m_HB; have B := m_B; clear m_HB hg m_B; have C := Aside0.mk hbox; clear hbox; obtain ⟨hcB0, hcB1, hfB0, hfB1⟩ := blk2 B.out; obtain ⟨hcC0, hcC1, hfC0, hfC1⟩ := blk2 C.out) | (simp only [e1]; try go_simp))
    go_ret
    exact ⟨rfl, HB.out⟩
  · replace e1 : (dOrd a c == some .eq) = true := e1
    go_enter Try.func9, Try.ntmps9
    go_wp2_with (first | ((with_reducible refine gate_dst (N := 2) rfl ?_); refine box_event ?hg (N := 2) ?hd (cs := #[.float .f64 a, .float .f64 b]) (t := 26) ?hr ?_; (case hd => rfl); (case hg => rfl); (case hr => first | (go_simp; done) | (go_simp; rfl)); intro gB hg w1 hbox hb; have GB := Aside0.mk (hg ▸ below_size HB.out : w.heap.size ≤ gB); have m_HB := Aside0.mk (below_step HB.out hb); clear HB hb ; have HB := m_HB; clear m_HB hg ; have B := Aside0.mk hbox; clear hbox; obtain ⟨hcB0, hcB1, hfB0, hfB1⟩ := blk2 B.out) | ((with_reducible refine gate_dst (N := 3) rfl ?_); refine box_event ?hg (N := 3) ?hd (cs := #[.float .f64 c, .float .f64 d]) (t := 26) ?hr ?_; (case hd => rfl); (case hg => rfl); (case hr => first | (go_simp; done) | (go_simp; rfl)); intro gC hg w1 hbox hb; have GC := Aside0.mk (hg ▸ below_size HB.out : w.heap.size ≤ gC); have NE_B_C := Aside0.mk (show gB ≠ gC from hg ▸ Nat.ne_of_lt (blk_lt B.out)); have m_B := Aside0.mk (blk_below B.out hb); have m_HB := Aside0.mk (below_step HB.out hb); clear HB hb B; have HB := m_HB; have B := m_B; clear m_HB hg m_B; have C := Aside0.mk hbox; clear hbox; obtain ⟨hcB0, hcB1, hfB0, hfB1⟩ := blk2 B.out; obtain ⟨hcC0, hcC1, hfC0, hfC1⟩ := blk2 C.out) | (simp only [e1]; try go_simp))
    go_ret
    exact ⟨by rw [Bool.true_and]; rfl, HB.out⟩
end Go.Proofs.Yteaghcchalfgmaa.PAll
