/- Which pairs may be reckoned with, walked: the code's Right. -/
import Derived.Test.YteaghcchalfgmaaNXg
namespace Go.Proofs.Yteaghcchalfgmaa.PAll
open Go.RowKit Go.Proofs.YteaghcchalfgmaaW.PrintWords Go.Proofs.YteaghcchalfgmaaW.PrintLast Go.Proofs.YteaghcchalfgmaaW.PrintMore
open Go.Proofs.Yteaghcchalfgmaa.Nm
set_option linter.unusedVariables false
set_option linter.unusedSimpArgs false
attribute [local go_sem] run_store_float ext32 ext60

set_option maxHeartbeats 4000000 in
set_option maxRecDepth 100000 in
theorem Right_calls (h l : Nat) (hh : h < 18446744073709551616) (hl : l < 18446744073709551616) (w : World) :
    Calls Try.prog 22 #[.agg #[.float .f64 h, .float .f64 l]] w fun e w' => e = .returned (.bool (Rt h l)) ∧ Below w.heap.size w w' := by
  have hu26 := Try.underlying26
  have HB := Aside0.mk (Below.refl w.heap.size w)
  have g1 := ge_abs h (c := 3256102530588868608) (by decide)
  have g2 := le_abs h (c := 5958262307011166208) (by decide)
  by_cases q0 : rg h = 0 ∧ rg l = 0
  · have z : decide (rg h = 0 ∧ rg l = 0) = true := decide_eq_true q0
    have R : Rt h l = true := by unfold Rt; rw [z]; rfl
    rw [R]
    go_enter Try.func22, Try.ntmps22
    go_wp2_with (first | ((with_reducible refine gate_dst (N := 1) rfl ?_); refine box_event ?hg (N := 1) ?hd (cs := #[.float .f64 h, .float .f64 l]) (t := 26) ?hr ?_; (case hd => rfl); (case hg => rfl); (case hr => first | (go_simp; done) | (go_simp; rfl)); intro g hg w1 hbox hb; have m_HB := Aside0.mk (below_step HB.out hb); clear HB hb; have HB := m_HB; clear m_HB hg; have B := Aside0.mk hbox; clear hbox; obtain ⟨hc0, hc1, hf0, hf1⟩ := blk2 B.out) | ((with_reducible refine gate_dst (N := 5) rfl ?_); refine goesL_ (some 5) rfl rfl Try.func54 (by kernel_rfl) rfl #[.agg #[.float .f64 h, .float .f64 l]] rfl (by (try simp only [List.map_toArray, List.map_cons, List.map_nil]); first | done | rfl) ?_; refine (zero_calls _ _ _).mono ?_; rintro e_ w3 ⟨rfl, hb⟩; refine ⟨_, rfl, ?_⟩; have m_B := Aside0.mk (blk_below B.out hb); have m_HB := Aside0.mk (below_step HB.out hb); clear HB hb B; have HB := m_HB; have B := m_B; clear m_HB m_B; obtain ⟨hc0, hc1, hf0, hf1⟩ := blk2 B.out) | (simp only [z]; try go_simp))
    go_ret
    exact ⟨rfl, HB.out⟩
  have z : decide (rg h = 0 ∧ rg l = 0) = false := decide_eq_false q0
  by_cases q1 : 3256102530588868608 ≤ rg h ∧ rg h ≤ 9218868437227405312
  rotate_left
  · rw [decide_eq_false q1] at g1
    have R : Rt h l = false := by
      by_cases q2 : rg h = 0
      · rw [rt_zero q2]; exact decide_eq_false (fun e => q0 ⟨q2, e⟩)
      · exact rt_far q2 (by omega)
    rw [R]
    go_enter Try.func22, Try.ntmps22
    go_wp2_with (first | ((with_reducible refine gate_dst (N := 1) rfl ?_); refine box_event ?hg (N := 1) ?hd (cs := #[.float .f64 h, .float .f64 l]) (t := 26) ?hr ?_; (case hd => rfl); (case hg => rfl); (case hr => first | (go_simp; done) | (go_simp; rfl)); intro g hg w1 hbox hb; have m_HB := Aside0.mk (below_step HB.out hb); clear HB hb; have HB := m_HB; clear m_HB hg; have B := Aside0.mk hbox; clear hbox; obtain ⟨hc0, hc1, hf0, hf1⟩ := blk2 B.out) | ((with_reducible refine gate_dst (N := 5) rfl ?_); refine goesL_ (some 5) rfl rfl Try.func54 (by kernel_rfl) rfl #[.agg #[.float .f64 h, .float .f64 l]] rfl (by (try simp only [List.map_toArray, List.map_cons, List.map_nil]); first | done | rfl) ?_; refine (zero_calls _ _ _).mono ?_; rintro e_ w3 ⟨rfl, hb⟩; refine ⟨_, rfl, ?_⟩; have m_B := Aside0.mk (blk_below B.out hb); have m_HB := Aside0.mk (below_step HB.out hb); clear HB hb B; have HB := m_HB; have B := m_B; clear m_HB m_B; obtain ⟨hc0, hc1, hf0, hf1⟩ := blk2 B.out) | ((with_reducible refine gate_dst (N := 8) rfl ?_); refine goesL_ (some 8) rfl rfl Try.func46 (by kernel_rfl) rfl #[.float .f64 h] rfl (by (try simp only [List.map_toArray, List.map_cons, List.map_nil]); first | done | rfl) ?_; refine (Abs_calls _ hh _).mono ?_; rintro e_ w3 ⟨rfl, rfl⟩; refine ⟨_, rfl, ?_⟩) | (simp only [z, g1]; try go_simp))
    go_ret
    exact ⟨rfl, HB.out⟩
  rw [decide_eq_true q1] at g1
  by_cases q2 : rg h ≤ 5958262307011166208
  rotate_left
  · rw [decide_eq_false q2] at g2
    rw [rt_far (by omega) (by omega)]
    go_enter Try.func22, Try.ntmps22
    go_wp2_with (first | ((with_reducible refine gate_dst (N := 1) rfl ?_); refine box_event ?hg (N := 1) ?hd (cs := #[.float .f64 h, .float .f64 l]) (t := 26) ?hr ?_; (case hd => rfl); (case hg => rfl); (case hr => first | (go_simp; done) | (go_simp; rfl)); intro g hg w1 hbox hb; have m_HB := Aside0.mk (below_step HB.out hb); clear HB hb; have HB := m_HB; clear m_HB hg; have B := Aside0.mk hbox; clear hbox; obtain ⟨hc0, hc1, hf0, hf1⟩ := blk2 B.out) | ((with_reducible refine gate_dst (N := 5) rfl ?_); refine goesL_ (some 5) rfl rfl Try.func54 (by kernel_rfl) rfl #[.agg #[.float .f64 h, .float .f64 l]] rfl (by (try simp only [List.map_toArray, List.map_cons, List.map_nil]); first | done | rfl) ?_; refine (zero_calls _ _ _).mono ?_; rintro e_ w3 ⟨rfl, hb⟩; refine ⟨_, rfl, ?_⟩; have m_B := Aside0.mk (blk_below B.out hb); have m_HB := Aside0.mk (below_step HB.out hb); clear HB hb B; have HB := m_HB; have B := m_B; clear m_HB m_B; obtain ⟨hc0, hc1, hf0, hf1⟩ := blk2 B.out) | ((with_reducible refine gate_dst (N := 8) rfl ?_); refine goesL_ (some 8) rfl rfl Try.func46 (by kernel_rfl) rfl #[.float .f64 h] rfl (by (try simp only [List.map_toArray, List.map_cons, List.map_nil]); first | done | rfl) ?_; refine (Abs_calls _ hh _).mono ?_; rintro e_ w3 ⟨rfl, rfl⟩; refine ⟨_, rfl, ?_⟩) | (simp only [z, g1, g2]; try go_simp))
    go_ret
    exact ⟨rfl, HB.out⟩
  rw [decide_eq_true q2] at g2
  have g3 := le_abs l (c := rg h) (by omega)
  rw [rt_in q1.1 q2]
  by_cases q3 : rg l ≤ rg h
  rotate_left
  · rw [decide_eq_false q3] at g3
    rw [keeps_le q1.1 q2 q3]
    go_enter Try.func22, Try.ntmps22
    go_wp2_with (first | ((with_reducible refine gate_dst (N := 1) rfl ?_); refine box_event ?hg (N := 1) ?hd (cs := #[.float .f64 h, .float .f64 l]) (t := 26) ?hr ?_; (case hd => rfl); (case hg => rfl); (case hr => first | (go_simp; done) | (go_simp; rfl)); intro g hg w1 hbox hb; have m_HB := Aside0.mk (below_step HB.out hb); clear HB hb; have HB := m_HB; clear m_HB hg; have B := Aside0.mk hbox; clear hbox; obtain ⟨hc0, hc1, hf0, hf1⟩ := blk2 B.out) | ((with_reducible refine gate_dst (N := 5) rfl ?_); refine goesL_ (some 5) rfl rfl Try.func54 (by kernel_rfl) rfl #[.agg #[.float .f64 h, .float .f64 l]] rfl (by (try simp only [List.map_toArray, List.map_cons, List.map_nil]); first | done | rfl) ?_; refine (zero_calls _ _ _).mono ?_; rintro e_ w3 ⟨rfl, hb⟩; refine ⟨_, rfl, ?_⟩; have m_B := Aside0.mk (blk_below B.out hb); have m_HB := Aside0.mk (below_step HB.out hb); clear HB hb B; have HB := m_HB; have B := m_B; clear m_HB m_B; obtain ⟨hc0, hc1, hf0, hf1⟩ := blk2 B.out) | ((with_reducible refine gate_dst (N := 8) rfl ?_); refine goesL_ (some 8) rfl rfl Try.func46 (by kernel_rfl) rfl #[.float .f64 h] rfl (by (try simp only [List.map_toArray, List.map_cons, List.map_nil]); first | done | rfl) ?_; refine (Abs_calls _ hh _).mono ?_; rintro e_ w3 ⟨rfl, rfl⟩; refine ⟨_, rfl, ?_⟩) | ((with_reducible refine gate_calls (f := 46) ?_); refine (Abs_calls l hl _).mono ?_; rintro e_ w3 ⟨rfl, rfl⟩; (try dsimp only)) | (simp only [z, g1, g2, g3]; try go_simp))
    go_ret
    exact ⟨rfl, HB.out⟩
  rw [decide_eq_true q3] at g3
  obtain ⟨y, hy⟩ := sum_some q2 q3
  rw [keeps_some hy]
  go_enter Try.func22, Try.ntmps22
  go_wp2_with (first | ((with_reducible refine gate_dst (N := 1) rfl ?_); refine box_event ?hg (N := 1) ?hd (cs := #[.float .f64 h, .float .f64 l]) (t := 26) ?hr ?_; (case hd => rfl); (case hg => rfl); (case hr => first | (go_simp; done) | (go_simp; rfl)); intro g hg w1 hbox hb; have m_HB := Aside0.mk (below_step HB.out hb); clear HB hb; have HB := m_HB; clear m_HB hg; have B := Aside0.mk hbox; clear hbox; obtain ⟨hc0, hc1, hf0, hf1⟩ := blk2 B.out) | ((with_reducible refine gate_dst (N := 5) rfl ?_); refine goesL_ (some 5) rfl rfl Try.func54 (by kernel_rfl) rfl #[.agg #[.float .f64 h, .float .f64 l]] rfl (by (try simp only [List.map_toArray, List.map_cons, List.map_nil]); first | done | rfl) ?_; refine (zero_calls _ _ _).mono ?_; rintro e_ w3 ⟨rfl, hb⟩; refine ⟨_, rfl, ?_⟩; have m_B := Aside0.mk (blk_below B.out hb); have m_HB := Aside0.mk (below_step HB.out hb); clear HB hb B; have HB := m_HB; have B := m_B; clear m_HB m_B; obtain ⟨hc0, hc1, hf0, hf1⟩ := blk2 B.out) | ((with_reducible refine gate_dst (N := 8) rfl ?_); refine goesL_ (some 8) rfl rfl Try.func46 (by kernel_rfl) rfl #[.float .f64 h] rfl (by (try simp only [List.map_toArray, List.map_cons, List.map_nil]); first | done | rfl) ?_; refine (Abs_calls _ hh _).mono ?_; rintro e_ w3 ⟨rfl, rfl⟩; refine ⟨_, rfl, ?_⟩) | ((with_reducible refine gate_calls (f := 46) ?_); refine (Abs_calls l hl _).mono ?_; rintro e_ w3 ⟨rfl, rfl⟩; (try dsimp only)) | (simp only [z, g1, g2, g3, opA hy]; try go_simp))
  go_ret
  exact ⟨rfl, HB.out⟩
end Go.Proofs.Yteaghcchalfgmaa.PAll
