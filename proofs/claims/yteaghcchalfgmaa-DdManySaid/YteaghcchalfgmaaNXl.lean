/- Sums, differences, products and quotients of pairs: the code's side, walked. -/
import Derived.Test.YteaghcchalfgmaaNXk
namespace Go.Proofs.Yteaghcchalfgmaa.PAll
open Go.RowKit Go.Proofs.YteaghcchalfgmaaW.PrintWords Go.Proofs.YteaghcchalfgmaaW.PrintLast Go.Proofs.YteaghcchalfgmaaW.PrintMore
open Go.Proofs.Yteaghcchalfgmaa.Nm Ieee
set_option linter.unusedVariables false
set_option linter.unusedSimpArgs false
attribute [local go_sem] run_store_float ext32 ext60 un_neg

section
variable {P : Program} {ops : Array Oper} {Q : Exit → Act → World → Prop}
theorem stored2K {oi : Oper} {a : Act} {W : World} {K : Act → World → Prop} {g T : Nat} {c0 c1 x y : Value} (hB : W.heap[g]? = some (.cells #[c0, c1] T (0, 0))) (hw : Region.wanted oi (yielded ops a.tmps) = true) (hN : oi.dst = none)
    (hrun : (execOp a.eval oi).run P W = .ok .skip ((W.setCell ⟨g, 0, none⟩ x).setCell ⟨g, 1, none⟩ y))
    (h : ∀ w', w'.heap[g]? = some (.cells #[x, y] T (0, 0)) → (∀ k, k ≠ g → w'.heap[k]? = W.heap[k]?) → Below g W w' → K a w') : if Region.wanted oi (yielded ops a.tmps) = true then Oper.wp P oi a W K Q else K (a.put none undef) W := by
  refine skip_ hw hN hrun (h _ ?_ (fun k hk => ?_) (((Below.refl g W).setCell (p := ⟨g, 0, none⟩) (Nat.le_refl _) x).setCell (p := ⟨g, 1, none⟩) (Nat.le_refl _) y))
  · refine blk_put (cs := #[x, c1]) ?_ 1 _ rfl
    exact blk_put hB 0 _ rfl
  · rw [Below.heap_setCell _ _ _ _ hk, Below.heap_setCell _ _ _ _ hk]
end

set_option maxHeartbeats 4000000 in
set_option maxRecDepth 100000 in
theorem Add_calls (a b c d s t : Nat) (ha : a < 18446744073709551616) (hb0 : b < 18446744073709551616) (hc : c < 18446744073709551616) (hd : d < 18446744073709551616) (w : World) (step : Rt a b = true → Rt c d = true → addF a b c d = some (s, t)) :
    Calls Try.prog 23 #[.agg #[.float .f64 a, .float .f64 b], .agg #[.float .f64 c, .float .f64 d]] w fun e w' => e = .returned (if Rt a b = true ∧ Rt c d = true then .tuple #[.agg #[.float .f64 s, .float .f64 t], .int .i64 0] else .tuple #[.agg #[.float .f64 0, .float .f64 0], .int .i64 2]) ∧ Below w.heap.size w w' := by
  have hu26 := Try.underlying26
  have hmf : ∀ (fn : Fn) (first cap : Array Value) (w : World), (Instr.makeFunc fn first cap).run Try.prog w = .ok (.func fn first cap) w := fun _ _ _ _ => rfl
  have HB := Aside0.mk (Below.refl w.heap.size w)
  by_cases hq : Rt a b = true ∧ Rt c d = true
  · rw [if_pos hq]
    have hcond : (if Rt a b = true ∧ Rt c d = true then Value.tuple #[.agg #[.float .f64 s, .float .f64 t], .int .i64 0] else .tuple #[.agg #[.float .f64 0, .float .f64 0], .int .i64 2]) = Value.tuple #[.agg #[.float .f64 s, .float .f64 t], .int .i64 0] := if_pos hq
    go_enter Try.func23, Try.ntmps23
    try go_wp2_with (first | ((with_reducible refine gate_dst (N := 2) rfl ?_); refine box_event ?hg (N := 2) ?hd (cs := #[.float .f64 a, .float .f64 b]) (t := 26) ?hr ?_; (case hd => rfl); (case hg => rfl); (case hr => first | (go_simp; done) | (go_simp; rfl)); intro gA hg w1 hbox hb; have GA := Aside0.mk (hg ▸ below_size HB.out : w.heap.size ≤ gA); have m_HB := Aside0.mk (below_step HB.out hb); clear HB hb ; have HB := m_HB; clear m_HB hg ; have A := Aside0.mk hbox; clear hbox; obtain ⟨hcA0, hcA1, hfA0, hfA1⟩ := blk2 A.out) | ((with_reducible refine gate_dst (N := 3) rfl ?_); refine box_event ?hg (N := 3) ?hd (cs := #[.float .f64 c, .float .f64 d]) (t := 26) ?hr ?_; (case hd => rfl); (case hg => rfl); (case hr => first | (go_simp; done) | (go_simp; rfl)); intro gB hg w1 hbox hb; have GB := Aside0.mk (hg ▸ below_size HB.out : w.heap.size ≤ gB); have NE_A_B := Aside0.mk (show gA ≠ gB from hg ▸ Nat.ne_of_lt (blk_lt A.out)); have m_A := Aside0.mk (blk_below A.out hb); have m_HB := Aside0.mk (below_step HB.out hb); clear HB hb A; have HB := m_HB; have A := m_A; clear m_HB hg m_A; have B := Aside0.mk hbox; clear hbox; obtain ⟨hcA0, hcA1, hfA0, hfA1⟩ := blk2 A.out; obtain ⟨hcB0, hcB1, hfB0, hfB1⟩ := blk2 B.out) | ((with_reducible refine gate_dst (N := 4) rfl ?_); refine box_event ?hg (N := 4) ?hd (cs := #[.float .f64 0, .float .f64 0]) (t := 26) ?hr ?_; (case hd => rfl); (case hg => rfl); (case hr => first | (go_simp; done) | (go_simp; rfl)); intro gR hg w1 hbox hb; have GR := Aside0.mk (hg ▸ below_size HB.out : w.heap.size ≤ gR); have NE_A_R := Aside0.mk (show gA ≠ gR from hg ▸ Nat.ne_of_lt (blk_lt A.out)); have NE_B_R := Aside0.mk (show gB ≠ gR from hg ▸ Nat.ne_of_lt (blk_lt B.out)); have m_A := Aside0.mk (blk_below A.out hb); have m_B := Aside0.mk (blk_below B.out hb); have m_HB := Aside0.mk (below_step HB.out hb); clear HB hb A B; have HB := m_HB; have A := m_A; have B := m_B; clear m_HB hg m_A m_B; have R := Aside0.mk hbox; clear hbox; obtain ⟨hcA0, hcA1, hfA0, hfA1⟩ := blk2 A.out; obtain ⟨hcB0, hcB1, hfB0, hfB1⟩ := blk2 B.out; obtain ⟨hcR0, hcR1, hfR0, hfR1⟩ := blk2 R.out))
    refine start_ (n := 10) (S := fun w' => w'.cell? ⟨gA, 0, none⟩ = some (.float .f64 a) ∧ w'.cell? ⟨gA, 1, none⟩ = some (.float .f64 b) ∧ w'.cell? ⟨gB, 0, none⟩ = some (.float .f64 c) ∧ w'.cell? ⟨gB, 1, none⟩ = some (.float .f64 d)) (ds := []) #[false, false, false, false, false, false, false, false, false, false] (by kernel_rfl) rfl rfl ⟨hcA0, hcA1, hcB0, hcB1⟩ (fun hHeld => ?_)
    have m_A := Aside0.mk (show w1.drew.heap[gA]? = _ from A.out)
    have m_B := Aside0.mk (show w1.drew.heap[gB]? = _ from B.out)
    have m_R := Aside0.mk (show w1.drew.heap[gR]? = _ from R.out)
    have m_HB := Aside0.mk (show Below w.heap.size w w1.drew from below_drew HB.out)
    clear HB A B R
    have HB := m_HB
    have A := m_A
    have B := m_B
    have R := m_R
    clear m_HB m_A m_B m_R
    generalize w1.drew = w8 at HB A B R hHeld ⊢
    obtain ⟨hcA0, hcA1, hfA0, hfA1⟩ := blk2 A.out; obtain ⟨hcB0, hcB1, hfB0, hfB1⟩ := blk2 B.out; obtain ⟨hcR0, hcR1, hfR0, hfR1⟩ := blk2 R.out
    refine take_ (i := 0) (N := some 6) (v := ?_) (a' := ?_) #[true, false, false, false, false, false, false, false, false, false] rfl rfl (by kernel_rfl) (fun _ _ _ h => h) (Or.inl ⟨by rfl, ?_⟩) hHeld ?_ ?_
    rotate_left
    · rintro w' ⟨s0, s1, s2, s3⟩
      go_simp
      with_reducible rfl
    rotate_left
    · simp only [Act.put, List.setIfInBounds_toArray, List.set_cons_zero, List.set_cons_succ, i64_w, i32_w]
      rfl
    refine take_ (i := 1) (N := some 7) (v := ?_) (a' := ?_) #[true, true, false, false, false, false, false, false, false, false] rfl rfl (by kernel_rfl) (fun _ _ _ h => h) (Or.inl ⟨by rfl, ?_⟩) hHeld ?_ ?_
    rotate_left
    · rintro w' ⟨s0, s1, s2, s3⟩
      go_simp
      with_reducible rfl
    rotate_left
    · simp only [Act.put, List.setIfInBounds_toArray, List.set_cons_zero, List.set_cons_succ, i64_w, i32_w]
      rfl
    refine take_ (i := 2) (N := some 8) (v := ?_) (a' := ?_) #[true, true, true, false, false, false, false, false, false, false] rfl rfl (by kernel_rfl) (fun _ _ _ h => h) (Or.inl ⟨by rfl, ?_⟩) hHeld ?_ ?_
    rotate_left
    · rintro w' ⟨s0, s1, s2, s3⟩
      go_simp
      with_reducible rfl
    rotate_left
    · simp only [Act.put, List.setIfInBounds_toArray, List.set_cons_zero, List.set_cons_succ, i64_w, i32_w]
      rfl
    refine take_ (i := 3) (N := some 9) (v := ?_) (a' := ?_) #[true, true, true, true, false, false, false, false, false, false] rfl rfl (by kernel_rfl) (fun _ _ _ h => h) (Or.inl ⟨by rfl, ?_⟩) hHeld ?_ ?_
    rotate_left
    · rintro w' ⟨s0, s1, s2, s3⟩
      go_simp
      with_reducible rfl
    rotate_left
    · simp only [Act.put, List.setIfInBounds_toArray, List.set_cons_zero, List.set_cons_succ, i64_w, i32_w]
      rfl
    refine one_ (i := 4) (N := some 10) #[true, true, true, true, true, false, false, false, false, false] rfl rfl (by kernel_rfl) (by decide) (fun K hK => ?_)
    refine goes_ Try.func22 (by kernel_rfl) rfl #[.agg #[.float .f64 a, .float .f64 b]] (by rfl) rfl rfl (by (try simp only [List.map_toArray, List.map_cons, List.map_nil]); first | done | rfl) ?_
    refine (Right_calls a b ha hb0 _).mono ?_
    rintro e_ w3 ⟨rfl, hb⟩
    refine ⟨_, rfl, ?_⟩
    have m_A := Aside0.mk (blk_below A.out hb)
    have m_B := Aside0.mk (blk_below B.out hb)
    have m_R := Aside0.mk (blk_below R.out hb)
    have m_HB := Aside0.mk (below_step HB.out hb)
    clear HB hb hHeld A B R
    have HB := m_HB
    have A := m_A
    have B := m_B
    have R := m_R
    clear m_HB m_A m_B m_R
    obtain ⟨hcA0, hcA1, hfA0, hfA1⟩ := blk2 A.out; obtain ⟨hcB0, hcB1, hfB0, hfB1⟩ := blk2 B.out; obtain ⟨hcR0, hcR1, hfR0, hfR1⟩ := blk2 R.out
    refine hK.out _ _ ⟨hcA0, hcA1, hcB0, hcB1⟩ (fun hHeld => ?_)
    clear hK K
    refine norm_ (a' := ?_) ?_ ?_
    rotate_left
    · show Act.put _ (some 10) _ = _
      simp only [Act.put, List.setIfInBounds_toArray, List.set_cons_zero, List.set_cons_succ, i64_w, i32_w]
      rfl
    refine one_ (i := 5) (N := some 11) #[true, true, true, true, true, true, false, false, false, false] rfl rfl (by kernel_rfl) (by decide) (fun K hK => ?_)
    refine goes_ Try.func55 (by kernel_rfl) rfl #[.func (.func 30) #[.agg #[.float .f64 a, .float .f64 b]] #[], .agg #[.float .f64 c, .float .f64 d], .bool (Rt a b)] (by rfl) rfl rfl (by (try simp only [List.map_toArray, List.map_cons, List.map_nil]); first | done | rfl) ?_
    refine (of_calls 30 _ (#[.agg #[.float .f64 a, .float .f64 b]]) (#[]) Try.func30 (by kernel_rfl) rfl c d s t hc hd (Rt a b) _ (fun ha hb W hW => calls_of_args (args' := #[.agg #[.float .f64 a, .float .f64 b], .agg #[.float .f64 c, .float .f64 d]]) (by simp) (add_calls a b c d s t W (step ha hb)))).mono ?_
    rintro e_ w3 ⟨rfl, hb⟩
    refine ⟨_, rfl, ?_⟩
    have m_A := Aside0.mk (blk_below A.out hb)
    have m_B := Aside0.mk (blk_below B.out hb)
    have m_R := Aside0.mk (blk_below R.out hb)
    have m_HB := Aside0.mk (below_step HB.out hb)
    clear HB hb hHeld A B R
    have HB := m_HB
    have A := m_A
    have B := m_B
    have R := m_R
    clear m_HB m_A m_B m_R
    obtain ⟨hcA0, hcA1, hfA0, hfA1⟩ := blk2 A.out; obtain ⟨hcB0, hcB1, hfB0, hfB1⟩ := blk2 B.out; obtain ⟨hcR0, hcR1, hfR0, hfR1⟩ := blk2 R.out
    simp only [hcond]
    refine hK.out _ _ ⟨hcA0, hcA1, hcB0, hcB1⟩ (fun hHeld => ?_)
    clear hK K
    refine norm_ (a' := ?_) ?_ ?_
    rotate_left
    · show Act.put _ (some 11) _ = _
      simp only [Act.put, List.setIfInBounds_toArray, List.set_cons_zero, List.set_cons_succ, i64_w, i32_w]
      rfl
    refine take_ (i := 6) (N := some 12) (v := ?_) (a' := ?_) #[true, true, true, true, true, true, true, false, false, false] rfl rfl (by kernel_rfl) (fun _ _ _ h => h) (Or.inl ⟨by rfl, ?_⟩) hHeld ?_ ?_
    rotate_left
    · rintro w' ⟨s0, s1, s2, s3⟩
      go_simp
      with_reducible rfl
    rotate_left
    · simp only [Act.put, List.setIfInBounds_toArray, List.set_cons_zero, List.set_cons_succ, i64_w, i32_w]
      rfl
    refine take_ (i := 7) (N := some 13) (v := ?_) (a' := ?_) #[true, true, true, true, true, true, true, true, false, false] rfl rfl (by kernel_rfl) (fun _ _ _ h => h) (Or.inl ⟨by rfl, ?_⟩) hHeld ?_ ?_
    rotate_left
    · rintro w' ⟨s0, s1, s2, s3⟩
      go_simp
      with_reducible rfl
    rotate_left
    · simp only [Act.put, List.setIfInBounds_toArray, List.set_cons_zero, List.set_cons_succ, i64_w, i32_w]
      rfl
    refine one_ (i := 8) (N := none) #[true, true, true, true, true, true, true, true, true, false] rfl rfl (by kernel_rfl) (by decide) (fun K hK => ?_)
    refine stored2K (x := .float .f64 s) (y := .float .f64 t) R.out (by rfl) rfl (by first | (go_simp; done) | (go_simp; rfl)) (fun w1 hbox hoth hlow => ?_)
    have m_A := Aside0.mk ((hoth _ NE_A_R.out).trans A.out)
    have m_B := Aside0.mk ((hoth _ NE_B_R.out).trans B.out)
    have m_HB := Aside0.mk (HB.out.trans (hlow.mono GR.out))
    clear HB hoth hlow hHeld A B R
    have HB := m_HB
    have R := Aside0.mk hbox
    have A := m_A
    have B := m_B
    clear m_HB hbox m_A m_B
    obtain ⟨hcA0, hcA1, hfA0, hfA1⟩ := blk2 A.out; obtain ⟨hcB0, hcB1, hfB0, hfB1⟩ := blk2 B.out; obtain ⟨hcR0, hcR1, hfR0, hfR1⟩ := blk2 R.out
    refine hK.out _ _ ⟨hcA0, hcA1, hcB0, hcB1⟩ (fun hHeld => ?_)
    clear hK K
    refine take_ (i := 9) (N := some 5) (v := ?_) (a' := ?_) #[true, true, true, true, true, true, true, true, true, true] rfl rfl (by kernel_rfl) (fun _ _ _ h => h) (Or.inl ⟨by rfl, ?_⟩) hHeld ?_ ?_
    rotate_left
    · rintro w' ⟨s0, s1, s2, s3⟩
      go_simp
      with_reducible rfl
    rotate_left
    · simp only [Act.put, List.setIfInBounds_toArray, List.set_cons_zero, List.set_cons_succ, i64_w, i32_w]
      rfl
    refine done_ (by kernel_rfl) ?_
    try go_wp2
    refine bodyPost_ret (results_ct rfl _ _ gR 26 #[.float .f64 s, .float .f64 t] (0, 0) _ rfl R.out Try.underlying26 rfl (by kernel_rfl)) rfl ?_
    exact ⟨rfl, HB.out⟩
  · rw [if_neg hq]
    have hcond : (if Rt a b = true ∧ Rt c d = true then Value.tuple #[.agg #[.float .f64 s, .float .f64 t], .int .i64 0] else .tuple #[.agg #[.float .f64 0, .float .f64 0], .int .i64 2]) = Value.tuple #[.agg #[.float .f64 0, .float .f64 0], .int .i64 2] := if_neg hq
    go_enter Try.func23, Try.ntmps23
    try go_wp2_with (first | ((with_reducible refine gate_dst (N := 2) rfl ?_); refine box_event ?hg (N := 2) ?hd (cs := #[.float .f64 a, .float .f64 b]) (t := 26) ?hr ?_; (case hd => rfl); (case hg => rfl); (case hr => first | (go_simp; done) | (go_simp; rfl)); intro gA hg w1 hbox hb; have GA := Aside0.mk (hg ▸ below_size HB.out : w.heap.size ≤ gA); have m_HB := Aside0.mk (below_step HB.out hb); clear HB hb ; have HB := m_HB; clear m_HB hg ; have A := Aside0.mk hbox; clear hbox; obtain ⟨hcA0, hcA1, hfA0, hfA1⟩ := blk2 A.out) | ((with_reducible refine gate_dst (N := 3) rfl ?_); refine box_event ?hg (N := 3) ?hd (cs := #[.float .f64 c, .float .f64 d]) (t := 26) ?hr ?_; (case hd => rfl); (case hg => rfl); (case hr => first | (go_simp; done) | (go_simp; rfl)); intro gB hg w1 hbox hb; have GB := Aside0.mk (hg ▸ below_size HB.out : w.heap.size ≤ gB); have NE_A_B := Aside0.mk (show gA ≠ gB from hg ▸ Nat.ne_of_lt (blk_lt A.out)); have m_A := Aside0.mk (blk_below A.out hb); have m_HB := Aside0.mk (below_step HB.out hb); clear HB hb A; have HB := m_HB; have A := m_A; clear m_HB hg m_A; have B := Aside0.mk hbox; clear hbox; obtain ⟨hcA0, hcA1, hfA0, hfA1⟩ := blk2 A.out; obtain ⟨hcB0, hcB1, hfB0, hfB1⟩ := blk2 B.out) | ((with_reducible refine gate_dst (N := 4) rfl ?_); refine box_event ?hg (N := 4) ?hd (cs := #[.float .f64 0, .float .f64 0]) (t := 26) ?hr ?_; (case hd => rfl); (case hg => rfl); (case hr => first | (go_simp; done) | (go_simp; rfl)); intro gR hg w1 hbox hb; have GR := Aside0.mk (hg ▸ below_size HB.out : w.heap.size ≤ gR); have NE_A_R := Aside0.mk (show gA ≠ gR from hg ▸ Nat.ne_of_lt (blk_lt A.out)); have NE_B_R := Aside0.mk (show gB ≠ gR from hg ▸ Nat.ne_of_lt (blk_lt B.out)); have m_A := Aside0.mk (blk_below A.out hb); have m_B := Aside0.mk (blk_below B.out hb); have m_HB := Aside0.mk (below_step HB.out hb); clear HB hb A B; have HB := m_HB; have A := m_A; have B := m_B; clear m_HB hg m_A m_B; have R := Aside0.mk hbox; clear hbox; obtain ⟨hcA0, hcA1, hfA0, hfA1⟩ := blk2 A.out; obtain ⟨hcB0, hcB1, hfB0, hfB1⟩ := blk2 B.out; obtain ⟨hcR0, hcR1, hfR0, hfR1⟩ := blk2 R.out))
    refine start_ (n := 10) (S := fun w' => w'.cell? ⟨gA, 0, none⟩ = some (.float .f64 a) ∧ w'.cell? ⟨gA, 1, none⟩ = some (.float .f64 b) ∧ w'.cell? ⟨gB, 0, none⟩ = some (.float .f64 c) ∧ w'.cell? ⟨gB, 1, none⟩ = some (.float .f64 d)) (ds := []) #[false, false, false, false, false, false, false, false, false, false] (by kernel_rfl) rfl rfl ⟨hcA0, hcA1, hcB0, hcB1⟩ (fun hHeld => ?_)
    have m_A := Aside0.mk (show w1.drew.heap[gA]? = _ from A.out)
    have m_B := Aside0.mk (show w1.drew.heap[gB]? = _ from B.out)
    have m_R := Aside0.mk (show w1.drew.heap[gR]? = _ from R.out)
    have m_HB := Aside0.mk (show Below w.heap.size w w1.drew from below_drew HB.out)
    clear HB A B R
    have HB := m_HB
    have A := m_A
    have B := m_B
    have R := m_R
    clear m_HB m_A m_B m_R
    generalize w1.drew = w8 at HB A B R hHeld ⊢
    obtain ⟨hcA0, hcA1, hfA0, hfA1⟩ := blk2 A.out; obtain ⟨hcB0, hcB1, hfB0, hfB1⟩ := blk2 B.out; obtain ⟨hcR0, hcR1, hfR0, hfR1⟩ := blk2 R.out
    refine take_ (i := 0) (N := some 6) (v := ?_) (a' := ?_) #[true, false, false, false, false, false, false, false, false, false] rfl rfl (by kernel_rfl) (fun _ _ _ h => h) (Or.inl ⟨by rfl, ?_⟩) hHeld ?_ ?_
    rotate_left
    · rintro w' ⟨s0, s1, s2, s3⟩
      go_simp
      with_reducible rfl
    rotate_left
    · simp only [Act.put, List.setIfInBounds_toArray, List.set_cons_zero, List.set_cons_succ, i64_w, i32_w]
      rfl
    refine take_ (i := 1) (N := some 7) (v := ?_) (a' := ?_) #[true, true, false, false, false, false, false, false, false, false] rfl rfl (by kernel_rfl) (fun _ _ _ h => h) (Or.inl ⟨by rfl, ?_⟩) hHeld ?_ ?_
    rotate_left
    · rintro w' ⟨s0, s1, s2, s3⟩
      go_simp
      with_reducible rfl
    rotate_left
    · simp only [Act.put, List.setIfInBounds_toArray, List.set_cons_zero, List.set_cons_succ, i64_w, i32_w]
      rfl
    refine take_ (i := 2) (N := some 8) (v := ?_) (a' := ?_) #[true, true, true, false, false, false, false, false, false, false] rfl rfl (by kernel_rfl) (fun _ _ _ h => h) (Or.inl ⟨by rfl, ?_⟩) hHeld ?_ ?_
    rotate_left
    · rintro w' ⟨s0, s1, s2, s3⟩
      go_simp
      with_reducible rfl
    rotate_left
    · simp only [Act.put, List.setIfInBounds_toArray, List.set_cons_zero, List.set_cons_succ, i64_w, i32_w]
      rfl
    refine take_ (i := 3) (N := some 9) (v := ?_) (a' := ?_) #[true, true, true, true, false, false, false, false, false, false] rfl rfl (by kernel_rfl) (fun _ _ _ h => h) (Or.inl ⟨by rfl, ?_⟩) hHeld ?_ ?_
    rotate_left
    · rintro w' ⟨s0, s1, s2, s3⟩
      go_simp
      with_reducible rfl
    rotate_left
    · simp only [Act.put, List.setIfInBounds_toArray, List.set_cons_zero, List.set_cons_succ, i64_w, i32_w]
      rfl
    refine one_ (i := 4) (N := some 10) #[true, true, true, true, true, false, false, false, false, false] rfl rfl (by kernel_rfl) (by decide) (fun K hK => ?_)
    refine goes_ Try.func22 (by kernel_rfl) rfl #[.agg #[.float .f64 a, .float .f64 b]] (by rfl) rfl rfl (by (try simp only [List.map_toArray, List.map_cons, List.map_nil]); first | done | rfl) ?_
    refine (Right_calls a b ha hb0 _).mono ?_
    rintro e_ w3 ⟨rfl, hb⟩
    refine ⟨_, rfl, ?_⟩
    have m_A := Aside0.mk (blk_below A.out hb)
    have m_B := Aside0.mk (blk_below B.out hb)
    have m_R := Aside0.mk (blk_below R.out hb)
    have m_HB := Aside0.mk (below_step HB.out hb)
    clear HB hb hHeld A B R
    have HB := m_HB
    have A := m_A
    have B := m_B
    have R := m_R
    clear m_HB m_A m_B m_R
    obtain ⟨hcA0, hcA1, hfA0, hfA1⟩ := blk2 A.out; obtain ⟨hcB0, hcB1, hfB0, hfB1⟩ := blk2 B.out; obtain ⟨hcR0, hcR1, hfR0, hfR1⟩ := blk2 R.out
    refine hK.out _ _ ⟨hcA0, hcA1, hcB0, hcB1⟩ (fun hHeld => ?_)
    clear hK K
    refine norm_ (a' := ?_) ?_ ?_
    rotate_left
    · show Act.put _ (some 10) _ = _
      simp only [Act.put, List.setIfInBounds_toArray, List.set_cons_zero, List.set_cons_succ, i64_w, i32_w]
      rfl
    refine one_ (i := 5) (N := some 11) #[true, true, true, true, true, true, false, false, false, false] rfl rfl (by kernel_rfl) (by decide) (fun K hK => ?_)
    refine goes_ Try.func55 (by kernel_rfl) rfl #[.func (.func 30) #[.agg #[.float .f64 a, .float .f64 b]] #[], .agg #[.float .f64 c, .float .f64 d], .bool (Rt a b)] (by rfl) rfl rfl (by (try simp only [List.map_toArray, List.map_cons, List.map_nil]); first | done | rfl) ?_
    refine (of_calls 30 _ (#[.agg #[.float .f64 a, .float .f64 b]]) (#[]) Try.func30 (by kernel_rfl) rfl c d s t hc hd (Rt a b) _ (fun ha hb W hW => calls_of_args (args' := #[.agg #[.float .f64 a, .float .f64 b], .agg #[.float .f64 c, .float .f64 d]]) (by simp) (add_calls a b c d s t W (step ha hb)))).mono ?_
    rintro e_ w3 ⟨rfl, hb⟩
    refine ⟨_, rfl, ?_⟩
    have m_A := Aside0.mk (blk_below A.out hb)
    have m_B := Aside0.mk (blk_below B.out hb)
    have m_R := Aside0.mk (blk_below R.out hb)
    have m_HB := Aside0.mk (below_step HB.out hb)
    clear HB hb hHeld A B R
    have HB := m_HB
    have A := m_A
    have B := m_B
    have R := m_R
    clear m_HB m_A m_B m_R
    obtain ⟨hcA0, hcA1, hfA0, hfA1⟩ := blk2 A.out; obtain ⟨hcB0, hcB1, hfB0, hfB1⟩ := blk2 B.out; obtain ⟨hcR0, hcR1, hfR0, hfR1⟩ := blk2 R.out
    simp only [hcond]
    refine hK.out _ _ ⟨hcA0, hcA1, hcB0, hcB1⟩ (fun hHeld => ?_)
    clear hK K
    refine norm_ (a' := ?_) ?_ ?_
    rotate_left
    · show Act.put _ (some 11) _ = _
      simp only [Act.put, List.setIfInBounds_toArray, List.set_cons_zero, List.set_cons_succ, i64_w, i32_w]
      rfl
    refine take_ (i := 6) (N := some 12) (v := ?_) (a' := ?_) #[true, true, true, true, true, true, true, false, false, false] rfl rfl (by kernel_rfl) (fun _ _ _ h => h) (Or.inl ⟨by rfl, ?_⟩) hHeld ?_ ?_
    rotate_left
    · rintro w' ⟨s0, s1, s2, s3⟩
      go_simp
      with_reducible rfl
    rotate_left
    · simp only [Act.put, List.setIfInBounds_toArray, List.set_cons_zero, List.set_cons_succ, i64_w, i32_w]
      rfl
    refine take_ (i := 7) (N := some 13) (v := ?_) (a' := ?_) #[true, true, true, true, true, true, true, true, false, false] rfl rfl (by kernel_rfl) (fun _ _ _ h => h) (Or.inl ⟨by rfl, ?_⟩) hHeld ?_ ?_
    rotate_left
    · rintro w' ⟨s0, s1, s2, s3⟩
      go_simp
      with_reducible rfl
    rotate_left
    · simp only [Act.put, List.setIfInBounds_toArray, List.set_cons_zero, List.set_cons_succ, i64_w, i32_w]
      rfl
    refine one_ (i := 8) (N := none) #[true, true, true, true, true, true, true, true, true, false] rfl rfl (by kernel_rfl) (by decide) (fun K hK => ?_)
    refine stored2K (x := .float .f64 0) (y := .float .f64 0) R.out (by rfl) rfl (by first | (go_simp; done) | (go_simp; rfl)) (fun w1 hbox hoth hlow => ?_)
    have m_A := Aside0.mk ((hoth _ NE_A_R.out).trans A.out)
    have m_B := Aside0.mk ((hoth _ NE_B_R.out).trans B.out)
    have m_HB := Aside0.mk (HB.out.trans (hlow.mono GR.out))
    clear HB hoth hlow hHeld A B R
    have HB := m_HB
    have R := Aside0.mk hbox
    have A := m_A
    have B := m_B
    clear m_HB hbox m_A m_B
    obtain ⟨hcA0, hcA1, hfA0, hfA1⟩ := blk2 A.out; obtain ⟨hcB0, hcB1, hfB0, hfB1⟩ := blk2 B.out; obtain ⟨hcR0, hcR1, hfR0, hfR1⟩ := blk2 R.out
    refine hK.out _ _ ⟨hcA0, hcA1, hcB0, hcB1⟩ (fun hHeld => ?_)
    clear hK K
    refine take_ (i := 9) (N := some 5) (v := ?_) (a' := ?_) #[true, true, true, true, true, true, true, true, true, true] rfl rfl (by kernel_rfl) (fun _ _ _ h => h) (Or.inl ⟨by rfl, ?_⟩) hHeld ?_ ?_
    rotate_left
    · rintro w' ⟨s0, s1, s2, s3⟩
      go_simp
      with_reducible rfl
    rotate_left
    · simp only [Act.put, List.setIfInBounds_toArray, List.set_cons_zero, List.set_cons_succ, i64_w, i32_w]
      rfl
    refine done_ (by kernel_rfl) ?_
    try go_wp2
    refine bodyPost_ret (results_ct rfl _ _ gR 26 #[.float .f64 0, .float .f64 0] (0, 0) _ rfl R.out Try.underlying26 rfl (by kernel_rfl)) rfl ?_
    exact ⟨rfl, HB.out⟩

set_option maxHeartbeats 4000000 in
set_option maxRecDepth 100000 in
theorem Mul_calls (a b c d s t : Nat) (ha : a < 18446744073709551616) (hb0 : b < 18446744073709551616) (hc : c < 18446744073709551616) (hd : d < 18446744073709551616) (w : World) (step : Rt a b = true → Rt c d = true → mulF a b c d = some (s, t)) :
    Calls Try.prog 25 #[.agg #[.float .f64 a, .float .f64 b], .agg #[.float .f64 c, .float .f64 d]] w fun e w' => e = .returned (if Rt a b = true ∧ Rt c d = true then .tuple #[.agg #[.float .f64 s, .float .f64 t], .int .i64 0] else .tuple #[.agg #[.float .f64 0, .float .f64 0], .int .i64 2]) ∧ Below w.heap.size w w' := by
  have hu26 := Try.underlying26
  have hmf : ∀ (fn : Fn) (first cap : Array Value) (w : World), (Instr.makeFunc fn first cap).run Try.prog w = .ok (.func fn first cap) w := fun _ _ _ _ => rfl
  have HB := Aside0.mk (Below.refl w.heap.size w)
  by_cases hq : Rt a b = true ∧ Rt c d = true
  · rw [if_pos hq]
    have hcond : (if Rt a b = true ∧ Rt c d = true then Value.tuple #[.agg #[.float .f64 s, .float .f64 t], .int .i64 0] else .tuple #[.agg #[.float .f64 0, .float .f64 0], .int .i64 2]) = Value.tuple #[.agg #[.float .f64 s, .float .f64 t], .int .i64 0] := if_pos hq
    go_enter Try.func25, Try.ntmps25
    try go_wp2_with (first | ((with_reducible refine gate_dst (N := 2) rfl ?_); refine box_event ?hg (N := 2) ?hd (cs := #[.float .f64 a, .float .f64 b]) (t := 26) ?hr ?_; (case hd => rfl); (case hg => rfl); (case hr => first | (go_simp; done) | (go_simp; rfl)); intro gA hg w1 hbox hb; have GA := Aside0.mk (hg ▸ below_size HB.out : w.heap.size ≤ gA); have m_HB := Aside0.mk (below_step HB.out hb); clear HB hb ; have HB := m_HB; clear m_HB hg ; have A := Aside0.mk hbox; clear hbox; obtain ⟨hcA0, hcA1, hfA0, hfA1⟩ := blk2 A.out) | ((with_reducible refine gate_dst (N := 3) rfl ?_); refine box_event ?hg (N := 3) ?hd (cs := #[.float .f64 c, .float .f64 d]) (t := 26) ?hr ?_; (case hd => rfl); (case hg => rfl); (case hr => first | (go_simp; done) | (go_simp; rfl)); intro gB hg w1 hbox hb; have GB := Aside0.mk (hg ▸ below_size HB.out : w.heap.size ≤ gB); have NE_A_B := Aside0.mk (show gA ≠ gB from hg ▸ Nat.ne_of_lt (blk_lt A.out)); have m_A := Aside0.mk (blk_below A.out hb); have m_HB := Aside0.mk (below_step HB.out hb); clear HB hb A; have HB := m_HB; have A := m_A; clear m_HB hg m_A; have B := Aside0.mk hbox; clear hbox; obtain ⟨hcA0, hcA1, hfA0, hfA1⟩ := blk2 A.out; obtain ⟨hcB0, hcB1, hfB0, hfB1⟩ := blk2 B.out) | ((with_reducible refine gate_dst (N := 4) rfl ?_); refine box_event ?hg (N := 4) ?hd (cs := #[.float .f64 0, .float .f64 0]) (t := 26) ?hr ?_; (case hd => rfl); (case hg => rfl); (case hr => first | (go_simp; done) | (go_simp; rfl)); intro gR hg w1 hbox hb; have GR := Aside0.mk (hg ▸ below_size HB.out : w.heap.size ≤ gR); have NE_A_R := Aside0.mk (show gA ≠ gR from hg ▸ Nat.ne_of_lt (blk_lt A.out)); have NE_B_R := Aside0.mk (show gB ≠ gR from hg ▸ Nat.ne_of_lt (blk_lt B.out)); have m_A := Aside0.mk (blk_below A.out hb); have m_B := Aside0.mk (blk_below B.out hb); have m_HB := Aside0.mk (below_step HB.out hb); clear HB hb A B; have HB := m_HB; have A := m_A; have B := m_B; clear m_HB hg m_A m_B; have R := Aside0.mk hbox; clear hbox; obtain ⟨hcA0, hcA1, hfA0, hfA1⟩ := blk2 A.out; obtain ⟨hcB0, hcB1, hfB0, hfB1⟩ := blk2 B.out; obtain ⟨hcR0, hcR1, hfR0, hfR1⟩ := blk2 R.out))
    refine start_ (n := 10) (S := fun w' => w'.cell? ⟨gA, 0, none⟩ = some (.float .f64 a) ∧ w'.cell? ⟨gA, 1, none⟩ = some (.float .f64 b) ∧ w'.cell? ⟨gB, 0, none⟩ = some (.float .f64 c) ∧ w'.cell? ⟨gB, 1, none⟩ = some (.float .f64 d)) (ds := []) #[false, false, false, false, false, false, false, false, false, false] (by kernel_rfl) rfl rfl ⟨hcA0, hcA1, hcB0, hcB1⟩ (fun hHeld => ?_)
    have m_A := Aside0.mk (show w1.drew.heap[gA]? = _ from A.out)
    have m_B := Aside0.mk (show w1.drew.heap[gB]? = _ from B.out)
    have m_R := Aside0.mk (show w1.drew.heap[gR]? = _ from R.out)
    have m_HB := Aside0.mk (show Below w.heap.size w w1.drew from below_drew HB.out)
    clear HB A B R
    have HB := m_HB
    have A := m_A
    have B := m_B
    have R := m_R
    clear m_HB m_A m_B m_R
    generalize w1.drew = w8 at HB A B R hHeld ⊢
    obtain ⟨hcA0, hcA1, hfA0, hfA1⟩ := blk2 A.out; obtain ⟨hcB0, hcB1, hfB0, hfB1⟩ := blk2 B.out; obtain ⟨hcR0, hcR1, hfR0, hfR1⟩ := blk2 R.out
    refine take_ (i := 0) (N := some 6) (v := ?_) (a' := ?_) #[true, false, false, false, false, false, false, false, false, false] rfl rfl (by kernel_rfl) (fun _ _ _ h => h) (Or.inl ⟨by rfl, ?_⟩) hHeld ?_ ?_
    rotate_left
    · rintro w' ⟨s0, s1, s2, s3⟩
      go_simp
      with_reducible rfl
    rotate_left
    · simp only [Act.put, List.setIfInBounds_toArray, List.set_cons_zero, List.set_cons_succ, i64_w, i32_w]
      rfl
    refine take_ (i := 1) (N := some 7) (v := ?_) (a' := ?_) #[true, true, false, false, false, false, false, false, false, false] rfl rfl (by kernel_rfl) (fun _ _ _ h => h) (Or.inl ⟨by rfl, ?_⟩) hHeld ?_ ?_
    rotate_left
    · rintro w' ⟨s0, s1, s2, s3⟩
      go_simp
      with_reducible rfl
    rotate_left
    · simp only [Act.put, List.setIfInBounds_toArray, List.set_cons_zero, List.set_cons_succ, i64_w, i32_w]
      rfl
    refine take_ (i := 2) (N := some 8) (v := ?_) (a' := ?_) #[true, true, true, false, false, false, false, false, false, false] rfl rfl (by kernel_rfl) (fun _ _ _ h => h) (Or.inl ⟨by rfl, ?_⟩) hHeld ?_ ?_
    rotate_left
    · rintro w' ⟨s0, s1, s2, s3⟩
      go_simp
      with_reducible rfl
    rotate_left
    · simp only [Act.put, List.setIfInBounds_toArray, List.set_cons_zero, List.set_cons_succ, i64_w, i32_w]
      rfl
    refine take_ (i := 3) (N := some 9) (v := ?_) (a' := ?_) #[true, true, true, true, false, false, false, false, false, false] rfl rfl (by kernel_rfl) (fun _ _ _ h => h) (Or.inl ⟨by rfl, ?_⟩) hHeld ?_ ?_
    rotate_left
    · rintro w' ⟨s0, s1, s2, s3⟩
      go_simp
      with_reducible rfl
    rotate_left
    · simp only [Act.put, List.setIfInBounds_toArray, List.set_cons_zero, List.set_cons_succ, i64_w, i32_w]
      rfl
    refine one_ (i := 4) (N := some 10) #[true, true, true, true, true, false, false, false, false, false] rfl rfl (by kernel_rfl) (by decide) (fun K hK => ?_)
    refine goes_ Try.func22 (by kernel_rfl) rfl #[.agg #[.float .f64 a, .float .f64 b]] (by rfl) rfl rfl (by (try simp only [List.map_toArray, List.map_cons, List.map_nil]); first | done | rfl) ?_
    refine (Right_calls a b ha hb0 _).mono ?_
    rintro e_ w3 ⟨rfl, hb⟩
    refine ⟨_, rfl, ?_⟩
    have m_A := Aside0.mk (blk_below A.out hb)
    have m_B := Aside0.mk (blk_below B.out hb)
    have m_R := Aside0.mk (blk_below R.out hb)
    have m_HB := Aside0.mk (below_step HB.out hb)
    clear HB hb hHeld A B R
    have HB := m_HB
    have A := m_A
    have B := m_B
    have R := m_R
    clear m_HB m_A m_B m_R
    obtain ⟨hcA0, hcA1, hfA0, hfA1⟩ := blk2 A.out; obtain ⟨hcB0, hcB1, hfB0, hfB1⟩ := blk2 B.out; obtain ⟨hcR0, hcR1, hfR0, hfR1⟩ := blk2 R.out
    refine hK.out _ _ ⟨hcA0, hcA1, hcB0, hcB1⟩ (fun hHeld => ?_)
    clear hK K
    refine norm_ (a' := ?_) ?_ ?_
    rotate_left
    · show Act.put _ (some 10) _ = _
      simp only [Act.put, List.setIfInBounds_toArray, List.set_cons_zero, List.set_cons_succ, i64_w, i32_w]
      rfl
    refine one_ (i := 5) (N := some 11) #[true, true, true, true, true, true, false, false, false, false] rfl rfl (by kernel_rfl) (by decide) (fun K hK => ?_)
    refine goes_ Try.func55 (by kernel_rfl) rfl #[.func (.func 58) #[.agg #[.float .f64 a, .float .f64 b]] #[], .agg #[.float .f64 c, .float .f64 d], .bool (Rt a b)] (by rfl) rfl rfl (by (try simp only [List.map_toArray, List.map_cons, List.map_nil]); first | done | rfl) ?_
    refine (of_calls 58 _ (#[.agg #[.float .f64 a, .float .f64 b]]) (#[]) Try.func58 (by kernel_rfl) rfl c d s t hc hd (Rt a b) _ (fun ha hb W hW => calls_of_args (args' := #[.agg #[.float .f64 a, .float .f64 b], .agg #[.float .f64 c, .float .f64 d]]) (by simp) (mul_calls a b c d s t W (step ha hb)))).mono ?_
    rintro e_ w3 ⟨rfl, hb⟩
    refine ⟨_, rfl, ?_⟩
    have m_A := Aside0.mk (blk_below A.out hb)
    have m_B := Aside0.mk (blk_below B.out hb)
    have m_R := Aside0.mk (blk_below R.out hb)
    have m_HB := Aside0.mk (below_step HB.out hb)
    clear HB hb hHeld A B R
    have HB := m_HB
    have A := m_A
    have B := m_B
    have R := m_R
    clear m_HB m_A m_B m_R
    obtain ⟨hcA0, hcA1, hfA0, hfA1⟩ := blk2 A.out; obtain ⟨hcB0, hcB1, hfB0, hfB1⟩ := blk2 B.out; obtain ⟨hcR0, hcR1, hfR0, hfR1⟩ := blk2 R.out
    simp only [hcond]
    refine hK.out _ _ ⟨hcA0, hcA1, hcB0, hcB1⟩ (fun hHeld => ?_)
    clear hK K
    refine norm_ (a' := ?_) ?_ ?_
    rotate_left
    · show Act.put _ (some 11) _ = _
      simp only [Act.put, List.setIfInBounds_toArray, List.set_cons_zero, List.set_cons_succ, i64_w, i32_w]
      rfl
    refine take_ (i := 6) (N := some 12) (v := ?_) (a' := ?_) #[true, true, true, true, true, true, true, false, false, false] rfl rfl (by kernel_rfl) (fun _ _ _ h => h) (Or.inl ⟨by rfl, ?_⟩) hHeld ?_ ?_
    rotate_left
    · rintro w' ⟨s0, s1, s2, s3⟩
      go_simp
      with_reducible rfl
    rotate_left
    · simp only [Act.put, List.setIfInBounds_toArray, List.set_cons_zero, List.set_cons_succ, i64_w, i32_w]
      rfl
    refine take_ (i := 7) (N := some 13) (v := ?_) (a' := ?_) #[true, true, true, true, true, true, true, true, false, false] rfl rfl (by kernel_rfl) (fun _ _ _ h => h) (Or.inl ⟨by rfl, ?_⟩) hHeld ?_ ?_
    rotate_left
    · rintro w' ⟨s0, s1, s2, s3⟩
      go_simp
      with_reducible rfl
    rotate_left
    · simp only [Act.put, List.setIfInBounds_toArray, List.set_cons_zero, List.set_cons_succ, i64_w, i32_w]
      rfl
    refine one_ (i := 8) (N := none) #[true, true, true, true, true, true, true, true, true, false] rfl rfl (by kernel_rfl) (by decide) (fun K hK => ?_)
    refine stored2K (x := .float .f64 s) (y := .float .f64 t) R.out (by rfl) rfl (by first | (go_simp; done) | (go_simp; rfl)) (fun w1 hbox hoth hlow => ?_)
    have m_A := Aside0.mk ((hoth _ NE_A_R.out).trans A.out)
    have m_B := Aside0.mk ((hoth _ NE_B_R.out).trans B.out)
    have m_HB := Aside0.mk (HB.out.trans (hlow.mono GR.out))
    clear HB hoth hlow hHeld A B R
    have HB := m_HB
    have R := Aside0.mk hbox
    have A := m_A
    have B := m_B
    clear m_HB hbox m_A m_B
    obtain ⟨hcA0, hcA1, hfA0, hfA1⟩ := blk2 A.out; obtain ⟨hcB0, hcB1, hfB0, hfB1⟩ := blk2 B.out; obtain ⟨hcR0, hcR1, hfR0, hfR1⟩ := blk2 R.out
    refine hK.out _ _ ⟨hcA0, hcA1, hcB0, hcB1⟩ (fun hHeld => ?_)
    clear hK K
    refine take_ (i := 9) (N := some 5) (v := ?_) (a' := ?_) #[true, true, true, true, true, true, true, true, true, true] rfl rfl (by kernel_rfl) (fun _ _ _ h => h) (Or.inl ⟨by rfl, ?_⟩) hHeld ?_ ?_
    rotate_left
    · rintro w' ⟨s0, s1, s2, s3⟩
      go_simp
      with_reducible rfl
    rotate_left
    · simp only [Act.put, List.setIfInBounds_toArray, List.set_cons_zero, List.set_cons_succ, i64_w, i32_w]
      rfl
    refine done_ (by kernel_rfl) ?_
    try go_wp2
    refine bodyPost_ret (results_ct rfl _ _ gR 26 #[.float .f64 s, .float .f64 t] (0, 0) _ rfl R.out Try.underlying26 rfl (by kernel_rfl)) rfl ?_
    exact ⟨rfl, HB.out⟩
  · rw [if_neg hq]
    have hcond : (if Rt a b = true ∧ Rt c d = true then Value.tuple #[.agg #[.float .f64 s, .float .f64 t], .int .i64 0] else .tuple #[.agg #[.float .f64 0, .float .f64 0], .int .i64 2]) = Value.tuple #[.agg #[.float .f64 0, .float .f64 0], .int .i64 2] := if_neg hq
    go_enter Try.func25, Try.ntmps25
    try go_wp2_with (first | ((with_reducible refine gate_dst (N := 2) rfl ?_); refine box_event ?hg (N := 2) ?hd (cs := #[.float .f64 a, .float .f64 b]) (t := 26) ?hr ?_; (case hd => rfl); (case hg => rfl); (case hr => first | (go_simp; done) | (go_simp; rfl)); intro gA hg w1 hbox hb; have GA := Aside0.mk (hg ▸ below_size HB.out : w.heap.size ≤ gA); have m_HB := Aside0.mk (below_step HB.out hb); clear HB hb ; have HB := m_HB; clear m_HB hg ; have A := Aside0.mk hbox; clear hbox; obtain ⟨hcA0, hcA1, hfA0, hfA1⟩ := blk2 A.out) | ((with_reducible refine gate_dst (N := 3) rfl ?_); refine box_event ?hg (N := 3) ?hd (cs := #[.float .f64 c, .float .f64 d]) (t := 26) ?hr ?_; (case hd => rfl); (case hg => rfl); (case hr => first | (go_simp; done) | (go_simp; rfl)); intro gB hg w1 hbox hb; have GB := Aside0.mk (hg ▸ below_size HB.out : w.heap.size ≤ gB); have NE_A_B := Aside0.mk (show gA ≠ gB from hg ▸ Nat.ne_of_lt (blk_lt A.out)); have m_A := Aside0.mk (blk_below A.out hb); have m_HB := Aside0.mk (below_step HB.out hb); clear HB hb A; have HB := m_HB; have A := m_A; clear m_HB hg m_A; have B := Aside0.mk hbox; clear hbox; obtain ⟨hcA0, hcA1, hfA0, hfA1⟩ := blk2 A.out; obtain ⟨hcB0, hcB1, hfB0, hfB1⟩ := blk2 B.out) | ((with_reducible refine gate_dst (N := 4) rfl ?_); refine box_event ?hg (N := 4) ?hd (cs := #[.float .f64 0, .float .f64 0]) (t := 26) ?hr ?_; (case hd => rfl); (case hg => rfl); (case hr => first | (go_simp; done) | (go_simp; rfl)); intro gR hg w1 hbox hb; have GR := Aside0.mk (hg ▸ below_size HB.out : w.heap.size ≤ gR); have NE_A_R := Aside0.mk (show gA ≠ gR from hg ▸ Nat.ne_of_lt (blk_lt A.out)); have NE_B_R := Aside0.mk (show gB ≠ gR from hg ▸ Nat.ne_of_lt (blk_lt B.out)); have m_A := Aside0.mk (blk_below A.out hb); have m_B := Aside0.mk (blk_below B.out hb); have m_HB := Aside0.mk (below_step HB.out hb); clear HB hb A B; have HB := m_HB; have A := m_A; have B := m_B; clear m_HB hg m_A m_B; have R := Aside0.mk hbox; clear hbox; obtain ⟨hcA0, hcA1, hfA0, hfA1⟩ := blk2 A.out; obtain ⟨hcB0, hcB1, hfB0, hfB1⟩ := blk2 B.out; obtain ⟨hcR0, hcR1, hfR0, hfR1⟩ := blk2 R.out))
    refine start_ (n := 10) (S := fun w' => w'.cell? ⟨gA, 0, none⟩ = some (.float .f64 a) ∧ w'.cell? ⟨gA, 1, none⟩ = some (.float .f64 b) ∧ w'.cell? ⟨gB, 0, none⟩ = some (.float .f64 c) ∧ w'.cell? ⟨gB, 1, none⟩ = some (.float .f64 d)) (ds := []) #[false, false, false, false, false, false, false, false, false, false] (by kernel_rfl) rfl rfl ⟨hcA0, hcA1, hcB0, hcB1⟩ (fun hHeld => ?_)
    have m_A := Aside0.mk (show w1.drew.heap[gA]? = _ from A.out)
    have m_B := Aside0.mk (show w1.drew.heap[gB]? = _ from B.out)
    have m_R := Aside0.mk (show w1.drew.heap[gR]? = _ from R.out)
    have m_HB := Aside0.mk (show Below w.heap.size w w1.drew from below_drew HB.out)
    clear HB A B R
    have HB := m_HB
    have A := m_A
    have B := m_B
    have R := m_R
    clear m_HB m_A m_B m_R
    generalize w1.drew = w8 at HB A B R hHeld ⊢
    obtain ⟨hcA0, hcA1, hfA0, hfA1⟩ := blk2 A.out; obtain ⟨hcB0, hcB1, hfB0, hfB1⟩ := blk2 B.out; obtain ⟨hcR0, hcR1, hfR0, hfR1⟩ := blk2 R.out
    refine take_ (i := 0) (N := some 6) (v := ?_) (a' := ?_) #[true, false, false, false, false, false, false, false, false, false] rfl rfl (by kernel_rfl) (fun _ _ _ h => h) (Or.inl ⟨by rfl, ?_⟩) hHeld ?_ ?_
    rotate_left
    · rintro w' ⟨s0, s1, s2, s3⟩
      go_simp
      with_reducible rfl
    rotate_left
    · simp only [Act.put, List.setIfInBounds_toArray, List.set_cons_zero, List.set_cons_succ, i64_w, i32_w]
      rfl
    refine take_ (i := 1) (N := some 7) (v := ?_) (a' := ?_) #[true, true, false, false, false, false, false, false, false, false] rfl rfl (by kernel_rfl) (fun _ _ _ h => h) (Or.inl ⟨by rfl, ?_⟩) hHeld ?_ ?_
    rotate_left
    · rintro w' ⟨s0, s1, s2, s3⟩
      go_simp
      with_reducible rfl
    rotate_left
    · simp only [Act.put, List.setIfInBounds_toArray, List.set_cons_zero, List.set_cons_succ, i64_w, i32_w]
      rfl
    refine take_ (i := 2) (N := some 8) (v := ?_) (a' := ?_) #[true, true, true, false, false, false, false, false, false, false] rfl rfl (by kernel_rfl) (fun _ _ _ h => h) (Or.inl ⟨by rfl, ?_⟩) hHeld ?_ ?_
    rotate_left
    · rintro w' ⟨s0, s1, s2, s3⟩
      go_simp
      with_reducible rfl
    rotate_left
    · simp only [Act.put, List.setIfInBounds_toArray, List.set_cons_zero, List.set_cons_succ, i64_w, i32_w]
      rfl
    refine take_ (i := 3) (N := some 9) (v := ?_) (a' := ?_) #[true, true, true, true, false, false, false, false, false, false] rfl rfl (by kernel_rfl) (fun _ _ _ h => h) (Or.inl ⟨by rfl, ?_⟩) hHeld ?_ ?_
    rotate_left
    · rintro w' ⟨s0, s1, s2, s3⟩
      go_simp
      with_reducible rfl
    rotate_left
    · simp only [Act.put, List.setIfInBounds_toArray, List.set_cons_zero, List.set_cons_succ, i64_w, i32_w]
      rfl
    refine one_ (i := 4) (N := some 10) #[true, true, true, true, true, false, false, false, false, false] rfl rfl (by kernel_rfl) (by decide) (fun K hK => ?_)
    refine goes_ Try.func22 (by kernel_rfl) rfl #[.agg #[.float .f64 a, .float .f64 b]] (by rfl) rfl rfl (by (try simp only [List.map_toArray, List.map_cons, List.map_nil]); first | done | rfl) ?_
    refine (Right_calls a b ha hb0 _).mono ?_
    rintro e_ w3 ⟨rfl, hb⟩
    refine ⟨_, rfl, ?_⟩
    have m_A := Aside0.mk (blk_below A.out hb)
    have m_B := Aside0.mk (blk_below B.out hb)
    have m_R := Aside0.mk (blk_below R.out hb)
    have m_HB := Aside0.mk (below_step HB.out hb)
    clear HB hb hHeld A B R
    have HB := m_HB
    have A := m_A
    have B := m_B
    have R := m_R
    clear m_HB m_A m_B m_R
    obtain ⟨hcA0, hcA1, hfA0, hfA1⟩ := blk2 A.out; obtain ⟨hcB0, hcB1, hfB0, hfB1⟩ := blk2 B.out; obtain ⟨hcR0, hcR1, hfR0, hfR1⟩ := blk2 R.out
    refine hK.out _ _ ⟨hcA0, hcA1, hcB0, hcB1⟩ (fun hHeld => ?_)
    clear hK K
    refine norm_ (a' := ?_) ?_ ?_
    rotate_left
    · show Act.put _ (some 10) _ = _
      simp only [Act.put, List.setIfInBounds_toArray, List.set_cons_zero, List.set_cons_succ, i64_w, i32_w]
      rfl
    refine one_ (i := 5) (N := some 11) #[true, true, true, true, true, true, false, false, false, false] rfl rfl (by kernel_rfl) (by decide) (fun K hK => ?_)
    refine goes_ Try.func55 (by kernel_rfl) rfl #[.func (.func 58) #[.agg #[.float .f64 a, .float .f64 b]] #[], .agg #[.float .f64 c, .float .f64 d], .bool (Rt a b)] (by rfl) rfl rfl (by (try simp only [List.map_toArray, List.map_cons, List.map_nil]); first | done | rfl) ?_
    refine (of_calls 58 _ (#[.agg #[.float .f64 a, .float .f64 b]]) (#[]) Try.func58 (by kernel_rfl) rfl c d s t hc hd (Rt a b) _ (fun ha hb W hW => calls_of_args (args' := #[.agg #[.float .f64 a, .float .f64 b], .agg #[.float .f64 c, .float .f64 d]]) (by simp) (mul_calls a b c d s t W (step ha hb)))).mono ?_
    rintro e_ w3 ⟨rfl, hb⟩
    refine ⟨_, rfl, ?_⟩
    have m_A := Aside0.mk (blk_below A.out hb)
    have m_B := Aside0.mk (blk_below B.out hb)
    have m_R := Aside0.mk (blk_below R.out hb)
    have m_HB := Aside0.mk (below_step HB.out hb)
    clear HB hb hHeld A B R
    have HB := m_HB
    have A := m_A
    have B := m_B
    have R := m_R
    clear m_HB m_A m_B m_R
    obtain ⟨hcA0, hcA1, hfA0, hfA1⟩ := blk2 A.out; obtain ⟨hcB0, hcB1, hfB0, hfB1⟩ := blk2 B.out; obtain ⟨hcR0, hcR1, hfR0, hfR1⟩ := blk2 R.out
    simp only [hcond]
    refine hK.out _ _ ⟨hcA0, hcA1, hcB0, hcB1⟩ (fun hHeld => ?_)
    clear hK K
    refine norm_ (a' := ?_) ?_ ?_
    rotate_left
    · show Act.put _ (some 11) _ = _
      simp only [Act.put, List.setIfInBounds_toArray, List.set_cons_zero, List.set_cons_succ, i64_w, i32_w]
      rfl
    refine take_ (i := 6) (N := some 12) (v := ?_) (a' := ?_) #[true, true, true, true, true, true, true, false, false, false] rfl rfl (by kernel_rfl) (fun _ _ _ h => h) (Or.inl ⟨by rfl, ?_⟩) hHeld ?_ ?_
    rotate_left
    · rintro w' ⟨s0, s1, s2, s3⟩
      go_simp
      with_reducible rfl
    rotate_left
    · simp only [Act.put, List.setIfInBounds_toArray, List.set_cons_zero, List.set_cons_succ, i64_w, i32_w]
      rfl
    refine take_ (i := 7) (N := some 13) (v := ?_) (a' := ?_) #[true, true, true, true, true, true, true, true, false, false] rfl rfl (by kernel_rfl) (fun _ _ _ h => h) (Or.inl ⟨by rfl, ?_⟩) hHeld ?_ ?_
    rotate_left
    · rintro w' ⟨s0, s1, s2, s3⟩
      go_simp
      with_reducible rfl
    rotate_left
    · simp only [Act.put, List.setIfInBounds_toArray, List.set_cons_zero, List.set_cons_succ, i64_w, i32_w]
      rfl
    refine one_ (i := 8) (N := none) #[true, true, true, true, true, true, true, true, true, false] rfl rfl (by kernel_rfl) (by decide) (fun K hK => ?_)
    refine stored2K (x := .float .f64 0) (y := .float .f64 0) R.out (by rfl) rfl (by first | (go_simp; done) | (go_simp; rfl)) (fun w1 hbox hoth hlow => ?_)
    have m_A := Aside0.mk ((hoth _ NE_A_R.out).trans A.out)
    have m_B := Aside0.mk ((hoth _ NE_B_R.out).trans B.out)
    have m_HB := Aside0.mk (HB.out.trans (hlow.mono GR.out))
    clear HB hoth hlow hHeld A B R
    have HB := m_HB
    have R := Aside0.mk hbox
    have A := m_A
    have B := m_B
    clear m_HB hbox m_A m_B
    obtain ⟨hcA0, hcA1, hfA0, hfA1⟩ := blk2 A.out; obtain ⟨hcB0, hcB1, hfB0, hfB1⟩ := blk2 B.out; obtain ⟨hcR0, hcR1, hfR0, hfR1⟩ := blk2 R.out
    refine hK.out _ _ ⟨hcA0, hcA1, hcB0, hcB1⟩ (fun hHeld => ?_)
    clear hK K
    refine take_ (i := 9) (N := some 5) (v := ?_) (a' := ?_) #[true, true, true, true, true, true, true, true, true, true] rfl rfl (by kernel_rfl) (fun _ _ _ h => h) (Or.inl ⟨by rfl, ?_⟩) hHeld ?_ ?_
    rotate_left
    · rintro w' ⟨s0, s1, s2, s3⟩
      go_simp
      with_reducible rfl
    rotate_left
    · simp only [Act.put, List.setIfInBounds_toArray, List.set_cons_zero, List.set_cons_succ, i64_w, i32_w]
      rfl
    refine done_ (by kernel_rfl) ?_
    try go_wp2
    refine bodyPost_ret (results_ct rfl _ _ gR 26 #[.float .f64 0, .float .f64 0] (0, 0) _ rfl R.out Try.underlying26 rfl (by kernel_rfl)) rfl ?_
    exact ⟨rfl, HB.out⟩
end Go.Proofs.Yteaghcchalfgmaa.PAll
