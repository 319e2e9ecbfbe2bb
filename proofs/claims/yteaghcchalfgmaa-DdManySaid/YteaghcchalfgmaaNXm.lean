/- Differences and quotients of pairs: the code's side, walked. -/
import Derived.Test.YteaghcchalfgmaaNXl
namespace Go.Proofs.Yteaghcchalfgmaa.PAll
open Go.RowKit Go.Proofs.YteaghcchalfgmaaW.PrintWords Go.Proofs.YteaghcchalfgmaaW.PrintLast Go.Proofs.YteaghcchalfgmaaW.PrintMore
open Go.Proofs.Yteaghcchalfgmaa.Nm Ieee
set_option linter.unusedVariables false
set_option linter.unusedSimpArgs false
attribute [local go_sem] run_store_float ext32 ext60 un_neg

set_option maxHeartbeats 4000000 in
set_option maxRecDepth 100000 in
theorem Sub1_calls (gA a b c d s t : Nat) (w : World) (hA : w.heap[gA]? = some (.cells #[.float .f64 a, .float .f64 b] 26 (0, 0))) (h : addF a b (Op.negFloat .f64 c) (Op.negFloat .f64 d) = some (s, t)) :
    Calls Try.prog 56 #[.agg #[.float .f64 c, .float .f64 d], .pointer (some ⟨gA, 0, none⟩)] w fun e w' => e = .returned (.agg #[.float .f64 s, .float .f64 t]) ∧ Below w.heap.size w w' := by
  have hu26 := Try.underlying26
  have hu48 := Try.underlying48
  have A := Aside0.mk hA
  clear hA
  have HB := Aside0.mk (Below.refl w.heap.size w)
  obtain ⟨hcA0, hcA1, hfA0, hfA1⟩ := blk2 A.out
  go_enter Try.func56, Try.ntmps56
  try go_wp2_with (first | ((with_reducible refine gate_dst (N := 2) rfl ?_); refine box_event ?hg (N := 2) ?hd (cs := #[.float .f64 c, .float .f64 d]) (t := 48) ?hr ?_; (case hd => rfl); (case hg => rfl); (case hr => first | (go_simp; done) | (go_simp; rfl)); intro gB hg w1 hbox hb; have GB := Aside0.mk (hg ▸ below_size HB.out : w.heap.size ≤ gB); have NE_A_B := Aside0.mk (show gA ≠ gB from hg ▸ Nat.ne_of_lt (blk_lt A.out)); have m_A := Aside0.mk (blk_below A.out hb); have m_HB := Aside0.mk (below_step HB.out hb); clear HB hb A; have HB := m_HB; have A := m_A; clear m_HB hg m_A; have B := Aside0.mk hbox; clear hbox; obtain ⟨hcA0, hcA1, hfA0, hfA1⟩ := blk2 A.out; obtain ⟨hcB0, hcB1, hfB0, hfB1⟩ := blk2 B.out) | ((with_reducible refine gate_dst (N := 3) rfl ?_); refine box_event ?hg (N := 3) ?hd (cs := #[.float .f64 0, .float .f64 0]) (t := 48) ?hr ?_; (case hd => rfl); (case hg => rfl); (case hr => first | (go_simp; done) | (go_simp; rfl)); intro gR hg w1 hbox hb; have GR := Aside0.mk (hg ▸ below_size HB.out : w.heap.size ≤ gR); have NE_A_R := Aside0.mk (show gA ≠ gR from hg ▸ Nat.ne_of_lt (blk_lt A.out)); have NE_B_R := Aside0.mk (show gB ≠ gR from hg ▸ Nat.ne_of_lt (blk_lt B.out)); have m_A := Aside0.mk (blk_below A.out hb); have m_B := Aside0.mk (blk_below B.out hb); have m_HB := Aside0.mk (below_step HB.out hb); clear HB hb A B; have HB := m_HB; have A := m_A; have B := m_B; clear m_HB hg m_A m_B; have R := Aside0.mk hbox; clear hbox; obtain ⟨hcA0, hcA1, hfA0, hfA1⟩ := blk2 A.out; obtain ⟨hcB0, hcB1, hfB0, hfB1⟩ := blk2 B.out; obtain ⟨hcR0, hcR1, hfR0, hfR1⟩ := blk2 R.out))
  refine start_ (n := 5) (S := fun w' => w'.cell? ⟨gA, 0, none⟩ = some (.float .f64 a) ∧ w'.cell? ⟨gA, 1, none⟩ = some (.float .f64 b) ∧ w'.cell? ⟨gB, 0, none⟩ = some (.float .f64 c) ∧ w'.cell? ⟨gB, 1, none⟩ = some (.float .f64 d)) (ds := []) #[false, false, false, false, false] (by kernel_rfl) rfl rfl ⟨hcA0, hcA1, hcB0, hcB1⟩ (fun hHeld => ?_)
  have m_A := Aside0.mk (show w1.drew.heap[gA]? = _ from A.out)
  have m_B := Aside0.mk (show w1.drew.heap[gB]? = _ from B.out)
  have m_R := Aside0.mk (show w1.drew.heap[gR]? = _ from R.out)
  have m_HB := Aside0.mk (show Below w.heap.size w w1.drew from below_drew HB.out)
  clear HB A B R
  have HB := m_HB
  have A := m_A
  have B := m_B
  have R := m_R
  clear m_HB m_A m_B m_R
  generalize w1.drew = w8 at HB A B R hHeld ⊢
  obtain ⟨hcA0, hcA1, hfA0, hfA1⟩ := blk2 A.out; obtain ⟨hcB0, hcB1, hfB0, hfB1⟩ := blk2 B.out; obtain ⟨hcR0, hcR1, hfR0, hfR1⟩ := blk2 R.out
  refine take_ (i := 0) (N := some 4) (v := ?_) (a' := ?_) #[true, false, false, false, false] rfl rfl (by kernel_rfl) (fun _ _ _ h => h) (Or.inl ⟨by rfl, ?_⟩) hHeld ?_ ?_
  rotate_left
  · rintro w' ⟨s0, s1, s2, s3⟩
    go_simp
    with_reducible rfl
  rotate_left
  · simp only [Act.put, List.setIfInBounds_toArray, List.set_cons_zero, List.set_cons_succ, i64_w, i32_w]
    rfl
  refine take_ (i := 1) (N := some 5) (v := ?_) (a' := ?_) #[true, true, false, false, false] rfl rfl (by kernel_rfl) (fun _ _ _ h => h) (Or.inl ⟨by rfl, ?_⟩) hHeld ?_ ?_
  rotate_left
  · rintro w' ⟨s0, s1, s2, s3⟩
    go_simp
    with_reducible rfl
  rotate_left
  · simp only [Act.put, List.setIfInBounds_toArray, List.set_cons_zero, List.set_cons_succ, i64_w, i32_w]
    rfl
  refine one_ (i := 2) (N := some 6) #[true, true, true, false, false] rfl rfl (by kernel_rfl) (by decide) (fun K hK => ?_)
  refine goes_ Try.func57 (by kernel_rfl) rfl #[.agg #[.float .f64 c, .float .f64 d]] (by rfl) rfl rfl (by (try simp only [List.map_toArray, List.map_cons, List.map_nil]); first | done | rfl) ?_
  refine (turned_calls c d _).mono ?_
  rintro e_ w3 ⟨rfl, hb⟩
  refine ⟨_, rfl, ?_⟩
  have m_A := Aside0.mk (blk_below A.out hb)
  have m_B := Aside0.mk (blk_below B.out hb)
  have m_R := Aside0.mk (blk_below R.out hb)
  have m_HB := Aside0.mk (below_step HB.out hb)
  clear HB hb hHeld A B R
  have HB := m_HB
  have A := m_A
  have B := m_B
  have R := m_R
  clear m_HB m_A m_B m_R
  obtain ⟨hcA0, hcA1, hfA0, hfA1⟩ := blk2 A.out; obtain ⟨hcB0, hcB1, hfB0, hfB1⟩ := blk2 B.out; obtain ⟨hcR0, hcR1, hfR0, hfR1⟩ := blk2 R.out
  refine hK.out _ _ ⟨hcA0, hcA1, hcB0, hcB1⟩ (fun hHeld => ?_)
  clear hK K
  refine norm_ (a' := ?_) ?_ ?_
  rotate_left
  · show Act.put _ (some 6) _ = _
    simp only [Act.put, List.setIfInBounds_toArray, List.set_cons_zero, List.set_cons_succ, i64_w, i32_w]
    rfl
  refine one_ (i := 3) (N := some 7) #[true, true, true, true, false] rfl rfl (by kernel_rfl) (by decide) (fun K hK => ?_)
  refine goes_ Try.func30 (by kernel_rfl) rfl #[.agg #[.float .f64 a, .float .f64 b], .agg #[.float .f64 (Op.negFloat .f64 c), .float .f64 (Op.negFloat .f64 d)]] (by rfl) rfl rfl (by (try simp only [List.map_toArray, List.map_cons, List.map_nil]); first | done | rfl) ?_
  refine (add_calls a b (Op.negFloat .f64 c) (Op.negFloat .f64 d) s t _ h).mono ?_
  rintro e_ w3 ⟨rfl, hb⟩
  refine ⟨_, rfl, ?_⟩
  have m_A := Aside0.mk (blk_below A.out hb)
  have m_B := Aside0.mk (blk_below B.out hb)
  have m_R := Aside0.mk (blk_below R.out hb)
  have m_HB := Aside0.mk (below_step HB.out hb)
  clear HB hb hHeld A B R
  have HB := m_HB
  have A := m_A
  have B := m_B
  have R := m_R
  clear m_HB m_A m_B m_R
  obtain ⟨hcA0, hcA1, hfA0, hfA1⟩ := blk2 A.out; obtain ⟨hcB0, hcB1, hfB0, hfB1⟩ := blk2 B.out; obtain ⟨hcR0, hcR1, hfR0, hfR1⟩ := blk2 R.out
  refine hK.out _ _ ⟨hcA0, hcA1, hcB0, hcB1⟩ (fun hHeld => ?_)
  clear hK K
  refine norm_ (a' := ?_) ?_ ?_
  rotate_left
  · show Act.put _ (some 7) _ = _
    simp only [Act.put, List.setIfInBounds_toArray, List.set_cons_zero, List.set_cons_succ, i64_w, i32_w]
    rfl
  refine one_ (i := 4) (N := none) #[true, true, true, true, true] rfl rfl (by kernel_rfl) (by decide) (fun K hK => ?_)
  refine stored2K (x := .float .f64 s) (y := .float .f64 t) R.out (by rfl) rfl (by first | (go_simp; done) | (go_simp; rfl)) (fun w1 hbox hoth hlow => ?_)
  have m_A := Aside0.mk ((hoth _ NE_A_R.out).trans A.out)
  have m_B := Aside0.mk ((hoth _ NE_B_R.out).trans B.out)
  have m_HB := Aside0.mk (HB.out.trans (hlow.mono GR.out))
  clear HB hoth hlow hHeld A B R
  have HB := m_HB
  have R := Aside0.mk hbox
  have A := m_A
  have B := m_B
  clear m_HB hbox m_A m_B
  obtain ⟨hcA0, hcA1, hfA0, hfA1⟩ := blk2 A.out; obtain ⟨hcB0, hcB1, hfB0, hfB1⟩ := blk2 B.out; obtain ⟨hcR0, hcR1, hfR0, hfR1⟩ := blk2 R.out
  refine hK.out _ _ ⟨hcA0, hcA1, hcB0, hcB1⟩ (fun hHeld => ?_)
  clear hK K
  refine done_ (by kernel_rfl) ?_
  try go_wp2
  refine bodyPost_ret (results_cell_row rfl _ _ gR 48 #[.float .f64 s, .float .f64 t] (0, 0) _ rfl R.out Try.underlying48 rfl (by kernel_rfl)) rfl ?_
  exact ⟨rfl, HB.out⟩

set_option maxHeartbeats 4000000 in
set_option maxRecDepth 100000 in
theorem Sub_calls (a b c d s t : Nat) (ha : a < 18446744073709551616) (hb0 : b < 18446744073709551616) (hc : c < 18446744073709551616) (hd : d < 18446744073709551616) (w : World) (step : Rt a b = true → Rt c d = true → addF a b (Op.negFloat .f64 c) (Op.negFloat .f64 d) = some (s, t)) :
    Calls Try.prog 24 #[.agg #[.float .f64 a, .float .f64 b], .agg #[.float .f64 c, .float .f64 d]] w fun e w' => e = .returned (if Rt a b = true ∧ Rt c d = true then .tuple #[.agg #[.float .f64 s, .float .f64 t], .int .i64 0] else .tuple #[.agg #[.float .f64 0, .float .f64 0], .int .i64 2]) ∧ Below w.heap.size w w' := by
  have hu26 := Try.underlying26
  have hmf : ∀ (fn : Fn) (first cap : Array Value) (w : World), (Instr.makeFunc fn first cap).run Try.prog w = .ok (.func fn first cap) w := fun _ _ _ _ => rfl
  have HB := Aside0.mk (Below.refl w.heap.size w)
  by_cases hq : Rt a b = true ∧ Rt c d = true
  · rw [if_pos hq]
    have hcond : (if Rt a b = true ∧ Rt c d = true then Value.tuple #[.agg #[.float .f64 s, .float .f64 t], .int .i64 0] else .tuple #[.agg #[.float .f64 0, .float .f64 0], .int .i64 2]) = Value.tuple #[.agg #[.float .f64 s, .float .f64 t], .int .i64 0] := if_pos hq
    go_enter Try.func24, Try.ntmps24
    try go_wp2_with (first | ((with_reducible refine gate_dst (N := 2) rfl ?_); refine box_event ?hg (N := 2) ?hd (cs := #[.float .f64 a, .float .f64 b]) (t := 26) ?hr ?_; (case hd => rfl); (case hg => rfl); (case hr => first | (go_simp; done) | (go_simp; rfl)); intro gA hg w1 hbox hb; have GA := Aside0.mk (hg ▸ below_size HB.out : w.heap.size ≤ gA); have m_HB := Aside0.mk (below_step HB.out hb); clear HB hb ; have HB := m_HB; clear m_HB hg ; have A := Aside0.mk hbox; clear hbox; obtain ⟨hcA0, hcA1, hfA0, hfA1⟩ := blk2 A.out) | ((with_reducible refine gate_dst (N := 3) rfl ?_); refine box_event ?hg (N := 3) ?hd (cs := #[.float .f64 c, .float .f64 d]) (t := 26) ?hr ?_; (case hd => rfl); (case hg => rfl); (case hr => first | (go_simp; done) | (go_simp; rfl)); intro gB hg w1 hbox hb; have GB := Aside0.mk (hg ▸ below_size HB.out : w.heap.size ≤ gB); have NE_A_B := Aside0.mk (show gA ≠ gB from hg ▸ Nat.ne_of_lt (blk_lt A.out)); have m_A := Aside0.mk (blk_below A.out hb); have m_HB := Aside0.mk (below_step HB.out hb); clear HB hb A; have HB := m_HB; have A := m_A; clear m_HB hg m_A; have B := Aside0.mk hbox; clear hbox; obtain ⟨hcA0, hcA1, hfA0, hfA1⟩ := blk2 A.out; obtain ⟨hcB0, hcB1, hfB0, hfB1⟩ := blk2 B.out) | ((with_reducible refine gate_dst (N := 4) rfl ?_); refine box_event ?hg (N := 4) ?hd (cs := #[.float .f64 0, .float .f64 0]) (t := 26) ?hr ?_; (case hd => rfl); (case hg => rfl); (case hr => first | (go_simp; done) | (go_simp; rfl)); intro gR hg w1 hbox hb; have GR := Aside0.mk (hg ▸ below_size HB.out : w.heap.size ≤ gR); have NE_A_R := Aside0.mk (show gA ≠ gR from hg ▸ Nat.ne_of_lt (blk_lt A.out)); have NE_B_R := Aside0.mk (show gB ≠ gR from hg ▸ Nat.ne_of_lt (blk_lt B.out)); have m_A := Aside0.mk (blk_below A.out hb); have m_B := Aside0.mk (blk_below B.out hb); have m_HB := Aside0.mk (below_step HB.out hb); clear HB hb A B; have HB := m_HB; have A := m_A; have B := m_B; clear m_HB hg m_A m_B; have R := Aside0.mk hbox; clear hbox; obtain ⟨hcA0, hcA1, hfA0, hfA1⟩ := blk2 A.out; obtain ⟨hcB0, hcB1, hfB0, hfB1⟩ := blk2 B.out; obtain ⟨hcR0, hcR1, hfR0, hfR1⟩ := blk2 R.out))
    refine start_ (n := 9) (S := fun w' => w'.cell? ⟨gA, 0, none⟩ = some (.float .f64 a) ∧ w'.cell? ⟨gA, 1, none⟩ = some (.float .f64 b) ∧ w'.cell? ⟨gB, 0, none⟩ = some (.float .f64 c) ∧ w'.cell? ⟨gB, 1, none⟩ = some (.float .f64 d)) (ds := []) #[false, false, false, false, false, false, false, false, false] (by kernel_rfl) rfl rfl ⟨hcA0, hcA1, hcB0, hcB1⟩ (fun hHeld => ?_)
    have m_A := Aside0.mk (show w1.drew.heap[gA]? = _ from A.out)
    have m_B := Aside0.mk (show w1.drew.heap[gB]? = _ from B.out)
    have m_R := Aside0.mk (show w1.drew.heap[gR]? = _ from R.out)
    have m_HB := Aside0.mk (show Below w.heap.size w w1.drew from below_drew HB.out)
    clear HB A B R
    have HB := m_HB
    have A := m_A
    have B := m_B
    have R := m_R
    clear m_HB m_A m_B m_R
    generalize w1.drew = w8 at HB A B R hHeld ⊢
    obtain ⟨hcA0, hcA1, hfA0, hfA1⟩ := blk2 A.out; obtain ⟨hcB0, hcB1, hfB0, hfB1⟩ := blk2 B.out; obtain ⟨hcR0, hcR1, hfR0, hfR1⟩ := blk2 R.out
    refine take_ (i := 0) (N := some 6) (v := ?_) (a' := ?_) #[true, false, false, false, false, false, false, false, false] rfl rfl (by kernel_rfl) (fun _ _ _ h => h) (Or.inl ⟨by rfl, ?_⟩) hHeld ?_ ?_
    rotate_left
    · rintro w' ⟨s0, s1, s2, s3⟩
      go_simp
      with_reducible rfl
    rotate_left
    · simp only [Act.put, List.setIfInBounds_toArray, List.set_cons_zero, List.set_cons_succ, i64_w, i32_w]
      rfl
    refine take_ (i := 1) (N := some 7) (v := ?_) (a' := ?_) #[true, true, false, false, false, false, false, false, false] rfl rfl (by kernel_rfl) (fun _ _ _ h => h) (Or.inl ⟨by rfl, ?_⟩) hHeld ?_ ?_
    rotate_left
    · rintro w' ⟨s0, s1, s2, s3⟩
      go_simp
      with_reducible rfl
    rotate_left
    · simp only [Act.put, List.setIfInBounds_toArray, List.set_cons_zero, List.set_cons_succ, i64_w, i32_w]
      rfl
    refine take_ (i := 2) (N := some 8) (v := ?_) (a' := ?_) #[true, true, true, false, false, false, false, false, false] rfl rfl (by kernel_rfl) (fun _ _ _ h => h) (Or.inl ⟨by rfl, ?_⟩) hHeld ?_ ?_
    rotate_left
    · rintro w' ⟨s0, s1, s2, s3⟩
      go_simp
      with_reducible rfl
    rotate_left
    · simp only [Act.put, List.setIfInBounds_toArray, List.set_cons_zero, List.set_cons_succ, i64_w, i32_w]
      rfl
    refine one_ (i := 3) (N := some 9) #[true, true, true, true, false, false, false, false, false] rfl rfl (by kernel_rfl) (by decide) (fun K hK => ?_)
    refine goes_ Try.func22 (by kernel_rfl) rfl #[.agg #[.float .f64 a, .float .f64 b]] (by rfl) rfl rfl (by (try simp only [List.map_toArray, List.map_cons, List.map_nil]); first | done | rfl) ?_
    refine (Right_calls a b ha hb0 _).mono ?_
    rintro e_ w3 ⟨rfl, hb⟩
    refine ⟨_, rfl, ?_⟩
    have m_A := Aside0.mk (blk_below A.out hb)
    have m_B := Aside0.mk (blk_below B.out hb)
    have m_R := Aside0.mk (blk_below R.out hb)
    have m_HB := Aside0.mk (below_step HB.out hb)
    clear HB hb hHeld A B R
    have HB := m_HB
    have A := m_A
    have B := m_B
    have R := m_R
    clear m_HB m_A m_B m_R
    obtain ⟨hcA0, hcA1, hfA0, hfA1⟩ := blk2 A.out; obtain ⟨hcB0, hcB1, hfB0, hfB1⟩ := blk2 B.out; obtain ⟨hcR0, hcR1, hfR0, hfR1⟩ := blk2 R.out
    refine hK.out _ _ ⟨hcA0, hcA1, hcB0, hcB1⟩ (fun hHeld => ?_)
    clear hK K
    refine norm_ (a' := ?_) ?_ ?_
    rotate_left
    · show Act.put _ (some 9) _ = _
      simp only [Act.put, List.setIfInBounds_toArray, List.set_cons_zero, List.set_cons_succ, i64_w, i32_w]
      rfl
    refine one_ (i := 4) (N := some 10) #[true, true, true, true, true, false, false, false, false] rfl rfl (by kernel_rfl) (by decide) (fun K hK => ?_)
    refine goes_ Try.func55 (by kernel_rfl) rfl #[.func (.func 56) #[] #[.pointer (some ⟨gA, 0, none⟩)], .agg #[.float .f64 c, .float .f64 d], .bool (Rt a b)] (by rfl) rfl rfl (by (try simp only [List.map_toArray, List.map_cons, List.map_nil]); first | done | rfl) ?_
    refine (of_calls 56 _ (#[]) (#[.pointer (some ⟨gA, 0, none⟩)]) Try.func56 (by kernel_rfl) rfl c d s t hc hd (Rt a b) _ (fun ha hb W hW => calls_of_args (args' := #[.agg #[.float .f64 c, .float .f64 d], .pointer (some ⟨gA, 0, none⟩)]) (by simp) (Sub1_calls gA a b c d s t W (blk_below A.out hW) (step ha hb)))).mono ?_
    rintro e_ w3 ⟨rfl, hb⟩
    refine ⟨_, rfl, ?_⟩
    have m_A := Aside0.mk (blk_below A.out hb)
    have m_B := Aside0.mk (blk_below B.out hb)
    have m_R := Aside0.mk (blk_below R.out hb)
    have m_HB := Aside0.mk (below_step HB.out hb)
    clear HB hb hHeld A B R
    have HB := m_HB
    have A := m_A
    have B := m_B
    have R := m_R
    clear m_HB m_A m_B m_R
    obtain ⟨hcA0, hcA1, hfA0, hfA1⟩ := blk2 A.out; obtain ⟨hcB0, hcB1, hfB0, hfB1⟩ := blk2 B.out; obtain ⟨hcR0, hcR1, hfR0, hfR1⟩ := blk2 R.out
    simp only [hcond]
    refine hK.out _ _ ⟨hcA0, hcA1, hcB0, hcB1⟩ (fun hHeld => ?_)
    clear hK K
    refine norm_ (a' := ?_) ?_ ?_
    rotate_left
    · show Act.put _ (some 10) _ = _
      simp only [Act.put, List.setIfInBounds_toArray, List.set_cons_zero, List.set_cons_succ, i64_w, i32_w]
      rfl
    refine take_ (i := 5) (N := some 11) (v := ?_) (a' := ?_) #[true, true, true, true, true, true, false, false, false] rfl rfl (by kernel_rfl) (fun _ _ _ h => h) (Or.inl ⟨by rfl, ?_⟩) hHeld ?_ ?_
    rotate_left
    · rintro w' ⟨s0, s1, s2, s3⟩
      go_simp
      with_reducible rfl
    rotate_left
    · simp only [Act.put, List.setIfInBounds_toArray, List.set_cons_zero, List.set_cons_succ, i64_w, i32_w]
      rfl
    refine take_ (i := 6) (N := some 12) (v := ?_) (a' := ?_) #[true, true, true, true, true, true, true, false, false] rfl rfl (by kernel_rfl) (fun _ _ _ h => h) (Or.inl ⟨by rfl, ?_⟩) hHeld ?_ ?_
    rotate_left
    · rintro w' ⟨s0, s1, s2, s3⟩
      go_simp
      with_reducible rfl
    rotate_left
    · simp only [Act.put, List.setIfInBounds_toArray, List.set_cons_zero, List.set_cons_succ, i64_w, i32_w]
      rfl
    refine one_ (i := 7) (N := none) #[true, true, true, true, true, true, true, true, false] rfl rfl (by kernel_rfl) (by decide) (fun K hK => ?_)
    refine stored2K (x := .float .f64 s) (y := .float .f64 t) R.out (by rfl) rfl (by first | (go_simp; done) | (go_simp; rfl)) (fun w1 hbox hoth hlow => ?_)
    have m_A := Aside0.mk ((hoth _ NE_A_R.out).trans A.out)
    have m_B := Aside0.mk ((hoth _ NE_B_R.out).trans B.out)
    have m_HB := Aside0.mk (HB.out.trans (hlow.mono GR.out))
    clear HB hoth hlow hHeld A B R
    have HB := m_HB
    have R := Aside0.mk hbox
    have A := m_A
    have B := m_B
    clear m_HB hbox m_A m_B
    obtain ⟨hcA0, hcA1, hfA0, hfA1⟩ := blk2 A.out; obtain ⟨hcB0, hcB1, hfB0, hfB1⟩ := blk2 B.out; obtain ⟨hcR0, hcR1, hfR0, hfR1⟩ := blk2 R.out
    refine hK.out _ _ ⟨hcA0, hcA1, hcB0, hcB1⟩ (fun hHeld => ?_)
    clear hK K
    refine take_ (i := 8) (N := some 5) (v := ?_) (a' := ?_) #[true, true, true, true, true, true, true, true, true] rfl rfl (by kernel_rfl) (fun _ _ _ h => h) (Or.inl ⟨by rfl, ?_⟩) hHeld ?_ ?_
    rotate_left
    · rintro w' ⟨s0, s1, s2, s3⟩
      go_simp
      with_reducible rfl
    rotate_left
    · simp only [Act.put, List.setIfInBounds_toArray, List.set_cons_zero, List.set_cons_succ, i64_w, i32_w]
      rfl
    refine done_ (by kernel_rfl) ?_
    try go_wp2
    refine bodyPost_ret (results_ct rfl _ _ gR 26 #[.float .f64 s, .float .f64 t] (0, 0) _ rfl R.out Try.underlying26 rfl (by kernel_rfl)) rfl ?_
    exact ⟨rfl, HB.out⟩
  · rw [if_neg hq]
    have hcond : (if Rt a b = true ∧ Rt c d = true then Value.tuple #[.agg #[.float .f64 s, .float .f64 t], .int .i64 0] else .tuple #[.agg #[.float .f64 0, .float .f64 0], .int .i64 2]) = Value.tuple #[.agg #[.float .f64 0, .float .f64 0], .int .i64 2] := if_neg hq
    go_enter Try.func24, Try.ntmps24
    try go_wp2_with (first | ((with_reducible refine gate_dst (N := 2) rfl ?_); refine box_event ?hg (N := 2) ?hd (cs := #[.float .f64 a, .float .f64 b]) (t := 26) ?hr ?_; (case hd => rfl); (case hg => rfl); (case hr => first | (go_simp; done) | (go_simp; rfl)); intro gA hg w1 hbox hb; have GA := Aside0.mk (hg ▸ below_size HB.out : w.heap.size ≤ gA); have m_HB := Aside0.mk (below_step HB.out hb); clear HB hb ; have HB := m_HB; clear m_HB hg ; have A := Aside0.mk hbox; clear hbox; obtain ⟨hcA0, hcA1, hfA0, hfA1⟩ := blk2 A.out) | ((with_reducible refine gate_dst (N := 3) rfl ?_); refine box_event ?hg (N := 3) ?hd (cs := #[.float .f64 c, .float .f64 d]) (t := 26) ?hr ?_; (case hd => rfl); (case hg => rfl); (case hr => first | (go_simp; done) | (go_simp; rfl)); intro gB hg w1 hbox hb; have GB := Aside0.mk (hg ▸ below_size HB.out : w.heap.size ≤ gB); have NE_A_B := Aside0.mk (show gA ≠ gB from hg ▸ Nat.ne_of_lt (blk_lt A.out)); have m_A := Aside0.mk (blk_below A.out hb); have m_HB := Aside0.mk (below_step HB.out hb); clear HB hb A; have HB := m_HB; have A := m_A; clear m_HB hg m_A; have B := Aside0.mk hbox; clear hbox; obtain ⟨hcA0, hcA1, hfA0, hfA1⟩ := blk2 A.out; obtain ⟨hcB0, hcB1, hfB0, hfB1⟩ := blk2 B.out) | ((with_reducible refine gate_dst (N := 4) rfl ?_); refine box_event ?hg (N := 4) ?hd (cs := #[.float .f64 0, .float .f64 0]) (t := 26) ?hr ?_; (case hd => rfl); (case hg => rfl); (case hr => first | (go_simp; done) | (go_simp; rfl)); intro gR hg w1 hbox hb; have GR := Aside0.mk (hg ▸ below_size HB.out : w.heap.size ≤ gR); have NE_A_R := Aside0.mk (show gA ≠ gR from hg ▸ Nat.ne_of_lt (blk_lt A.out)); have NE_B_R := Aside0.mk (show gB ≠ gR from hg ▸ Nat.ne_of_lt (blk_lt B.out)); have m_A := Aside0.mk (blk_below A.out hb); have m_B := Aside0.mk (blk_below B.out hb); have m_HB := Aside0.mk (below_step HB.out hb); clear HB hb A B; have HB := m_HB; have A := m_A; have B := m_B; clear m_HB hg m_A m_B; have R := Aside0.mk hbox; clear hbox; obtain ⟨hcA0, hcA1, hfA0, hfA1⟩ := blk2 A.out; obtain ⟨hcB0, hcB1, hfB0, hfB1⟩ := blk2 B.out; obtain ⟨hcR0, hcR1, hfR0, hfR1⟩ := blk2 R.out))
    refine start_ (n := 9) (S := fun w' => w'.cell? ⟨gA, 0, none⟩ = some (.float .f64 a) ∧ w'.cell? ⟨gA, 1, none⟩ = some (.float .f64 b) ∧ w'.cell? ⟨gB, 0, none⟩ = some (.float .f64 c) ∧ w'.cell? ⟨gB, 1, none⟩ = some (.float .f64 d)) (ds := []) #[false, false, false, false, false, false, false, false, false] (by kernel_rfl) rfl rfl ⟨hcA0, hcA1, hcB0, hcB1⟩ (fun hHeld => ?_)
    have m_A := Aside0.mk (show w1.drew.heap[gA]? = _ from A.out)
    have m_B := Aside0.mk (show w1.drew.heap[gB]? = _ from B.out)
    have m_R := Aside0.mk (show w1.drew.heap[gR]? = _ from R.out)
    have m_HB := Aside0.mk (show Below w.heap.size w w1.drew from below_drew HB.out)
    clear HB A B R
    have HB := m_HB
    have A := m_A
    have B := m_B
    have R := m_R
    clear m_HB m_A m_B m_R
    generalize w1.drew = w8 at HB A B R hHeld ⊢
    obtain ⟨hcA0, hcA1, hfA0, hfA1⟩ := blk2 A.out; obtain ⟨hcB0, hcB1, hfB0, hfB1⟩ := blk2 B.out; obtain ⟨hcR0, hcR1, hfR0, hfR1⟩ := blk2 R.out
    refine take_ (i := 0) (N := some 6) (v := ?_) (a' := ?_) #[true, false, false, false, false, false, false, false, false] rfl rfl (by kernel_rfl) (fun _ _ _ h => h) (Or.inl ⟨by rfl, ?_⟩) hHeld ?_ ?_
    rotate_left
    · rintro w' ⟨s0, s1, s2, s3⟩
      go_simp
      with_reducible rfl
    rotate_left
    · simp only [Act.put, List.setIfInBounds_toArray, List.set_cons_zero, List.set_cons_succ, i64_w, i32_w]
      rfl
    refine take_ (i := 1) (N := some 7) (v := ?_) (a' := ?_) #[true, true, false, false, false, false, false, false, false] rfl rfl (by kernel_rfl) (fun _ _ _ h => h) (Or.inl ⟨by rfl, ?_⟩) hHeld ?_ ?_
    rotate_left
    · rintro w' ⟨s0, s1, s2, s3⟩
      go_simp
      with_reducible rfl
    rotate_left
    · simp only [Act.put, List.setIfInBounds_toArray, List.set_cons_zero, List.set_cons_succ, i64_w, i32_w]
      rfl
    refine take_ (i := 2) (N := some 8) (v := ?_) (a' := ?_) #[true, true, true, false, false, false, false, false, false] rfl rfl (by kernel_rfl) (fun _ _ _ h => h) (Or.inl ⟨by rfl, ?_⟩) hHeld ?_ ?_
    rotate_left
    · rintro w' ⟨s0, s1, s2, s3⟩
      go_simp
      with_reducible rfl
    rotate_left
    · simp only [Act.put, List.setIfInBounds_toArray, List.set_cons_zero, List.set_cons_succ, i64_w, i32_w]
      rfl
    refine one_ (i := 3) (N := some 9) #[true, true, true, true, false, false, false, false, false] rfl rfl (by kernel_rfl) (by decide) (fun K hK => ?_)
    refine goes_ Try.func22 (by kernel_rfl) rfl #[.agg #[.float .f64 a, .float .f64 b]] (by rfl) rfl rfl (by (try simp only [List.map_toArray, List.map_cons, List.map_nil]); first | done | rfl) ?_
    refine (Right_calls a b ha hb0 _).mono ?_
    rintro e_ w3 ⟨rfl, hb⟩
    refine ⟨_, rfl, ?_⟩
    have m_A := Aside0.mk (blk_below A.out hb)
    have m_B := Aside0.mk (blk_below B.out hb)
    have m_R := Aside0.mk (blk_below R.out hb)
    have m_HB := Aside0.mk (below_step HB.out hb)
    clear HB hb hHeld A B R
    have HB := m_HB
    have A := m_A
    have B := m_B
    have R := m_R
    clear m_HB m_A m_B m_R
    obtain ⟨hcA0, hcA1, hfA0, hfA1⟩ := blk2 A.out; obtain ⟨hcB0, hcB1, hfB0, hfB1⟩ := blk2 B.out; obtain ⟨hcR0, hcR1, hfR0, hfR1⟩ := blk2 R.out
    refine hK.out _ _ ⟨hcA0, hcA1, hcB0, hcB1⟩ (fun hHeld => ?_)
    clear hK K
    refine norm_ (a' := ?_) ?_ ?_
    rotate_left
    · show Act.put _ (some 9) _ = _
      simp only [Act.put, List.setIfInBounds_toArray, List.set_cons_zero, List.set_cons_succ, i64_w, i32_w]
      rfl
    refine one_ (i := 4) (N := some 10) #[true, true, true, true, true, false, false, false, false] rfl rfl (by kernel_rfl) (by decide) (fun K hK => ?_)
    refine goes_ Try.func55 (by kernel_rfl) rfl #[.func (.func 56) #[] #[.pointer (some ⟨gA, 0, none⟩)], .agg #[.float .f64 c, .float .f64 d], .bool (Rt a b)] (by rfl) rfl rfl (by (try simp only [List.map_toArray, List.map_cons, List.map_nil]); first | done | rfl) ?_
    refine (of_calls 56 _ (#[]) (#[.pointer (some ⟨gA, 0, none⟩)]) Try.func56 (by kernel_rfl) rfl c d s t hc hd (Rt a b) _ (fun ha hb W hW => calls_of_args (args' := #[.agg #[.float .f64 c, .float .f64 d], .pointer (some ⟨gA, 0, none⟩)]) (by simp) (Sub1_calls gA a b c d s t W (blk_below A.out hW) (step ha hb)))).mono ?_
    rintro e_ w3 ⟨rfl, hb⟩
    refine ⟨_, rfl, ?_⟩
    have m_A := Aside0.mk (blk_below A.out hb)
    have m_B := Aside0.mk (blk_below B.out hb)
    have m_R := Aside0.mk (blk_below R.out hb)
    have m_HB := Aside0.mk (below_step HB.out hb)
    clear HB hb hHeld A B R
    have HB := m_HB
    have A := m_A
    have B := m_B
    have R := m_R
    clear m_HB m_A m_B m_R
    obtain ⟨hcA0, hcA1, hfA0, hfA1⟩ := blk2 A.out; obtain ⟨hcB0, hcB1, hfB0, hfB1⟩ := blk2 B.out; obtain ⟨hcR0, hcR1, hfR0, hfR1⟩ := blk2 R.out
    simp only [hcond]
    refine hK.out _ _ ⟨hcA0, hcA1, hcB0, hcB1⟩ (fun hHeld => ?_)
    clear hK K
    refine norm_ (a' := ?_) ?_ ?_
    rotate_left
    · show Act.put _ (some 10) _ = _
      simp only [Act.put, List.setIfInBounds_toArray, List.set_cons_zero, List.set_cons_succ, i64_w, i32_w]
      rfl
    refine take_ (i := 5) (N := some 11) (v := ?_) (a' := ?_) #[true, true, true, true, true, true, false, false, false] rfl rfl (by kernel_rfl) (fun _ _ _ h => h) (Or.inl ⟨by rfl, ?_⟩) hHeld ?_ ?_
    rotate_left
    · rintro w' ⟨s0, s1, s2, s3⟩
      go_simp
      with_reducible rfl
    rotate_left
    · simp only [Act.put, List.setIfInBounds_toArray, List.set_cons_zero, List.set_cons_succ, i64_w, i32_w]
      rfl
    refine take_ (i := 6) (N := some 12) (v := ?_) (a' := ?_) #[true, true, true, true, true, true, true, false, false] rfl rfl (by kernel_rfl) (fun _ _ _ h => h) (Or.inl ⟨by rfl, ?_⟩) hHeld ?_ ?_
    rotate_left
    · rintro w' ⟨s0, s1, s2, s3⟩
      go_simp
      with_reducible rfl
    rotate_left
    · simp only [Act.put, List.setIfInBounds_toArray, List.set_cons_zero, List.set_cons_succ, i64_w, i32_w]
      rfl
    refine one_ (i := 7) (N := none) #[true, true, true, true, true, true, true, true, false] rfl rfl (by kernel_rfl) (by decide) (fun K hK => ?_)
    refine stored2K (x := .float .f64 0) (y := .float .f64 0) R.out (by rfl) rfl (by first | (go_simp; done) | (go_simp; rfl)) (fun w1 hbox hoth hlow => ?_)
    have m_A := Aside0.mk ((hoth _ NE_A_R.out).trans A.out)
    have m_B := Aside0.mk ((hoth _ NE_B_R.out).trans B.out)
    have m_HB := Aside0.mk (HB.out.trans (hlow.mono GR.out))
    clear HB hoth hlow hHeld A B R
    have HB := m_HB
    have R := Aside0.mk hbox
    have A := m_A
    have B := m_B
    clear m_HB hbox m_A m_B
    obtain ⟨hcA0, hcA1, hfA0, hfA1⟩ := blk2 A.out; obtain ⟨hcB0, hcB1, hfB0, hfB1⟩ := blk2 B.out; obtain ⟨hcR0, hcR1, hfR0, hfR1⟩ := blk2 R.out
    refine hK.out _ _ ⟨hcA0, hcA1, hcB0, hcB1⟩ (fun hHeld => ?_)
    clear hK K
    refine take_ (i := 8) (N := some 5) (v := ?_) (a' := ?_) #[true, true, true, true, true, true, true, true, true] rfl rfl (by kernel_rfl) (fun _ _ _ h => h) (Or.inl ⟨by rfl, ?_⟩) hHeld ?_ ?_
    rotate_left
    · rintro w' ⟨s0, s1, s2, s3⟩
      go_simp
      with_reducible rfl
    rotate_left
    · simp only [Act.put, List.setIfInBounds_toArray, List.set_cons_zero, List.set_cons_succ, i64_w, i32_w]
      rfl
    refine done_ (by kernel_rfl) ?_
    try go_wp2
    refine bodyPost_ret (results_ct rfl _ _ gR 26 #[.float .f64 0, .float .f64 0] (0, 0) _ rfl R.out Try.underlying26 rfl (by kernel_rfl)) rfl ?_
    exact ⟨rfl, HB.out⟩

set_option maxHeartbeats 4000000 in
set_option maxRecDepth 100000 in
theorem Div_calls (a b c d s t : Nat) (ha : a < 18446744073709551616) (hb0 : b < 18446744073709551616) (hc : c < 18446744073709551616) (hd : d < 18446744073709551616) (w : World) (hz : decide (rg c = 0 ∧ rg d = 0) = false) (step : Rt a b = true → Rt c d = true → divF a b c d = some (s, t)) :
    Calls Try.prog 26 #[.agg #[.float .f64 a, .float .f64 b], .agg #[.float .f64 c, .float .f64 d]] w fun e w' => e = .returned (if Rt a b = true ∧ Rt c d = true then .tuple #[.agg #[.float .f64 s, .float .f64 t], .int .i64 0] else .tuple #[.agg #[.float .f64 0, .float .f64 0], .int .i64 2]) ∧ Below w.heap.size w w' := by
  have hu26 := Try.underlying26
  have hmf : ∀ (fn : Fn) (first cap : Array Value) (w : World), (Instr.makeFunc fn first cap).run Try.prog w = .ok (.func fn first cap) w := fun _ _ _ _ => rfl
  have HB := Aside0.mk (Below.refl w.heap.size w)
  cases hra : Rt a b
  · rw [if_neg (fun e => by cases e.1)]
    have hcond : (if Rt a b = true ∧ Rt c d = true then Value.tuple #[.agg #[.float .f64 s, .float .f64 t], .int .i64 0] else .tuple #[.agg #[.float .f64 0, .float .f64 0], .int .i64 2]) = Value.tuple #[.agg #[.float .f64 0, .float .f64 0], .int .i64 2] := if_neg (fun e => by rw [hra] at e; cases e.1)
    rw [hra] at hcond
    go_enter Try.func26, Try.ntmps26
    try go_wp2_with (first | ((with_reducible refine gate_dst (N := 2) rfl ?_); refine box_event ?hg (N := 2) ?hd (cs := #[.float .f64 a, .float .f64 b]) (t := 26) ?hr ?_; (case hd => rfl); (case hg => rfl); (case hr => first | (go_simp; done) | (go_simp; rfl)); intro gA hg w1 hbox hb; have GA := Aside0.mk (hg ▸ below_size HB.out : w.heap.size ≤ gA); have m_HB := Aside0.mk (below_step HB.out hb); clear HB hb ; have HB := m_HB; clear m_HB hg ; have A := Aside0.mk hbox; clear hbox; obtain ⟨hcA0, hcA1, hfA0, hfA1⟩ := blk2 A.out) | ((with_reducible refine gate_dst (N := 3) rfl ?_); refine box_event ?hg (N := 3) ?hd (cs := #[.float .f64 c, .float .f64 d]) (t := 26) ?hr ?_; (case hd => rfl); (case hg => rfl); (case hr => first | (go_simp; done) | (go_simp; rfl)); intro gB hg w1 hbox hb; have GB := Aside0.mk (hg ▸ below_size HB.out : w.heap.size ≤ gB); have NE_A_B := Aside0.mk (show gA ≠ gB from hg ▸ Nat.ne_of_lt (blk_lt A.out)); have m_A := Aside0.mk (blk_below A.out hb); have m_HB := Aside0.mk (below_step HB.out hb); clear HB hb A; have HB := m_HB; have A := m_A; clear m_HB hg m_A; have B := Aside0.mk hbox; clear hbox; obtain ⟨hcA0, hcA1, hfA0, hfA1⟩ := blk2 A.out; obtain ⟨hcB0, hcB1, hfB0, hfB1⟩ := blk2 B.out) | ((with_reducible refine gate_dst (N := 4) rfl ?_); refine box_event ?hg (N := 4) ?hd (cs := #[.float .f64 0, .float .f64 0]) (t := 26) ?hr ?_; (case hd => rfl); (case hg => rfl); (case hr => first | (go_simp; done) | (go_simp; rfl)); intro gR hg w1 hbox hb; have GR := Aside0.mk (hg ▸ below_size HB.out : w.heap.size ≤ gR); have NE_A_R := Aside0.mk (show gA ≠ gR from hg ▸ Nat.ne_of_lt (blk_lt A.out)); have NE_B_R := Aside0.mk (show gB ≠ gR from hg ▸ Nat.ne_of_lt (blk_lt B.out)); have m_A := Aside0.mk (blk_below A.out hb); have m_B := Aside0.mk (blk_below B.out hb); have m_HB := Aside0.mk (below_step HB.out hb); clear HB hb A B; have HB := m_HB; have A := m_A; have B := m_B; clear m_HB hg m_A m_B; have R := Aside0.mk hbox; clear hbox; obtain ⟨hcA0, hcA1, hfA0, hfA1⟩ := blk2 A.out; obtain ⟨hcB0, hcB1, hfB0, hfB1⟩ := blk2 B.out; obtain ⟨hcR0, hcR1, hfR0, hfR1⟩ := blk2 R.out) | ((with_reducible refine gate_dst (N := 7) rfl ?_); refine goesL_ (some 7) rfl rfl Try.func22 (by kernel_rfl) rfl #[.agg #[.float .f64 a, .float .f64 b]] rfl (by (try simp only [List.map_toArray, List.map_cons, List.map_nil]); first | done | rfl) ?_; refine (hra ▸ Right_calls a b ha hb0 _).mono ?_; rintro e_ w3 ⟨rfl, hb⟩; refine ⟨_, rfl, ?_⟩; have m_A := Aside0.mk (blk_below A.out hb); have m_B := Aside0.mk (blk_below B.out hb); have m_R := Aside0.mk (blk_below R.out hb); have m_HB := Aside0.mk (below_step HB.out hb); clear HB hb A B R; have HB := m_HB; have A := m_A; have B := m_B; have R := m_R; clear m_HB m_A m_B m_R; obtain ⟨hcA0, hcA1, hfA0, hfA1⟩ := blk2 A.out; obtain ⟨hcB0, hcB1, hfB0, hfB1⟩ := blk2 B.out; obtain ⟨hcR0, hcR1, hfR0, hfR1⟩ := blk2 R.out) | ((with_reducible refine gate_calls (f := 54) ?_); refine (zero_calls c d _).mono ?_; rintro e_ w3 ⟨rfl, hb⟩; (try dsimp only); have m_A := Aside0.mk (blk_below A.out hb); have m_B := Aside0.mk (blk_below B.out hb); have m_R := Aside0.mk (blk_below R.out hb); have m_HB := Aside0.mk (below_step HB.out hb); clear HB hb A B R; have HB := m_HB; have A := m_A; have B := m_B; have R := m_R; clear m_HB m_A m_B m_R; obtain ⟨hcA0, hcA1, hfA0, hfA1⟩ := blk2 A.out; obtain ⟨hcB0, hcB1, hfB0, hfB1⟩ := blk2 B.out; obtain ⟨hcR0, hcR1, hfR0, hfR1⟩ := blk2 R.out) | (simp only [hra]; try go_simp))
    refine start_ (n := 10) (S := fun w' => w'.cell? ⟨gA, 0, none⟩ = some (.float .f64 a) ∧ w'.cell? ⟨gA, 1, none⟩ = some (.float .f64 b) ∧ w'.cell? ⟨gB, 0, none⟩ = some (.float .f64 c) ∧ w'.cell? ⟨gB, 1, none⟩ = some (.float .f64 d)) (ds := []) #[false, false, false, false, false, false, false, false, false, false] (by kernel_rfl) rfl rfl ⟨hcA0, hcA1, hcB0, hcB1⟩ (fun hHeld => ?_)
    have m_A := Aside0.mk (show w3.drew.heap[gA]? = _ from A.out)
    have m_B := Aside0.mk (show w3.drew.heap[gB]? = _ from B.out)
    have m_R := Aside0.mk (show w3.drew.heap[gR]? = _ from R.out)
    have m_HB := Aside0.mk (show Below w.heap.size w w3.drew from below_drew HB.out)
    clear HB A B R
    have HB := m_HB
    have A := m_A
    have B := m_B
    have R := m_R
    clear m_HB m_A m_B m_R
    generalize w3.drew = w8 at HB A B R hHeld ⊢
    obtain ⟨hcA0, hcA1, hfA0, hfA1⟩ := blk2 A.out; obtain ⟨hcB0, hcB1, hfB0, hfB1⟩ := blk2 B.out; obtain ⟨hcR0, hcR1, hfR0, hfR1⟩ := blk2 R.out
    refine take_ (i := 0) (N := some 13) (v := ?_) (a' := ?_) #[true, false, false, false, false, false, false, false, false, false] rfl rfl (by kernel_rfl) (fun _ _ _ h => h) (Or.inl ⟨by rfl, ?_⟩) hHeld ?_ ?_
    rotate_left
    · rintro w' ⟨s0, s1, s2, s3⟩
      go_simp
      with_reducible rfl
    rotate_left
    · simp only [Act.put, List.setIfInBounds_toArray, List.set_cons_zero, List.set_cons_succ, i64_w, i32_w]
      rfl
    refine take_ (i := 1) (N := some 14) (v := ?_) (a' := ?_) #[true, true, false, false, false, false, false, false, false, false] rfl rfl (by kernel_rfl) (fun _ _ _ h => h) (Or.inl ⟨by rfl, ?_⟩) hHeld ?_ ?_
    rotate_left
    · rintro w' ⟨s0, s1, s2, s3⟩
      go_simp
      with_reducible rfl
    rotate_left
    · simp only [Act.put, List.setIfInBounds_toArray, List.set_cons_zero, List.set_cons_succ, i64_w, i32_w]
      rfl
    refine take_ (i := 2) (N := some 15) (v := ?_) (a' := ?_) #[true, true, true, false, false, false, false, false, false, false] rfl rfl (by kernel_rfl) (fun _ _ _ h => h) (Or.inl ⟨by rfl, ?_⟩) hHeld ?_ ?_
    rotate_left
    · rintro w' ⟨s0, s1, s2, s3⟩
      go_simp
      with_reducible rfl
    rotate_left
    · simp only [Act.put, List.setIfInBounds_toArray, List.set_cons_zero, List.set_cons_succ, i64_w, i32_w]
      rfl
    refine take_ (i := 3) (N := some 16) (v := ?_) (a' := ?_) #[true, true, true, true, false, false, false, false, false, false] rfl rfl (by kernel_rfl) (fun _ _ _ h => h) (Or.inl ⟨by rfl, ?_⟩) hHeld ?_ ?_
    rotate_left
    · rintro w' ⟨s0, s1, s2, s3⟩
      go_simp
      with_reducible rfl
    rotate_left
    · simp only [Act.put, List.setIfInBounds_toArray, List.set_cons_zero, List.set_cons_succ, i64_w, i32_w]
      rfl
    refine one_ (i := 4) (N := some 17) #[true, true, true, true, true, false, false, false, false, false] rfl rfl (by kernel_rfl) (by decide) (fun K hK => ?_)
    refine goes_ Try.func22 (by kernel_rfl) rfl #[.agg #[.float .f64 a, .float .f64 b]] (by rfl) rfl rfl (by (try simp only [List.map_toArray, List.map_cons, List.map_nil]); first | done | rfl) ?_
    refine (hra ▸ Right_calls a b ha hb0 _).mono ?_
    rintro e_ w3 ⟨rfl, hb⟩
    refine ⟨_, rfl, ?_⟩
    have m_A := Aside0.mk (blk_below A.out hb)
    have m_B := Aside0.mk (blk_below B.out hb)
    have m_R := Aside0.mk (blk_below R.out hb)
    have m_HB := Aside0.mk (below_step HB.out hb)
    clear HB hb hHeld A B R
    have HB := m_HB
    have A := m_A
    have B := m_B
    have R := m_R
    clear m_HB m_A m_B m_R
    obtain ⟨hcA0, hcA1, hfA0, hfA1⟩ := blk2 A.out; obtain ⟨hcB0, hcB1, hfB0, hfB1⟩ := blk2 B.out; obtain ⟨hcR0, hcR1, hfR0, hfR1⟩ := blk2 R.out
    refine hK.out _ _ ⟨hcA0, hcA1, hcB0, hcB1⟩ (fun hHeld => ?_)
    clear hK K
    refine norm_ (a' := ?_) ?_ ?_
    rotate_left
    · show Act.put _ (some 17) _ = _
      simp only [Act.put, List.setIfInBounds_toArray, List.set_cons_zero, List.set_cons_succ, i64_w, i32_w]
      rfl
    refine one_ (i := 5) (N := some 18) #[true, true, true, true, true, true, false, false, false, false] rfl rfl (by kernel_rfl) (by decide) (fun K hK => ?_)
    refine goes_ Try.func55 (by kernel_rfl) rfl #[.func (.func 59) #[.agg #[.float .f64 a, .float .f64 b]] #[], .agg #[.float .f64 c, .float .f64 d], .bool false] (by rfl) rfl rfl (by (try simp only [List.map_toArray, List.map_cons, List.map_nil]); first | done | rfl) ?_
    refine (of_calls 59 _ (#[.agg #[.float .f64 a, .float .f64 b]]) (#[]) Try.func59 (by kernel_rfl) rfl c d s t hc hd false _ (fun ha hb W hW => calls_of_args (args' := #[.agg #[.float .f64 a, .float .f64 b], .agg #[.float .f64 c, .float .f64 d]]) (by simp) (div_calls a b c d s t W (by cases ha)))).mono ?_
    rintro e_ w3 ⟨rfl, hb⟩
    refine ⟨_, rfl, ?_⟩
    have m_A := Aside0.mk (blk_below A.out hb)
    have m_B := Aside0.mk (blk_below B.out hb)
    have m_R := Aside0.mk (blk_below R.out hb)
    have m_HB := Aside0.mk (below_step HB.out hb)
    clear HB hb hHeld A B R
    have HB := m_HB
    have A := m_A
    have B := m_B
    have R := m_R
    clear m_HB m_A m_B m_R
    obtain ⟨hcA0, hcA1, hfA0, hfA1⟩ := blk2 A.out; obtain ⟨hcB0, hcB1, hfB0, hfB1⟩ := blk2 B.out; obtain ⟨hcR0, hcR1, hfR0, hfR1⟩ := blk2 R.out
    simp only [hcond]
    refine hK.out _ _ ⟨hcA0, hcA1, hcB0, hcB1⟩ (fun hHeld => ?_)
    clear hK K
    refine norm_ (a' := ?_) ?_ ?_
    rotate_left
    · show Act.put _ (some 18) _ = _
      simp only [Act.put, List.setIfInBounds_toArray, List.set_cons_zero, List.set_cons_succ, i64_w, i32_w]
      rfl
    refine take_ (i := 6) (N := some 19) (v := ?_) (a' := ?_) #[true, true, true, true, true, true, true, false, false, false] rfl rfl (by kernel_rfl) (fun _ _ _ h => h) (Or.inl ⟨by rfl, ?_⟩) hHeld ?_ ?_
    rotate_left
    · rintro w' ⟨s0, s1, s2, s3⟩
      go_simp
      with_reducible rfl
    rotate_left
    · simp only [Act.put, List.setIfInBounds_toArray, List.set_cons_zero, List.set_cons_succ, i64_w, i32_w]
      rfl
    refine take_ (i := 7) (N := some 20) (v := ?_) (a' := ?_) #[true, true, true, true, true, true, true, true, false, false] rfl rfl (by kernel_rfl) (fun _ _ _ h => h) (Or.inl ⟨by rfl, ?_⟩) hHeld ?_ ?_
    rotate_left
    · rintro w' ⟨s0, s1, s2, s3⟩
      go_simp
      with_reducible rfl
    rotate_left
    · simp only [Act.put, List.setIfInBounds_toArray, List.set_cons_zero, List.set_cons_succ, i64_w, i32_w]
      rfl
    refine one_ (i := 8) (N := none) #[true, true, true, true, true, true, true, true, true, false] rfl rfl (by kernel_rfl) (by decide) (fun K hK => ?_)
    refine stored2K (x := .float .f64 0) (y := .float .f64 0) R.out (by rfl) rfl (by first | (go_simp; done) | (go_simp; rfl)) (fun w1 hbox hoth hlow => ?_)
    have m_A := Aside0.mk ((hoth _ NE_A_R.out).trans A.out)
    have m_B := Aside0.mk ((hoth _ NE_B_R.out).trans B.out)
    have m_HB := Aside0.mk (HB.out.trans (hlow.mono GR.out))
    clear HB hoth hlow hHeld A B R
    have HB := m_HB
    have R := Aside0.mk hbox
    have A := m_A
    have B := m_B
    clear m_HB hbox m_A m_B
    obtain ⟨hcA0, hcA1, hfA0, hfA1⟩ := blk2 A.out; obtain ⟨hcB0, hcB1, hfB0, hfB1⟩ := blk2 B.out; obtain ⟨hcR0, hcR1, hfR0, hfR1⟩ := blk2 R.out
    refine hK.out _ _ ⟨hcA0, hcA1, hcB0, hcB1⟩ (fun hHeld => ?_)
    clear hK K
    refine take_ (i := 9) (N := some 5) (v := ?_) (a' := ?_) #[true, true, true, true, true, true, true, true, true, true] rfl rfl (by kernel_rfl) (fun _ _ _ h => h) (Or.inl ⟨by rfl, ?_⟩) hHeld ?_ ?_
    rotate_left
    · rintro w' ⟨s0, s1, s2, s3⟩
      go_simp
      with_reducible rfl
    rotate_left
    · simp only [Act.put, List.setIfInBounds_toArray, List.set_cons_zero, List.set_cons_succ, i64_w, i32_w]
      rfl
    refine done_ (by kernel_rfl) ?_
    try go_wp2
    refine bodyPost_ret (results_ct rfl _ _ gR 26 #[.float .f64 0, .float .f64 0] (0, 0) _ rfl R.out Try.underlying26 rfl (by kernel_rfl)) rfl ?_
    exact ⟨rfl, HB.out⟩
  · cases hrc : Rt c d
    · rw [if_neg (fun e => by cases e.2)]
      have hcond : (if true = true ∧ Rt c d = true then Value.tuple #[.agg #[.float .f64 s, .float .f64 t], .int .i64 0] else .tuple #[.agg #[.float .f64 0, .float .f64 0], .int .i64 2]) = Value.tuple #[.agg #[.float .f64 0, .float .f64 0], .int .i64 2] := if_neg (fun e => by rw [hrc] at e; cases e.2)
      go_enter Try.func26, Try.ntmps26
      try go_wp2_with (first | ((with_reducible refine gate_dst (N := 2) rfl ?_); refine box_event ?hg (N := 2) ?hd (cs := #[.float .f64 a, .float .f64 b]) (t := 26) ?hr ?_; (case hd => rfl); (case hg => rfl); (case hr => first | (go_simp; done) | (go_simp; rfl)); intro gA hg w1 hbox hb; have GA := Aside0.mk (hg ▸ below_size HB.out : w.heap.size ≤ gA); have m_HB := Aside0.mk (below_step HB.out hb); clear HB hb ; have HB := m_HB; clear m_HB hg ; have A := Aside0.mk hbox; clear hbox; obtain ⟨hcA0, hcA1, hfA0, hfA1⟩ := blk2 A.out) | ((with_reducible refine gate_dst (N := 3) rfl ?_); refine box_event ?hg (N := 3) ?hd (cs := #[.float .f64 c, .float .f64 d]) (t := 26) ?hr ?_; (case hd => rfl); (case hg => rfl); (case hr => first | (go_simp; done) | (go_simp; rfl)); intro gB hg w1 hbox hb; have GB := Aside0.mk (hg ▸ below_size HB.out : w.heap.size ≤ gB); have NE_A_B := Aside0.mk (show gA ≠ gB from hg ▸ Nat.ne_of_lt (blk_lt A.out)); have m_A := Aside0.mk (blk_below A.out hb); have m_HB := Aside0.mk (below_step HB.out hb); clear HB hb A; have HB := m_HB; have A := m_A; clear m_HB hg m_A; have B := Aside0.mk hbox; clear hbox; obtain ⟨hcA0, hcA1, hfA0, hfA1⟩ := blk2 A.out; obtain ⟨hcB0, hcB1, hfB0, hfB1⟩ := blk2 B.out) | ((with_reducible refine gate_dst (N := 4) rfl ?_); refine box_event ?hg (N := 4) ?hd (cs := #[.float .f64 0, .float .f64 0]) (t := 26) ?hr ?_; (case hd => rfl); (case hg => rfl); (case hr => first | (go_simp; done) | (go_simp; rfl)); intro gR hg w1 hbox hb; have GR := Aside0.mk (hg ▸ below_size HB.out : w.heap.size ≤ gR); have NE_A_R := Aside0.mk (show gA ≠ gR from hg ▸ Nat.ne_of_lt (blk_lt A.out)); have NE_B_R := Aside0.mk (show gB ≠ gR from hg ▸ Nat.ne_of_lt (blk_lt B.out)); have m_A := Aside0.mk (blk_below A.out hb); have m_B := Aside0.mk (blk_below B.out hb); have m_HB := Aside0.mk (below_step HB.out hb); clear HB hb A B; have HB := m_HB; have A := m_A; have B := m_B; clear m_HB hg m_A m_B; have R := Aside0.mk hbox; clear hbox; obtain ⟨hcA0, hcA1, hfA0, hfA1⟩ := blk2 A.out; obtain ⟨hcB0, hcB1, hfB0, hfB1⟩ := blk2 B.out; obtain ⟨hcR0, hcR1, hfR0, hfR1⟩ := blk2 R.out) | ((with_reducible refine gate_dst (N := 7) rfl ?_); refine goesL_ (some 7) rfl rfl Try.func22 (by kernel_rfl) rfl #[.agg #[.float .f64 a, .float .f64 b]] rfl (by (try simp only [List.map_toArray, List.map_cons, List.map_nil]); first | done | rfl) ?_; refine (hra ▸ Right_calls a b ha hb0 _).mono ?_; rintro e_ w3 ⟨rfl, hb⟩; refine ⟨_, rfl, ?_⟩; have m_A := Aside0.mk (blk_below A.out hb); have m_B := Aside0.mk (blk_below B.out hb); have m_R := Aside0.mk (blk_below R.out hb); have m_HB := Aside0.mk (below_step HB.out hb); clear HB hb A B R; have HB := m_HB; have A := m_A; have B := m_B; have R := m_R; clear m_HB m_A m_B m_R; obtain ⟨hcA0, hcA1, hfA0, hfA1⟩ := blk2 A.out; obtain ⟨hcB0, hcB1, hfB0, hfB1⟩ := blk2 B.out; obtain ⟨hcR0, hcR1, hfR0, hfR1⟩ := blk2 R.out) | ((with_reducible refine gate_calls (f := 54) ?_); refine (zero_calls c d _).mono ?_; rintro e_ w3 ⟨rfl, hb⟩; (try dsimp only); have m_A := Aside0.mk (blk_below A.out hb); have m_B := Aside0.mk (blk_below B.out hb); have m_R := Aside0.mk (blk_below R.out hb); have m_HB := Aside0.mk (below_step HB.out hb); clear HB hb A B R; have HB := m_HB; have A := m_A; have B := m_B; have R := m_R; clear m_HB m_A m_B m_R; obtain ⟨hcA0, hcA1, hfA0, hfA1⟩ := blk2 A.out; obtain ⟨hcB0, hcB1, hfB0, hfB1⟩ := blk2 B.out; obtain ⟨hcR0, hcR1, hfR0, hfR1⟩ := blk2 R.out) | (simp only [hra, hz]; try go_simp))
      refine start_ (n := 10) (S := fun w' => w'.cell? ⟨gA, 0, none⟩ = some (.float .f64 a) ∧ w'.cell? ⟨gA, 1, none⟩ = some (.float .f64 b) ∧ w'.cell? ⟨gB, 0, none⟩ = some (.float .f64 c) ∧ w'.cell? ⟨gB, 1, none⟩ = some (.float .f64 d)) (ds := []) #[false, false, false, false, false, false, false, false, false, false] (by kernel_rfl) rfl rfl ⟨hcA0, hcA1, hcB0, hcB1⟩ (fun hHeld => ?_)
      have m_A := Aside0.mk (show w3.drew.heap[gA]? = _ from A.out)
      have m_B := Aside0.mk (show w3.drew.heap[gB]? = _ from B.out)
      have m_R := Aside0.mk (show w3.drew.heap[gR]? = _ from R.out)
      have m_HB := Aside0.mk (show Below w.heap.size w w3.drew from below_drew HB.out)
      clear HB A B R
      have HB := m_HB
      have A := m_A
      have B := m_B
      have R := m_R
      clear m_HB m_A m_B m_R
      generalize w3.drew = w8 at HB A B R hHeld ⊢
      obtain ⟨hcA0, hcA1, hfA0, hfA1⟩ := blk2 A.out; obtain ⟨hcB0, hcB1, hfB0, hfB1⟩ := blk2 B.out; obtain ⟨hcR0, hcR1, hfR0, hfR1⟩ := blk2 R.out
      refine take_ (i := 0) (N := some 13) (v := ?_) (a' := ?_) #[true, false, false, false, false, false, false, false, false, false] rfl rfl (by kernel_rfl) (fun _ _ _ h => h) (Or.inl ⟨by rfl, ?_⟩) hHeld ?_ ?_
      rotate_left
      · rintro w' ⟨s0, s1, s2, s3⟩
        go_simp
        with_reducible rfl
      rotate_left
      · simp only [Act.put, List.setIfInBounds_toArray, List.set_cons_zero, List.set_cons_succ, i64_w, i32_w]
        rfl
      refine take_ (i := 1) (N := some 14) (v := ?_) (a' := ?_) #[true, true, false, false, false, false, false, false, false, false] rfl rfl (by kernel_rfl) (fun _ _ _ h => h) (Or.inl ⟨by rfl, ?_⟩) hHeld ?_ ?_
      rotate_left
      · rintro w' ⟨s0, s1, s2, s3⟩
        go_simp
        with_reducible rfl
      rotate_left
      · simp only [Act.put, List.setIfInBounds_toArray, List.set_cons_zero, List.set_cons_succ, i64_w, i32_w]
        rfl
      refine take_ (i := 2) (N := some 15) (v := ?_) (a' := ?_) #[true, true, true, false, false, false, false, false, false, false] rfl rfl (by kernel_rfl) (fun _ _ _ h => h) (Or.inl ⟨by rfl, ?_⟩) hHeld ?_ ?_
      rotate_left
      · rintro w' ⟨s0, s1, s2, s3⟩
        go_simp
        with_reducible rfl
      rotate_left
      · simp only [Act.put, List.setIfInBounds_toArray, List.set_cons_zero, List.set_cons_succ, i64_w, i32_w]
        rfl
      refine take_ (i := 3) (N := some 16) (v := ?_) (a' := ?_) #[true, true, true, true, false, false, false, false, false, false] rfl rfl (by kernel_rfl) (fun _ _ _ h => h) (Or.inl ⟨by rfl, ?_⟩) hHeld ?_ ?_
      rotate_left
      · rintro w' ⟨s0, s1, s2, s3⟩
        go_simp
        with_reducible rfl
      rotate_left
      · simp only [Act.put, List.setIfInBounds_toArray, List.set_cons_zero, List.set_cons_succ, i64_w, i32_w]
        rfl
      refine one_ (i := 4) (N := some 17) #[true, true, true, true, true, false, false, false, false, false] rfl rfl (by kernel_rfl) (by decide) (fun K hK => ?_)
      refine goes_ Try.func22 (by kernel_rfl) rfl #[.agg #[.float .f64 a, .float .f64 b]] (by rfl) rfl rfl (by (try simp only [List.map_toArray, List.map_cons, List.map_nil]); first | done | rfl) ?_
      refine (hra ▸ Right_calls a b ha hb0 _).mono ?_
      rintro e_ w3 ⟨rfl, hb⟩
      refine ⟨_, rfl, ?_⟩
      have m_A := Aside0.mk (blk_below A.out hb)
      have m_B := Aside0.mk (blk_below B.out hb)
      have m_R := Aside0.mk (blk_below R.out hb)
      have m_HB := Aside0.mk (below_step HB.out hb)
      clear HB hb hHeld A B R
      have HB := m_HB
      have A := m_A
      have B := m_B
      have R := m_R
      clear m_HB m_A m_B m_R
      obtain ⟨hcA0, hcA1, hfA0, hfA1⟩ := blk2 A.out; obtain ⟨hcB0, hcB1, hfB0, hfB1⟩ := blk2 B.out; obtain ⟨hcR0, hcR1, hfR0, hfR1⟩ := blk2 R.out
      refine hK.out _ _ ⟨hcA0, hcA1, hcB0, hcB1⟩ (fun hHeld => ?_)
      clear hK K
      refine norm_ (a' := ?_) ?_ ?_
      rotate_left
      · show Act.put _ (some 17) _ = _
        simp only [Act.put, List.setIfInBounds_toArray, List.set_cons_zero, List.set_cons_succ, i64_w, i32_w]
        rfl
      refine one_ (i := 5) (N := some 18) #[true, true, true, true, true, true, false, false, false, false] rfl rfl (by kernel_rfl) (by decide) (fun K hK => ?_)
      refine goes_ Try.func55 (by kernel_rfl) rfl #[.func (.func 59) #[.agg #[.float .f64 a, .float .f64 b]] #[], .agg #[.float .f64 c, .float .f64 d], .bool true] (by rfl) rfl rfl (by (try simp only [List.map_toArray, List.map_cons, List.map_nil]); first | done | rfl) ?_
      refine (of_calls 59 _ (#[.agg #[.float .f64 a, .float .f64 b]]) (#[]) Try.func59 (by kernel_rfl) rfl c d s t hc hd true _ (fun ha hb W hW => calls_of_args (args' := #[.agg #[.float .f64 a, .float .f64 b], .agg #[.float .f64 c, .float .f64 d]]) (by simp) (div_calls a b c d s t W (step hra hb)))).mono ?_
      rintro e_ w3 ⟨rfl, hb⟩
      refine ⟨_, rfl, ?_⟩
      have m_A := Aside0.mk (blk_below A.out hb)
      have m_B := Aside0.mk (blk_below B.out hb)
      have m_R := Aside0.mk (blk_below R.out hb)
      have m_HB := Aside0.mk (below_step HB.out hb)
      clear HB hb hHeld A B R
      have HB := m_HB
      have A := m_A
      have B := m_B
      have R := m_R
      clear m_HB m_A m_B m_R
      obtain ⟨hcA0, hcA1, hfA0, hfA1⟩ := blk2 A.out; obtain ⟨hcB0, hcB1, hfB0, hfB1⟩ := blk2 B.out; obtain ⟨hcR0, hcR1, hfR0, hfR1⟩ := blk2 R.out
      simp only [hcond]
      refine hK.out _ _ ⟨hcA0, hcA1, hcB0, hcB1⟩ (fun hHeld => ?_)
      clear hK K
      refine norm_ (a' := ?_) ?_ ?_
      rotate_left
      · show Act.put _ (some 18) _ = _
        simp only [Act.put, List.setIfInBounds_toArray, List.set_cons_zero, List.set_cons_succ, i64_w, i32_w]
        rfl
      refine take_ (i := 6) (N := some 19) (v := ?_) (a' := ?_) #[true, true, true, true, true, true, true, false, false, false] rfl rfl (by kernel_rfl) (fun _ _ _ h => h) (Or.inl ⟨by rfl, ?_⟩) hHeld ?_ ?_
      rotate_left
      · rintro w' ⟨s0, s1, s2, s3⟩
        go_simp
        with_reducible rfl
      rotate_left
      · simp only [Act.put, List.setIfInBounds_toArray, List.set_cons_zero, List.set_cons_succ, i64_w, i32_w]
        rfl
      refine take_ (i := 7) (N := some 20) (v := ?_) (a' := ?_) #[true, true, true, true, true, true, true, true, false, false] rfl rfl (by kernel_rfl) (fun _ _ _ h => h) (Or.inl ⟨by rfl, ?_⟩) hHeld ?_ ?_
      rotate_left
      · rintro w' ⟨s0, s1, s2, s3⟩
        go_simp
        with_reducible rfl
      rotate_left
      · simp only [Act.put, List.setIfInBounds_toArray, List.set_cons_zero, List.set_cons_succ, i64_w, i32_w]
        rfl
      refine one_ (i := 8) (N := none) #[true, true, true, true, true, true, true, true, true, false] rfl rfl (by kernel_rfl) (by decide) (fun K hK => ?_)
      refine stored2K (x := .float .f64 0) (y := .float .f64 0) R.out (by rfl) rfl (by first | (go_simp; done) | (go_simp; rfl)) (fun w1 hbox hoth hlow => ?_)
      have m_A := Aside0.mk ((hoth _ NE_A_R.out).trans A.out)
      have m_B := Aside0.mk ((hoth _ NE_B_R.out).trans B.out)
      have m_HB := Aside0.mk (HB.out.trans (hlow.mono GR.out))
      clear HB hoth hlow hHeld A B R
      have HB := m_HB
      have R := Aside0.mk hbox
      have A := m_A
      have B := m_B
      clear m_HB hbox m_A m_B
      obtain ⟨hcA0, hcA1, hfA0, hfA1⟩ := blk2 A.out; obtain ⟨hcB0, hcB1, hfB0, hfB1⟩ := blk2 B.out; obtain ⟨hcR0, hcR1, hfR0, hfR1⟩ := blk2 R.out
      refine hK.out _ _ ⟨hcA0, hcA1, hcB0, hcB1⟩ (fun hHeld => ?_)
      clear hK K
      refine take_ (i := 9) (N := some 5) (v := ?_) (a' := ?_) #[true, true, true, true, true, true, true, true, true, true] rfl rfl (by kernel_rfl) (fun _ _ _ h => h) (Or.inl ⟨by rfl, ?_⟩) hHeld ?_ ?_
      rotate_left
      · rintro w' ⟨s0, s1, s2, s3⟩
        go_simp
        with_reducible rfl
      rotate_left
      · simp only [Act.put, List.setIfInBounds_toArray, List.set_cons_zero, List.set_cons_succ, i64_w, i32_w]
        rfl
      refine done_ (by kernel_rfl) ?_
      try go_wp2
      refine bodyPost_ret (results_ct rfl _ _ gR 26 #[.float .f64 0, .float .f64 0] (0, 0) _ rfl R.out Try.underlying26 rfl (by kernel_rfl)) rfl ?_
      exact ⟨rfl, HB.out⟩
    · rw [if_pos ⟨rfl, rfl⟩]
      have hcond : (if true = true ∧ Rt c d = true then Value.tuple #[.agg #[.float .f64 s, .float .f64 t], .int .i64 0] else .tuple #[.agg #[.float .f64 0, .float .f64 0], .int .i64 2]) = Value.tuple #[.agg #[.float .f64 s, .float .f64 t], .int .i64 0] := if_pos ⟨rfl, hrc⟩
      go_enter Try.func26, Try.ntmps26
      try go_wp2_with (first | ((with_reducible refine gate_dst (N := 2) rfl ?_); refine box_event ?hg (N := 2) ?hd (cs := #[.float .f64 a, .float .f64 b]) (t := 26) ?hr ?_; (case hd => rfl); (case hg => rfl); (case hr => first | (go_simp; done) | (go_simp; rfl)); intro gA hg w1 hbox hb; have GA := Aside0.mk (hg ▸ below_size HB.out : w.heap.size ≤ gA); have m_HB := Aside0.mk (below_step HB.out hb); clear HB hb ; have HB := m_HB; clear m_HB hg ; have A := Aside0.mk hbox; clear hbox; obtain ⟨hcA0, hcA1, hfA0, hfA1⟩ := blk2 A.out) | ((with_reducible refine gate_dst (N := 3) rfl ?_); refine box_event ?hg (N := 3) ?hd (cs := #[.float .f64 c, .float .f64 d]) (t := 26) ?hr ?_; (case hd => rfl); (case hg => rfl); (case hr => first | (go_simp; done) | (go_simp; rfl)); intro gB hg w1 hbox hb; have GB := Aside0.mk (hg ▸ below_size HB.out : w.heap.size ≤ gB); have NE_A_B := Aside0.mk (show gA ≠ gB from hg ▸ Nat.ne_of_lt (blk_lt A.out)); have m_A := Aside0.mk (blk_below A.out hb); have m_HB := Aside0.mk (below_step HB.out hb); clear HB hb A; have HB := m_HB; have A := m_A; clear m_HB hg m_A; have B := Aside0.mk hbox; clear hbox; obtain ⟨hcA0, hcA1, hfA0, hfA1⟩ := blk2 A.out; obtain ⟨hcB0, hcB1, hfB0, hfB1⟩ := blk2 B.out) | ((with_reducible refine gate_dst (N := 4) rfl ?_); refine box_event ?hg (N := 4) ?hd (cs := #[.float .f64 0, .float .f64 0]) (t := 26) ?hr ?_; (case hd => rfl); (case hg => rfl); (case hr => first | (go_simp; done) | (go_simp; rfl)); intro gR hg w1 hbox hb; have GR := Aside0.mk (hg ▸ below_size HB.out : w.heap.size ≤ gR); have NE_A_R := Aside0.mk (show gA ≠ gR from hg ▸ Nat.ne_of_lt (blk_lt A.out)); have NE_B_R := Aside0.mk (show gB ≠ gR from hg ▸ Nat.ne_of_lt (blk_lt B.out)); have m_A := Aside0.mk (blk_below A.out hb); have m_B := Aside0.mk (blk_below B.out hb); have m_HB := Aside0.mk (below_step HB.out hb); clear HB hb A B; have HB := m_HB; have A := m_A; have B := m_B; clear m_HB hg m_A m_B; have R := Aside0.mk hbox; clear hbox; obtain ⟨hcA0, hcA1, hfA0, hfA1⟩ := blk2 A.out; obtain ⟨hcB0, hcB1, hfB0, hfB1⟩ := blk2 B.out; obtain ⟨hcR0, hcR1, hfR0, hfR1⟩ := blk2 R.out) | ((with_reducible refine gate_dst (N := 7) rfl ?_); refine goesL_ (some 7) rfl rfl Try.func22 (by kernel_rfl) rfl #[.agg #[.float .f64 a, .float .f64 b]] rfl (by (try simp only [List.map_toArray, List.map_cons, List.map_nil]); first | done | rfl) ?_; refine (hra ▸ Right_calls a b ha hb0 _).mono ?_; rintro e_ w3 ⟨rfl, hb⟩; refine ⟨_, rfl, ?_⟩; have m_A := Aside0.mk (blk_below A.out hb); have m_B := Aside0.mk (blk_below B.out hb); have m_R := Aside0.mk (blk_below R.out hb); have m_HB := Aside0.mk (below_step HB.out hb); clear HB hb A B R; have HB := m_HB; have A := m_A; have B := m_B; have R := m_R; clear m_HB m_A m_B m_R; obtain ⟨hcA0, hcA1, hfA0, hfA1⟩ := blk2 A.out; obtain ⟨hcB0, hcB1, hfB0, hfB1⟩ := blk2 B.out; obtain ⟨hcR0, hcR1, hfR0, hfR1⟩ := blk2 R.out) | ((with_reducible refine gate_calls (f := 54) ?_); refine (zero_calls c d _).mono ?_; rintro e_ w3 ⟨rfl, hb⟩; (try dsimp only); have m_A := Aside0.mk (blk_below A.out hb); have m_B := Aside0.mk (blk_below B.out hb); have m_R := Aside0.mk (blk_below R.out hb); have m_HB := Aside0.mk (below_step HB.out hb); clear HB hb A B R; have HB := m_HB; have A := m_A; have B := m_B; have R := m_R; clear m_HB m_A m_B m_R; obtain ⟨hcA0, hcA1, hfA0, hfA1⟩ := blk2 A.out; obtain ⟨hcB0, hcB1, hfB0, hfB1⟩ := blk2 B.out; obtain ⟨hcR0, hcR1, hfR0, hfR1⟩ := blk2 R.out) | (simp only [hra, hz]; try go_simp))
      refine start_ (n := 10) (S := fun w' => w'.cell? ⟨gA, 0, none⟩ = some (.float .f64 a) ∧ w'.cell? ⟨gA, 1, none⟩ = some (.float .f64 b) ∧ w'.cell? ⟨gB, 0, none⟩ = some (.float .f64 c) ∧ w'.cell? ⟨gB, 1, none⟩ = some (.float .f64 d)) (ds := []) #[false, false, false, false, false, false, false, false, false, false] (by kernel_rfl) rfl rfl ⟨hcA0, hcA1, hcB0, hcB1⟩ (fun hHeld => ?_)
      have m_A := Aside0.mk (show w3.drew.heap[gA]? = _ from A.out)
      have m_B := Aside0.mk (show w3.drew.heap[gB]? = _ from B.out)
      have m_R := Aside0.mk (show w3.drew.heap[gR]? = _ from R.out)
      have m_HB := Aside0.mk (show Below w.heap.size w w3.drew from below_drew HB.out)
      clear HB A B R
      have HB := m_HB
      have A := m_A
      have B := m_B
      have R := m_R
      clear m_HB m_A m_B m_R
      generalize w3.drew = w8 at HB A B R hHeld ⊢
      obtain ⟨hcA0, hcA1, hfA0, hfA1⟩ := blk2 A.out; obtain ⟨hcB0, hcB1, hfB0, hfB1⟩ := blk2 B.out; obtain ⟨hcR0, hcR1, hfR0, hfR1⟩ := blk2 R.out
      refine take_ (i := 0) (N := some 13) (v := ?_) (a' := ?_) #[true, false, false, false, false, false, false, false, false, false] rfl rfl (by kernel_rfl) (fun _ _ _ h => h) (Or.inl ⟨by rfl, ?_⟩) hHeld ?_ ?_
      rotate_left
      · rintro w' ⟨s0, s1, s2, s3⟩
        go_simp
        with_reducible rfl
      rotate_left
      · simp only [Act.put, List.setIfInBounds_toArray, List.set_cons_zero, List.set_cons_succ, i64_w, i32_w]
        rfl
      refine take_ (i := 1) (N := some 14) (v := ?_) (a' := ?_) #[true, true, false, false, false, false, false, false, false, false] rfl rfl (by kernel_rfl) (fun _ _ _ h => h) (Or.inl ⟨by rfl, ?_⟩) hHeld ?_ ?_
      rotate_left
      · rintro w' ⟨s0, s1, s2, s3⟩
        go_simp
        with_reducible rfl
      rotate_left
      · simp only [Act.put, List.setIfInBounds_toArray, List.set_cons_zero, List.set_cons_succ, i64_w, i32_w]
        rfl
      refine take_ (i := 2) (N := some 15) (v := ?_) (a' := ?_) #[true, true, true, false, false, false, false, false, false, false] rfl rfl (by kernel_rfl) (fun _ _ _ h => h) (Or.inl ⟨by rfl, ?_⟩) hHeld ?_ ?_
      rotate_left
      · rintro w' ⟨s0, s1, s2, s3⟩
        go_simp
        with_reducible rfl
      rotate_left
      · simp only [Act.put, List.setIfInBounds_toArray, List.set_cons_zero, List.set_cons_succ, i64_w, i32_w]
        rfl
      refine take_ (i := 3) (N := some 16) (v := ?_) (a' := ?_) #[true, true, true, true, false, false, false, false, false, false] rfl rfl (by kernel_rfl) (fun _ _ _ h => h) (Or.inl ⟨by rfl, ?_⟩) hHeld ?_ ?_
      rotate_left
      · rintro w' ⟨s0, s1, s2, s3⟩
        go_simp
        with_reducible rfl
      rotate_left
      · simp only [Act.put, List.setIfInBounds_toArray, List.set_cons_zero, List.set_cons_succ, i64_w, i32_w]
        rfl
      refine one_ (i := 4) (N := some 17) #[true, true, true, true, true, false, false, false, false, false] rfl rfl (by kernel_rfl) (by decide) (fun K hK => ?_)
      refine goes_ Try.func22 (by kernel_rfl) rfl #[.agg #[.float .f64 a, .float .f64 b]] (by rfl) rfl rfl (by (try simp only [List.map_toArray, List.map_cons, List.map_nil]); first | done | rfl) ?_
      refine (hra ▸ Right_calls a b ha hb0 _).mono ?_
      rintro e_ w3 ⟨rfl, hb⟩
      refine ⟨_, rfl, ?_⟩
      have m_A := Aside0.mk (blk_below A.out hb)
      have m_B := Aside0.mk (blk_below B.out hb)
      have m_R := Aside0.mk (blk_below R.out hb)
      have m_HB := Aside0.mk (below_step HB.out hb)
      clear HB hb hHeld A B R
      have HB := m_HB
      have A := m_A
      have B := m_B
      have R := m_R
      clear m_HB m_A m_B m_R
      obtain ⟨hcA0, hcA1, hfA0, hfA1⟩ := blk2 A.out; obtain ⟨hcB0, hcB1, hfB0, hfB1⟩ := blk2 B.out; obtain ⟨hcR0, hcR1, hfR0, hfR1⟩ := blk2 R.out
      refine hK.out _ _ ⟨hcA0, hcA1, hcB0, hcB1⟩ (fun hHeld => ?_)
      clear hK K
      refine norm_ (a' := ?_) ?_ ?_
      rotate_left
      · show Act.put _ (some 17) _ = _
        simp only [Act.put, List.setIfInBounds_toArray, List.set_cons_zero, List.set_cons_succ, i64_w, i32_w]
        rfl
      refine one_ (i := 5) (N := some 18) #[true, true, true, true, true, true, false, false, false, false] rfl rfl (by kernel_rfl) (by decide) (fun K hK => ?_)
      refine goes_ Try.func55 (by kernel_rfl) rfl #[.func (.func 59) #[.agg #[.float .f64 a, .float .f64 b]] #[], .agg #[.float .f64 c, .float .f64 d], .bool true] (by rfl) rfl rfl (by (try simp only [List.map_toArray, List.map_cons, List.map_nil]); first | done | rfl) ?_
      refine (of_calls 59 _ (#[.agg #[.float .f64 a, .float .f64 b]]) (#[]) Try.func59 (by kernel_rfl) rfl c d s t hc hd true _ (fun ha hb W hW => calls_of_args (args' := #[.agg #[.float .f64 a, .float .f64 b], .agg #[.float .f64 c, .float .f64 d]]) (by simp) (div_calls a b c d s t W (step hra hb)))).mono ?_
      rintro e_ w3 ⟨rfl, hb⟩
      refine ⟨_, rfl, ?_⟩
      have m_A := Aside0.mk (blk_below A.out hb)
      have m_B := Aside0.mk (blk_below B.out hb)
      have m_R := Aside0.mk (blk_below R.out hb)
      have m_HB := Aside0.mk (below_step HB.out hb)
      clear HB hb hHeld A B R
      have HB := m_HB
      have A := m_A
      have B := m_B
      have R := m_R
      clear m_HB m_A m_B m_R
      obtain ⟨hcA0, hcA1, hfA0, hfA1⟩ := blk2 A.out; obtain ⟨hcB0, hcB1, hfB0, hfB1⟩ := blk2 B.out; obtain ⟨hcR0, hcR1, hfR0, hfR1⟩ := blk2 R.out
      simp only [hcond]
      refine hK.out _ _ ⟨hcA0, hcA1, hcB0, hcB1⟩ (fun hHeld => ?_)
      clear hK K
      refine norm_ (a' := ?_) ?_ ?_
      rotate_left
      · show Act.put _ (some 18) _ = _
        simp only [Act.put, List.setIfInBounds_toArray, List.set_cons_zero, List.set_cons_succ, i64_w, i32_w]
        rfl
      refine take_ (i := 6) (N := some 19) (v := ?_) (a' := ?_) #[true, true, true, true, true, true, true, false, false, false] rfl rfl (by kernel_rfl) (fun _ _ _ h => h) (Or.inl ⟨by rfl, ?_⟩) hHeld ?_ ?_
      rotate_left
      · rintro w' ⟨s0, s1, s2, s3⟩
        go_simp
        with_reducible rfl
      rotate_left
      · simp only [Act.put, List.setIfInBounds_toArray, List.set_cons_zero, List.set_cons_succ, i64_w, i32_w]
        rfl
      refine take_ (i := 7) (N := some 20) (v := ?_) (a' := ?_) #[true, true, true, true, true, true, true, true, false, false] rfl rfl (by kernel_rfl) (fun _ _ _ h => h) (Or.inl ⟨by rfl, ?_⟩) hHeld ?_ ?_
      rotate_left
      · rintro w' ⟨s0, s1, s2, s3⟩
        go_simp
        with_reducible rfl
      rotate_left
      · simp only [Act.put, List.setIfInBounds_toArray, List.set_cons_zero, List.set_cons_succ, i64_w, i32_w]
        rfl
      refine one_ (i := 8) (N := none) #[true, true, true, true, true, true, true, true, true, false] rfl rfl (by kernel_rfl) (by decide) (fun K hK => ?_)
      refine stored2K (x := .float .f64 s) (y := .float .f64 t) R.out (by rfl) rfl (by first | (go_simp; done) | (go_simp; rfl)) (fun w1 hbox hoth hlow => ?_)
      have m_A := Aside0.mk ((hoth _ NE_A_R.out).trans A.out)
      have m_B := Aside0.mk ((hoth _ NE_B_R.out).trans B.out)
      have m_HB := Aside0.mk (HB.out.trans (hlow.mono GR.out))
      clear HB hoth hlow hHeld A B R
      have HB := m_HB
      have R := Aside0.mk hbox
      have A := m_A
      have B := m_B
      clear m_HB hbox m_A m_B
      obtain ⟨hcA0, hcA1, hfA0, hfA1⟩ := blk2 A.out; obtain ⟨hcB0, hcB1, hfB0, hfB1⟩ := blk2 B.out; obtain ⟨hcR0, hcR1, hfR0, hfR1⟩ := blk2 R.out
      refine hK.out _ _ ⟨hcA0, hcA1, hcB0, hcB1⟩ (fun hHeld => ?_)
      clear hK K
      refine take_ (i := 9) (N := some 5) (v := ?_) (a' := ?_) #[true, true, true, true, true, true, true, true, true, true] rfl rfl (by kernel_rfl) (fun _ _ _ h => h) (Or.inl ⟨by rfl, ?_⟩) hHeld ?_ ?_
      rotate_left
      · rintro w' ⟨s0, s1, s2, s3⟩
        go_simp
        with_reducible rfl
      rotate_left
      · simp only [Act.put, List.setIfInBounds_toArray, List.set_cons_zero, List.set_cons_succ, i64_w, i32_w]
        rfl
      refine done_ (by kernel_rfl) ?_
      try go_wp2
      refine bodyPost_ret (results_ct rfl _ _ gR 26 #[.float .f64 s, .float .f64 t] (0, 0) _ rfl R.out Try.underlying26 rfl (by kernel_rfl)) rfl ?_
      exact ⟨rfl, HB.out⟩

set_option maxHeartbeats 4000000 in
set_option maxRecDepth 100000 in
theorem Div0_calls (a b c d : Nat) (ha : a < 18446744073709551616) (hb0 : b < 18446744073709551616) (w : World) (hz : decide (rg c = 0 ∧ rg d = 0) = true) (hra : Rt a b = true) :
    Calls Try.prog 26 #[.agg #[.float .f64 a, .float .f64 b], .agg #[.float .f64 c, .float .f64 d]] w fun e w' => e = .returned (.tuple #[.agg #[.float .f64 0, .float .f64 0], .int .i64 30]) ∧ Below w.heap.size w w' := by
  have hu26 := Try.underlying26
  have HB := Aside0.mk (Below.refl w.heap.size w)
  go_enter Try.func26, Try.ntmps26
  try go_wp2_with (first | ((with_reducible refine gate_dst (N := 2) rfl ?_); refine box_event ?hg (N := 2) ?hd (cs := #[.float .f64 a, .float .f64 b]) (t := 26) ?hr ?_; (case hd => rfl); (case hg => rfl); (case hr => first | (go_simp; done) | (go_simp; rfl)); intro gA hg w1 hbox hb; have GA := Aside0.mk (hg ▸ below_size HB.out : w.heap.size ≤ gA); have m_HB := Aside0.mk (below_step HB.out hb); clear HB hb ; have HB := m_HB; clear m_HB hg ; have A := Aside0.mk hbox; clear hbox; obtain ⟨hcA0, hcA1, hfA0, hfA1⟩ := blk2 A.out) | ((with_reducible refine gate_dst (N := 3) rfl ?_); refine box_event ?hg (N := 3) ?hd (cs := #[.float .f64 c, .float .f64 d]) (t := 26) ?hr ?_; (case hd => rfl); (case hg => rfl); (case hr => first | (go_simp; done) | (go_simp; rfl)); intro gB hg w1 hbox hb; have GB := Aside0.mk (hg ▸ below_size HB.out : w.heap.size ≤ gB); have NE_A_B := Aside0.mk (show gA ≠ gB from hg ▸ Nat.ne_of_lt (blk_lt A.out)); have m_A := Aside0.mk (blk_below A.out hb); have m_HB := Aside0.mk (below_step HB.out hb); clear HB hb A; have HB := m_HB; have A := m_A; clear m_HB hg m_A; have B := Aside0.mk hbox; clear hbox; obtain ⟨hcA0, hcA1, hfA0, hfA1⟩ := blk2 A.out; obtain ⟨hcB0, hcB1, hfB0, hfB1⟩ := blk2 B.out) | ((with_reducible refine gate_dst (N := 4) rfl ?_); refine box_event ?hg (N := 4) ?hd (cs := #[.float .f64 0, .float .f64 0]) (t := 26) ?hr ?_; (case hd => rfl); (case hg => rfl); (case hr => first | (go_simp; done) | (go_simp; rfl)); intro gR hg w1 hbox hb; have GR := Aside0.mk (hg ▸ below_size HB.out : w.heap.size ≤ gR); have NE_A_R := Aside0.mk (show gA ≠ gR from hg ▸ Nat.ne_of_lt (blk_lt A.out)); have NE_B_R := Aside0.mk (show gB ≠ gR from hg ▸ Nat.ne_of_lt (blk_lt B.out)); have m_A := Aside0.mk (blk_below A.out hb); have m_B := Aside0.mk (blk_below B.out hb); have m_HB := Aside0.mk (below_step HB.out hb); clear HB hb A B; have HB := m_HB; have A := m_A; have B := m_B; clear m_HB hg m_A m_B; have R := Aside0.mk hbox; clear hbox; obtain ⟨hcA0, hcA1, hfA0, hfA1⟩ := blk2 A.out; obtain ⟨hcB0, hcB1, hfB0, hfB1⟩ := blk2 B.out; obtain ⟨hcR0, hcR1, hfR0, hfR1⟩ := blk2 R.out) | ((with_reducible refine gate_dst (N := 7) rfl ?_); refine goesL_ (some 7) rfl rfl Try.func22 (by kernel_rfl) rfl #[.agg #[.float .f64 a, .float .f64 b]] rfl (by (try simp only [List.map_toArray, List.map_cons, List.map_nil]); first | done | rfl) ?_; refine (Right_calls a b ha hb0 _).mono ?_; rintro e_ w3 ⟨rfl, hb⟩; refine ⟨_, rfl, ?_⟩; have m_A := Aside0.mk (blk_below A.out hb); have m_B := Aside0.mk (blk_below B.out hb); have m_R := Aside0.mk (blk_below R.out hb); have m_HB := Aside0.mk (below_step HB.out hb); clear HB hb A B R; have HB := m_HB; have A := m_A; have B := m_B; have R := m_R; clear m_HB m_A m_B m_R; obtain ⟨hcA0, hcA1, hfA0, hfA1⟩ := blk2 A.out; obtain ⟨hcB0, hcB1, hfB0, hfB1⟩ := blk2 B.out; obtain ⟨hcR0, hcR1, hfR0, hfR1⟩ := blk2 R.out) | ((with_reducible refine gate_calls (f := 54) ?_); refine (zero_calls c d _).mono ?_; rintro e_ w3 ⟨rfl, hb⟩; (try dsimp only); have m_A := Aside0.mk (blk_below A.out hb); have m_B := Aside0.mk (blk_below B.out hb); have m_R := Aside0.mk (blk_below R.out hb); have m_HB := Aside0.mk (below_step HB.out hb); clear HB hb A B R; have HB := m_HB; have A := m_A; have B := m_B; have R := m_R; clear m_HB m_A m_B m_R; obtain ⟨hcA0, hcA1, hfA0, hfA1⟩ := blk2 A.out; obtain ⟨hcB0, hcB1, hfB0, hfB1⟩ := blk2 B.out; obtain ⟨hcR0, hcR1, hfR0, hfR1⟩ := blk2 R.out) | ((with_reducible refine gate_store (t := 26) (p := 4) rfl ?_); refine stored2 (t := 26) (p := 4) (v := ?vo4) (x := .float .f64 0) (y := .float .f64 0) R.out ?hg ?ho ?hn ?hr ?_; (case ho => rfl); (case hg => rfl); (case hn => rfl); (case hr => first | (go_simp; done) | (go_simp; rfl)); intro w1 hbox hoth hlow; have m_A := Aside0.mk ((hoth _ NE_A_R.out).trans A.out); have m_B := Aside0.mk ((hoth _ NE_B_R.out).trans B.out); have m_HB := Aside0.mk (HB.out.trans (hlow.mono GR.out)); clear HB hoth hlow R A B; have HB := m_HB; have R := Aside0.mk hbox; clear m_HB hbox; have A := m_A; clear m_A; have B := m_B; clear m_B; obtain ⟨hcA0, hcA1, hfA0, hfA1⟩ := blk2 A.out; obtain ⟨hcB0, hcB1, hfB0, hfB1⟩ := blk2 B.out; obtain ⟨hcR0, hcR1, hfR0, hfR1⟩ := blk2 R.out) | (simp only [hra, hz]; try go_simp))
  refine bodyPost_ret (results_ct rfl _ _ gR 26 #[.float .f64 0, .float .f64 0] (0, 0) _ rfl R.out Try.underlying26 rfl (by kernel_rfl)) rfl ?_
  exact ⟨rfl, HB.out⟩

set_option maxHeartbeats 4000000 in
set_option maxRecDepth 100000 in
theorem Div1_calls (a b c d s t : Nat) (ha : a < 18446744073709551616) (hb0 : b < 18446744073709551616) (hc : c < 18446744073709551616) (hd : d < 18446744073709551616) (w : World) (hra : Rt a b = false) :
    Calls Try.prog 26 #[.agg #[.float .f64 a, .float .f64 b], .agg #[.float .f64 c, .float .f64 d]] w fun e w' => e = .returned (if Rt a b = true ∧ Rt c d = true then .tuple #[.agg #[.float .f64 s, .float .f64 t], .int .i64 0] else .tuple #[.agg #[.float .f64 0, .float .f64 0], .int .i64 2]) ∧ Below w.heap.size w w' := by
  have hu26 := Try.underlying26
  have hmf : ∀ (fn : Fn) (first cap : Array Value) (w : World), (Instr.makeFunc fn first cap).run Try.prog w = .ok (.func fn first cap) w := fun _ _ _ _ => rfl
  have HB := Aside0.mk (Below.refl w.heap.size w)
  rw [if_neg (fun e => by rw [hra] at e; cases e.1)]
  have hcond : (if false = true ∧ Rt c d = true then Value.tuple #[.agg #[.float .f64 s, .float .f64 t], .int .i64 0] else .tuple #[.agg #[.float .f64 0, .float .f64 0], .int .i64 2]) = Value.tuple #[.agg #[.float .f64 0, .float .f64 0], .int .i64 2] := if_neg (fun e => by cases e.1)
  go_enter Try.func26, Try.ntmps26
  try go_wp2_with (first | ((with_reducible refine gate_dst (N := 2) rfl ?_); refine box_event ?hg (N := 2) ?hd (cs := #[.float .f64 a, .float .f64 b]) (t := 26) ?hr ?_; (case hd => rfl); (case hg => rfl); (case hr => first | (go_simp; done) | (go_simp; rfl)); intro gA hg w1 hbox hb; have GA := Aside0.mk (hg ▸ below_size HB.out : w.heap.size ≤ gA); have m_HB := Aside0.mk (below_step HB.out hb); clear HB hb ; have HB := m_HB; clear m_HB hg ; have A := Aside0.mk hbox; clear hbox; obtain ⟨hcA0, hcA1, hfA0, hfA1⟩ := blk2 A.out) | ((with_reducible refine gate_dst (N := 3) rfl ?_); refine box_event ?hg (N := 3) ?hd (cs := #[.float .f64 c, .float .f64 d]) (t := 26) ?hr ?_; (case hd => rfl); (case hg => rfl); (case hr => first | (go_simp; done) | (go_simp; rfl)); intro gB hg w1 hbox hb; have GB := Aside0.mk (hg ▸ below_size HB.out : w.heap.size ≤ gB); have NE_A_B := Aside0.mk (show gA ≠ gB from hg ▸ Nat.ne_of_lt (blk_lt A.out)); have m_A := Aside0.mk (blk_below A.out hb); have m_HB := Aside0.mk (below_step HB.out hb); clear HB hb A; have HB := m_HB; have A := m_A; clear m_HB hg m_A; have B := Aside0.mk hbox; clear hbox; obtain ⟨hcA0, hcA1, hfA0, hfA1⟩ := blk2 A.out; obtain ⟨hcB0, hcB1, hfB0, hfB1⟩ := blk2 B.out) | ((with_reducible refine gate_dst (N := 4) rfl ?_); refine box_event ?hg (N := 4) ?hd (cs := #[.float .f64 0, .float .f64 0]) (t := 26) ?hr ?_; (case hd => rfl); (case hg => rfl); (case hr => first | (go_simp; done) | (go_simp; rfl)); intro gR hg w1 hbox hb; have GR := Aside0.mk (hg ▸ below_size HB.out : w.heap.size ≤ gR); have NE_A_R := Aside0.mk (show gA ≠ gR from hg ▸ Nat.ne_of_lt (blk_lt A.out)); have NE_B_R := Aside0.mk (show gB ≠ gR from hg ▸ Nat.ne_of_lt (blk_lt B.out)); have m_A := Aside0.mk (blk_below A.out hb); have m_B := Aside0.mk (blk_below B.out hb); have m_HB := Aside0.mk (below_step HB.out hb); clear HB hb A B; have HB := m_HB; have A := m_A; have B := m_B; clear m_HB hg m_A m_B; have R := Aside0.mk hbox; clear hbox; obtain ⟨hcA0, hcA1, hfA0, hfA1⟩ := blk2 A.out; obtain ⟨hcB0, hcB1, hfB0, hfB1⟩ := blk2 B.out; obtain ⟨hcR0, hcR1, hfR0, hfR1⟩ := blk2 R.out) | ((with_reducible refine gate_dst (N := 7) rfl ?_); refine goesL_ (some 7) rfl rfl Try.func22 (by kernel_rfl) rfl #[.agg #[.float .f64 a, .float .f64 b]] rfl (by (try simp only [List.map_toArray, List.map_cons, List.map_nil]); first | done | rfl) ?_; refine (Right_calls a b ha hb0 _).mono ?_; rintro e_ w3 ⟨rfl, hb⟩; refine ⟨_, rfl, ?_⟩; have m_A := Aside0.mk (blk_below A.out hb); have m_B := Aside0.mk (blk_below B.out hb); have m_R := Aside0.mk (blk_below R.out hb); have m_HB := Aside0.mk (below_step HB.out hb); clear HB hb A B R; have HB := m_HB; have A := m_A; have B := m_B; have R := m_R; clear m_HB m_A m_B m_R; obtain ⟨hcA0, hcA1, hfA0, hfA1⟩ := blk2 A.out; obtain ⟨hcB0, hcB1, hfB0, hfB1⟩ := blk2 B.out; obtain ⟨hcR0, hcR1, hfR0, hfR1⟩ := blk2 R.out) | ((with_reducible refine gate_calls (f := 54) ?_); refine (zero_calls c d _).mono ?_; rintro e_ w3 ⟨rfl, hb⟩; (try dsimp only); have m_A := Aside0.mk (blk_below A.out hb); have m_B := Aside0.mk (blk_below B.out hb); have m_R := Aside0.mk (blk_below R.out hb); have m_HB := Aside0.mk (below_step HB.out hb); clear HB hb A B R; have HB := m_HB; have A := m_A; have B := m_B; have R := m_R; clear m_HB m_A m_B m_R; obtain ⟨hcA0, hcA1, hfA0, hfA1⟩ := blk2 A.out; obtain ⟨hcB0, hcB1, hfB0, hfB1⟩ := blk2 B.out; obtain ⟨hcR0, hcR1, hfR0, hfR1⟩ := blk2 R.out) | (simp only [hra]; try go_simp))
  refine start_ (n := 10) (S := fun w' => w'.cell? ⟨gA, 0, none⟩ = some (.float .f64 a) ∧ w'.cell? ⟨gA, 1, none⟩ = some (.float .f64 b) ∧ w'.cell? ⟨gB, 0, none⟩ = some (.float .f64 c) ∧ w'.cell? ⟨gB, 1, none⟩ = some (.float .f64 d)) (ds := []) #[false, false, false, false, false, false, false, false, false, false] (by kernel_rfl) rfl rfl ⟨hcA0, hcA1, hcB0, hcB1⟩ (fun hHeld => ?_)
  have m_A := Aside0.mk (show w3.drew.heap[gA]? = _ from A.out)
  have m_B := Aside0.mk (show w3.drew.heap[gB]? = _ from B.out)
  have m_R := Aside0.mk (show w3.drew.heap[gR]? = _ from R.out)
  have m_HB := Aside0.mk (show Below w.heap.size w w3.drew from below_drew HB.out)
  clear HB A B R
  have HB := m_HB
  have A := m_A
  have B := m_B
  have R := m_R
  clear m_HB m_A m_B m_R
  generalize w3.drew = w8 at HB A B R hHeld ⊢
  obtain ⟨hcA0, hcA1, hfA0, hfA1⟩ := blk2 A.out; obtain ⟨hcB0, hcB1, hfB0, hfB1⟩ := blk2 B.out; obtain ⟨hcR0, hcR1, hfR0, hfR1⟩ := blk2 R.out
  refine take_ (i := 0) (N := some 13) (v := ?_) (a' := ?_) #[true, false, false, false, false, false, false, false, false, false] rfl rfl (by kernel_rfl) (fun _ _ _ h => h) (Or.inl ⟨by rfl, ?_⟩) hHeld ?_ ?_
  rotate_left
  · rintro w' ⟨s0, s1, s2, s3⟩
    go_simp
    with_reducible rfl
  rotate_left
  · simp only [Act.put, List.setIfInBounds_toArray, List.set_cons_zero, List.set_cons_succ, i64_w, i32_w]
    rfl
  refine take_ (i := 1) (N := some 14) (v := ?_) (a' := ?_) #[true, true, false, false, false, false, false, false, false, false] rfl rfl (by kernel_rfl) (fun _ _ _ h => h) (Or.inl ⟨by rfl, ?_⟩) hHeld ?_ ?_
  rotate_left
  · rintro w' ⟨s0, s1, s2, s3⟩
    go_simp
    with_reducible rfl
  rotate_left
  · simp only [Act.put, List.setIfInBounds_toArray, List.set_cons_zero, List.set_cons_succ, i64_w, i32_w]
    rfl
  refine take_ (i := 2) (N := some 15) (v := ?_) (a' := ?_) #[true, true, true, false, false, false, false, false, false, false] rfl rfl (by kernel_rfl) (fun _ _ _ h => h) (Or.inl ⟨by rfl, ?_⟩) hHeld ?_ ?_
  rotate_left
  · rintro w' ⟨s0, s1, s2, s3⟩
    go_simp
    with_reducible rfl
  rotate_left
  · simp only [Act.put, List.setIfInBounds_toArray, List.set_cons_zero, List.set_cons_succ, i64_w, i32_w]
    rfl
  refine take_ (i := 3) (N := some 16) (v := ?_) (a' := ?_) #[true, true, true, true, false, false, false, false, false, false] rfl rfl (by kernel_rfl) (fun _ _ _ h => h) (Or.inl ⟨by rfl, ?_⟩) hHeld ?_ ?_
  rotate_left
  · rintro w' ⟨s0, s1, s2, s3⟩
    go_simp
    with_reducible rfl
  rotate_left
  · simp only [Act.put, List.setIfInBounds_toArray, List.set_cons_zero, List.set_cons_succ, i64_w, i32_w]
    rfl
  refine one_ (i := 4) (N := some 17) #[true, true, true, true, true, false, false, false, false, false] rfl rfl (by kernel_rfl) (by decide) (fun K hK => ?_)
  refine goes_ Try.func22 (by kernel_rfl) rfl #[.agg #[.float .f64 a, .float .f64 b]] (by rfl) rfl rfl (by (try simp only [List.map_toArray, List.map_cons, List.map_nil]); first | done | rfl) ?_
  refine (hra ▸ Right_calls a b ha hb0 _).mono ?_
  rintro e_ w3 ⟨rfl, hb⟩
  refine ⟨_, rfl, ?_⟩
  have m_A := Aside0.mk (blk_below A.out hb)
  have m_B := Aside0.mk (blk_below B.out hb)
  have m_R := Aside0.mk (blk_below R.out hb)
  have m_HB := Aside0.mk (below_step HB.out hb)
  clear HB hb hHeld A B R
  have HB := m_HB
  have A := m_A
  have B := m_B
  have R := m_R
  clear m_HB m_A m_B m_R
  obtain ⟨hcA0, hcA1, hfA0, hfA1⟩ := blk2 A.out; obtain ⟨hcB0, hcB1, hfB0, hfB1⟩ := blk2 B.out; obtain ⟨hcR0, hcR1, hfR0, hfR1⟩ := blk2 R.out
  refine hK.out _ _ ⟨hcA0, hcA1, hcB0, hcB1⟩ (fun hHeld => ?_)
  clear hK K
  refine norm_ (a' := ?_) ?_ ?_
  rotate_left
  · show Act.put _ (some 17) _ = _
    simp only [Act.put, List.setIfInBounds_toArray, List.set_cons_zero, List.set_cons_succ, i64_w, i32_w]
    rfl
  refine one_ (i := 5) (N := some 18) #[true, true, true, true, true, true, false, false, false, false] rfl rfl (by kernel_rfl) (by decide) (fun K hK => ?_)
  refine goes_ Try.func55 (by kernel_rfl) rfl #[.func (.func 59) #[.agg #[.float .f64 a, .float .f64 b]] #[], .agg #[.float .f64 c, .float .f64 d], .bool false] (by rfl) rfl rfl (by (try simp only [List.map_toArray, List.map_cons, List.map_nil]); first | done | rfl) ?_
  refine (of_calls 59 _ (#[.agg #[.float .f64 a, .float .f64 b]]) (#[]) Try.func59 (by kernel_rfl) rfl c d s t hc hd false _ (fun ha hb W hW => by cases ha)).mono ?_
  rintro e_ w3 ⟨rfl, hb⟩
  refine ⟨_, rfl, ?_⟩
  have m_A := Aside0.mk (blk_below A.out hb)
  have m_B := Aside0.mk (blk_below B.out hb)
  have m_R := Aside0.mk (blk_below R.out hb)
  have m_HB := Aside0.mk (below_step HB.out hb)
  clear HB hb hHeld A B R
  have HB := m_HB
  have A := m_A
  have B := m_B
  have R := m_R
  clear m_HB m_A m_B m_R
  obtain ⟨hcA0, hcA1, hfA0, hfA1⟩ := blk2 A.out; obtain ⟨hcB0, hcB1, hfB0, hfB1⟩ := blk2 B.out; obtain ⟨hcR0, hcR1, hfR0, hfR1⟩ := blk2 R.out
  simp only [hcond]
  refine hK.out _ _ ⟨hcA0, hcA1, hcB0, hcB1⟩ (fun hHeld => ?_)
  clear hK K
  refine norm_ (a' := ?_) ?_ ?_
  rotate_left
  · show Act.put _ (some 18) _ = _
    simp only [Act.put, List.setIfInBounds_toArray, List.set_cons_zero, List.set_cons_succ, i64_w, i32_w]
    rfl
  refine take_ (i := 6) (N := some 19) (v := ?_) (a' := ?_) #[true, true, true, true, true, true, true, false, false, false] rfl rfl (by kernel_rfl) (fun _ _ _ h => h) (Or.inl ⟨by rfl, ?_⟩) hHeld ?_ ?_
  rotate_left
  · rintro w' ⟨s0, s1, s2, s3⟩
    go_simp
    with_reducible rfl
  rotate_left
  · simp only [Act.put, List.setIfInBounds_toArray, List.set_cons_zero, List.set_cons_succ, i64_w, i32_w]
    rfl
  refine take_ (i := 7) (N := some 20) (v := ?_) (a' := ?_) #[true, true, true, true, true, true, true, true, false, false] rfl rfl (by kernel_rfl) (fun _ _ _ h => h) (Or.inl ⟨by rfl, ?_⟩) hHeld ?_ ?_
  rotate_left
  · rintro w' ⟨s0, s1, s2, s3⟩
    go_simp
    with_reducible rfl
  rotate_left
  · simp only [Act.put, List.setIfInBounds_toArray, List.set_cons_zero, List.set_cons_succ, i64_w, i32_w]
    rfl
  refine one_ (i := 8) (N := none) #[true, true, true, true, true, true, true, true, true, false] rfl rfl (by kernel_rfl) (by decide) (fun K hK => ?_)
  refine stored2K (x := .float .f64 0) (y := .float .f64 0) R.out (by rfl) rfl (by first | (go_simp; done) | (go_simp; rfl)) (fun w1 hbox hoth hlow => ?_)
  have m_A := Aside0.mk ((hoth _ NE_A_R.out).trans A.out)
  have m_B := Aside0.mk ((hoth _ NE_B_R.out).trans B.out)
  have m_HB := Aside0.mk (HB.out.trans (hlow.mono GR.out))
  clear HB hoth hlow hHeld A B R
  have HB := m_HB
  have R := Aside0.mk hbox
  have A := m_A
  have B := m_B
  clear m_HB hbox m_A m_B
  obtain ⟨hcA0, hcA1, hfA0, hfA1⟩ := blk2 A.out; obtain ⟨hcB0, hcB1, hfB0, hfB1⟩ := blk2 B.out; obtain ⟨hcR0, hcR1, hfR0, hfR1⟩ := blk2 R.out
  refine hK.out _ _ ⟨hcA0, hcA1, hcB0, hcB1⟩ (fun hHeld => ?_)
  clear hK K
  refine take_ (i := 9) (N := some 5) (v := ?_) (a' := ?_) #[true, true, true, true, true, true, true, true, true, true] rfl rfl (by kernel_rfl) (fun _ _ _ h => h) (Or.inl ⟨by rfl, ?_⟩) hHeld ?_ ?_
  rotate_left
  · rintro w' ⟨s0, s1, s2, s3⟩
    go_simp
    with_reducible rfl
  rotate_left
  · simp only [Act.put, List.setIfInBounds_toArray, List.set_cons_zero, List.set_cons_succ, i64_w, i32_w]
    rfl
  refine done_ (by kernel_rfl) ?_
  try go_wp2
  refine bodyPost_ret (results_ct rfl _ _ gR 26 #[.float .f64 0, .float .f64 0] (0, 0) _ rfl R.out Try.underlying26 rfl (by kernel_rfl)) rfl ?_
  exact ⟨rfl, HB.out⟩

abbrev rv (s t : Nat) (er : Int) : Value := .tuple #[.agg #[.float .f64 s, .float .f64 t], .int .i64 er]
/-- What a step of two pairs answers. -/
def Out (F : Option (Nat × Nat)) (q : Bool) (s t : Nat) (er : Int) : Prop := (q = true ∧ er = 0 ∧ F = some (s, t)) ∨ (q = false ∧ s = 0 ∧ t = 0 ∧ er = 2)
def OutD (a b c d : Nat) (s t : Nat) (er : Int) : Prop := (decide (rg c = 0 ∧ rg d = 0) = true ∧ Rt a b = true ∧ s = 0 ∧ t = 0 ∧ er = 30) ∨ (¬ (decide (rg c = 0 ∧ rg d = 0) = true ∧ Rt a b = true) ∧ Out (divF a b c d) (Rt a b && Rt c d) s t er)
theorem out_if {F : Option (Nat × Nat)} {p q : Bool} {s t : Nat} {er : Int} (h : Out F (p && q) s t er) : ∃ s' t', (p = true → q = true → F = some (s', t')) ∧ (if p = true ∧ q = true then Value.tuple #[.agg #[.float .f64 s', .float .f64 t'], .int .i64 0] else .tuple #[.agg #[.float .f64 0, .float .f64 0], .int .i64 2]) = rv s t er := by
  rcases h with ⟨h1, rfl, h3⟩ | ⟨h1, rfl, rfl, rfl⟩
  · have hp : p = true ∧ q = true := by simpa using h1
    exact ⟨s, t, fun _ _ => h3, if_pos hp⟩
  · refine ⟨0, 0, fun hp hq => ?_, if_neg (fun e => ?_)⟩
    · rw [hp, hq] at h1; cases h1
    · rw [e.1, e.2] at h1; cases h1
section
variable (a b c d s t : Nat) (er : Int) (ha : a < 18446744073709551616) (hb : b < 18446744073709551616) (hc : c < 18446744073709551616) (hd : d < 18446744073709551616) (w : World)
include ha hb hc hd
theorem AddO (h : Out (addF a b c d) (Rt a b && Rt c d) s t er) : Calls Try.prog 23 #[.agg #[.float .f64 a, .float .f64 b], .agg #[.float .f64 c, .float .f64 d]] w fun e w' => e = .returned (rv s t er) ∧ Below w.heap.size w w' := by
  obtain ⟨s', t', h1, h2⟩ := out_if h
  exact h2 ▸ Add_calls a b c d s' t' ha hb hc hd w h1
theorem SubO (h : Out (addF a b (Op.negFloat .f64 c) (Op.negFloat .f64 d)) (Rt a b && Rt c d) s t er) : Calls Try.prog 24 #[.agg #[.float .f64 a, .float .f64 b], .agg #[.float .f64 c, .float .f64 d]] w fun e w' => e = .returned (rv s t er) ∧ Below w.heap.size w w' := by
  obtain ⟨s', t', h1, h2⟩ := out_if h
  exact h2 ▸ Sub_calls a b c d s' t' ha hb hc hd w h1
theorem MulO (h : Out (mulF a b c d) (Rt a b && Rt c d) s t er) : Calls Try.prog 25 #[.agg #[.float .f64 a, .float .f64 b], .agg #[.float .f64 c, .float .f64 d]] w fun e w' => e = .returned (rv s t er) ∧ Below w.heap.size w w' := by
  obtain ⟨s', t', h1, h2⟩ := out_if h
  exact h2 ▸ Mul_calls a b c d s' t' ha hb hc hd w h1
theorem DivO (h : OutD a b c d s t er) : Calls Try.prog 26 #[.agg #[.float .f64 a, .float .f64 b], .agg #[.float .f64 c, .float .f64 d]] w fun e w' => e = .returned (rv s t er) ∧ Below w.heap.size w w' := by
  rcases h with ⟨h1, h2, rfl, rfl, rfl⟩ | ⟨hn, h⟩
  · exact Div0_calls a b c d ha hb w h1 h2
  · obtain ⟨s', t', h1, h2⟩ := out_if h
    cases hz : decide (rg c = 0 ∧ rg d = 0)
    · exact h2 ▸ Div_calls a b c d s' t' ha hb hc hd w hz h1
    · have hra : Rt a b = false := by
        cases hq : Rt a b
        · rfl
        · exact absurd ⟨hz, hq⟩ hn
      exact h2 ▸ Div1_calls a b c d s' t' ha hb hc hd w hra
end
end Go.Proofs.Yteaghcchalfgmaa.PAll
