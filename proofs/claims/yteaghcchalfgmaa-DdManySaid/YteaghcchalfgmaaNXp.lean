/- What the statements begin with, walked. -/
import Derived.Test.YteaghcchalfgmaaNXo
namespace Go.Proofs.Yteaghcchalfgmaa.PAll
open Go.RowKit Go.Proofs.YteaghcchalfgmaaW.PrintWords Go.Proofs.YteaghcchalfgmaaW.PrintLast Go.Proofs.YteaghcchalfgmaaW.PrintMore
open Go.Proofs.Yteaghcchalfgmaa.Nm Ieee
set_option linter.unusedVariables false
set_option linter.unusedSimpArgs false
attribute [local go_sem] run_store_float ext32 ext60 un_neg

theorem v_add : addF 4607182418800017408 0 4246894448610377728 0 = some (4607182418800017408, 4246894448610377728) := by kernel_rfl
theorem v_s0 : addF 0 0 5057542381537067008 0 = some (5057542381537067008, 0) := by kernel_rfl
theorem v_s1 : addF 5057542381537067008 0 4607182418800017408 0 = some (5057542381537067008, 4607182418800017408) := by kernel_rfl
theorem v_s2 : addF 5057542381537067008 4607182418800017408 14280914418391842816 0 = some (4607182418800017408, 0) := by kernel_rfl
theorem v_neg : Op.negFloat .f64 5057542381537067008 = 14280914418391842816 := by kernel_rfl
theorem v_r1 : Rt 4607182418800017408 0 = true := by kernel_rfl
theorem v_r2 : Rt 4246894448610377728 0 = true := by kernel_rfl
theorem v_r3 : Rt 5057542381537067008 0 = true := by kernel_rfl
theorem v_r4 : Rt 14280914418391842816 0 = true := by kernel_rfl
theorem v_r5 : Rt 4607182418800017408 4607182418800017408 = false := by kernel_rfl
theorem v_r6 : Rt 5962765906638536704 0 = false := by kernel_rfl
theorem v_of : (if Rt 5962765906638536704 0 = true then rv 5962765906638536704 0 0 else rv 0 0 2) = rv 0 0 2 := by rw [v_r6]; rfl
theorem v_o1 : Out (addF 4607182418800017408 0 4246894448610377728 0) (Rt 4607182418800017408 0 && Rt 4246894448610377728 0) 4607182418800017408 4246894448610377728 0 := .inl ⟨by rw [v_r1, v_r2]; rfl, rfl, v_add⟩
theorem v_e1 : (sEq 4607182418800017408 4607182418800017408 && sEq 4246894448610377728 4246894448610377728) = true := by kernel_rfl
theorem v_e2 : (sEq 4607182418800017408 4607182418800017408 && sEq 0 0) = true := by kernel_rfl

set_option maxHeartbeats 8000000 in
set_option maxRecDepth 100000 in
theorem begins_calls (w : World) : Calls Try.prog 7 #[] w fun e w' => e = .returned (.bool true) ∧ Below w.heap.size w w' := by
  have hu26 := Try.underlying26
  have HB := Aside0.mk (Below.refl w.heap.size w)
  go_enter Try.func7, Try.ntmps7
  try go_wp2_with (first | ((with_reducible refine gate_dst (N := 9) rfl ?_); refine goesL_ (some 9) rfl rfl Try.func27 (by kernel_rfl) rfl #[.int .i64 (-80)] rfl (by (try simp only [List.map_toArray, List.map_cons, List.map_nil]); first | done | rfl) ?_; refine (Power_m80 _).mono ?_; rintro e_ w3 ⟨rfl, hw3⟩; obtain rfl := hw3.symm; refine ⟨_, rfl, ?_⟩) | ((with_reducible refine gate_dst (N := 11) rfl ?_); refine goesL_ (some 11) rfl rfl Try.func23 (by kernel_rfl) rfl #[.agg #[.float .f64 4607182418800017408, .float .f64 0], .agg #[.float .f64 4246894448610377728, .float .f64 0]] rfl (by (try simp only [List.map_toArray, List.map_cons, List.map_nil]); first | done | rfl) ?_; refine (AddO 4607182418800017408 0 4246894448610377728 0 4607182418800017408 4246894448610377728 0 (by decide) (by decide) (by decide) (by decide) _ v_o1).mono ?_; rintro e_ w3 ⟨rfl, hb⟩; refine ⟨_, rfl, ?_⟩; have m_HB := Aside0.mk (below_step HB.out hb); clear HB hb ; have HB := m_HB; clear m_HB ) | ((with_reducible refine gate_dst (N := 1) rfl ?_); refine box_event ?hg (N := 1) ?hd (cs := #[.float .f64 0, .float .f64 0]) (t := 26) ?hr ?_; (case hd => rfl); (case hg => rfl); (case hr => first | (go_simp; done) | (go_simp; rfl)); intro gA hg w1 hbox hb; have GA := Aside0.mk (hg ▸ below_size HB.out : w.heap.size ≤ gA); have m_HB := Aside0.mk (below_step HB.out hb); clear HB hb ; have HB := m_HB; clear m_HB hg ; have A := Aside0.mk hbox; clear hbox; obtain ⟨hcA0, hcA1, hfA0, hfA1⟩ := blk2 A.out) | ((with_reducible refine gate_store (t := 26) (p := 1) rfl ?_); refine stored2 (t := 26) (p := 1) (v := ?vo1) (x := .float .f64 4607182418800017408) (y := .float .f64 4246894448610377728) A.out ?hg ?ho ?hn ?hr ?_; (case ho => rfl); (case hg => rfl); (case hn => rfl); (case hr => first | (go_simp; done) | (go_simp; rfl)); intro w1 hbox hoth hlow; have m_HB := Aside0.mk (HB.out.trans (hlow.mono GA.out)); clear HB hoth hlow A ; have HB := m_HB; have A := Aside0.mk hbox; clear m_HB hbox; obtain ⟨hcA0, hcA1, hfA0, hfA1⟩ := blk2 A.out) | ((with_reducible refine gate_dst (N := 15) rfl ?_); refine goesL_ (some 15) rfl rfl Try.func27 (by kernel_rfl) rfl #[.int .i64 100] rfl (by (try simp only [List.map_toArray, List.map_cons, List.map_nil]); first | done | rfl) ?_; refine (Power_100 _).mono ?_; rintro e_ w3 ⟨rfl, hw3⟩; obtain rfl := hw3.symm; refine ⟨_, rfl, ?_⟩) | ((with_reducible refine gate_dst (N := 16) rfl ?_); refine goesL_ (some 16) rfl rfl Try.func27 (by kernel_rfl) rfl #[.int .i64 100] rfl (by (try simp only [List.map_toArray, List.map_cons, List.map_nil]); first | done | rfl) ?_; refine (Power_100 _).mono ?_; rintro e_ w3 ⟨rfl, hw3⟩; obtain rfl := hw3.symm; refine ⟨_, rfl, ?_⟩) | ((with_reducible refine gate_dst (N := 18) rfl ?_); refine hand_slice_event (n := 3) ?hg (N := 18) ?hd (cs := #[.float .f64 5057542381537067008, .float .f64 4607182418800017408, .float .f64 (Op.negFloat .f64 5057542381537067008)]) (t := 24) ?hr ?_; (case hd => rfl); (case hg => rfl); (case hr => first | (go_simp; done) | (go_simp; rfl)); intro gG hg w1 hbox hb; have GG := Aside0.mk (hg ▸ below_size HB.out : w.heap.size ≤ gG); have NE_A_G := Aside0.mk (show gA ≠ gG from hg ▸ Nat.ne_of_lt (blk_lt A.out)); have m_A := Aside0.mk (blk_below A.out hb); have m_HB := Aside0.mk (below_step HB.out hb); clear HB hb A; have HB := m_HB; have A := m_A; clear m_HB hg m_A; have G := Aside0.mk hbox; clear hbox; obtain ⟨hcA0, hcA1, hfA0, hfA1⟩ := blk2 A.out; obtain ⟨hcG0, hcG1, hcG2, hfG0, hfG1, hfG2⟩ := blk3 G.out) | ((with_reducible refine gate_dst (N := 19) rfl ?_); refine goesL_ (some 19) rfl rfl Try.func8 (by kernel_rfl) rfl #[.slice (some ⟨gG, 0, none⟩) 3 3] rfl (by (try simp only [List.map_toArray, List.map_cons, List.map_nil]); first | done | rfl) ?_; refine (Sum3_calls gG 5057542381537067008 4607182418800017408 (Op.negFloat .f64 5057542381537067008) 5057542381537067008 0 5057542381537067008 4607182418800017408 4607182418800017408 0 (by decide) (by decide) (by rw [v_neg]; decide) v_r3 v_r1 (by rw [v_neg]; exact v_r4) v_s0 v_s1 (by rw [v_neg]; exact v_s2) _ G.out).mono ?_; rintro e_ w3 ⟨rfl, hb⟩; refine ⟨_, rfl, ?_⟩; have m_A := Aside0.mk (blk_below A.out hb); have m_G := Aside0.mk (blk_below G.out hb); have m_HB := Aside0.mk (below_step HB.out hb); clear HB hb A G; have HB := m_HB; have A := m_A; have G := m_G; clear m_HB m_A m_G; obtain ⟨hcA0, hcA1, hfA0, hfA1⟩ := blk2 A.out; obtain ⟨hcG0, hcG1, hcG2, hfG0, hfG1, hfG2⟩ := blk3 G.out) | ((with_reducible refine gate_dst (N := 3) rfl ?_); refine box_event ?hg (N := 3) ?hd (cs := #[.float .f64 0, .float .f64 0]) (t := 26) ?hr ?_; (case hd => rfl); (case hg => rfl); (case hr => first | (go_simp; done) | (go_simp; rfl)); intro gC hg w1 hbox hb; have GC := Aside0.mk (hg ▸ below_size HB.out : w.heap.size ≤ gC); have NE_A_C := Aside0.mk (show gA ≠ gC from hg ▸ Nat.ne_of_lt (blk_lt A.out)); have NE_G_C := Aside0.mk (show gG ≠ gC from hg ▸ Nat.ne_of_lt (blk_lt G.out)); have m_A := Aside0.mk (blk_below A.out hb); have m_G := Aside0.mk (blk_below G.out hb); have m_HB := Aside0.mk (below_step HB.out hb); clear HB hb A G; have HB := m_HB; have A := m_A; have G := m_G; clear m_HB hg m_A m_G; have C := Aside0.mk hbox; clear hbox; obtain ⟨hcA0, hcA1, hfA0, hfA1⟩ := blk2 A.out; obtain ⟨hcG0, hcG1, hcG2, hfG0, hfG1, hfG2⟩ := blk3 G.out; obtain ⟨hcC0, hcC1, hfC0, hfC1⟩ := blk2 C.out) | ((with_reducible refine gate_store (t := 26) (p := 3) rfl ?_); refine stored2 (t := 26) (p := 3) (v := ?vo3) (x := .float .f64 4607182418800017408) (y := .float .f64 0) C.out ?hg ?ho ?hn ?hr ?_; (case ho => rfl); (case hg => rfl); (case hn => rfl); (case hr => first | (go_simp; done) | (go_simp; rfl)); intro w1 hbox hoth hlow; have m_A := Aside0.mk ((hoth _ NE_A_C.out).trans A.out); have m_G := Aside0.mk ((hoth _ NE_G_C.out).trans G.out); have m_HB := Aside0.mk (HB.out.trans (hlow.mono GC.out)); clear HB hoth hlow C A G; have HB := m_HB; have C := Aside0.mk hbox; clear m_HB hbox; have A := m_A; clear m_A; have G := m_G; clear m_G; obtain ⟨hcA0, hcA1, hfA0, hfA1⟩ := blk2 A.out; obtain ⟨hcG0, hcG1, hcG2, hfG0, hfG1, hfG2⟩ := blk3 G.out; obtain ⟨hcC0, hcC1, hfC0, hfC1⟩ := blk2 C.out) | ((with_reducible refine gate_dst (N := 23) rfl ?_); refine goesL_ (some 23) rfl rfl Try.func27 (by kernel_rfl) rfl #[.int .i64 301] rfl (by (try simp only [List.map_toArray, List.map_cons, List.map_nil]); first | done | rfl) ?_; refine (Power_301 _).mono ?_; rintro e_ w3 ⟨rfl, hw3⟩; obtain rfl := hw3.symm; refine ⟨_, rfl, ?_⟩) | ((with_reducible refine gate_dst (N := 24) rfl ?_); refine goesL_ (some 24) rfl rfl Try.func28 (by kernel_rfl) rfl #[.float .f64 5962765906638536704] rfl (by (try simp only [List.map_toArray, List.map_cons, List.map_nil]); first | done | rfl) ?_; refine (v_of ▸ Of_calls 5962765906638536704 (by decide) _).mono ?_; rintro e_ w3 ⟨rfl, hb⟩; refine ⟨_, rfl, ?_⟩; have m_A := Aside0.mk (blk_below A.out hb); have m_G := Aside0.mk (blk_below G.out hb); have m_C := Aside0.mk (blk_below C.out hb); have m_HB := Aside0.mk (below_step HB.out hb); clear HB hb A G C; have HB := m_HB; have A := m_A; have G := m_G; have C := m_C; clear m_HB m_A m_G m_C; obtain ⟨hcA0, hcA1, hfA0, hfA1⟩ := blk2 A.out; obtain ⟨hcG0, hcG1, hcG2, hfG0, hfG1, hfG2⟩ := blk3 G.out; obtain ⟨hcC0, hcC1, hfC0, hfC1⟩ := blk2 C.out) | ((with_reducible refine gate_dst (N := 5) rfl ?_); refine box_event ?hg (N := 5) ?hd (cs := #[.float .f64 0, .float .f64 0]) (t := 26) ?hr ?_; (case hd => rfl); (case hg => rfl); (case hr => first | (go_simp; done) | (go_simp; rfl)); intro gD hg w1 hbox hb; have GD := Aside0.mk (hg ▸ below_size HB.out : w.heap.size ≤ gD); have NE_A_D := Aside0.mk (show gA ≠ gD from hg ▸ Nat.ne_of_lt (blk_lt A.out)); have NE_G_D := Aside0.mk (show gG ≠ gD from hg ▸ Nat.ne_of_lt (blk_lt G.out)); have NE_C_D := Aside0.mk (show gC ≠ gD from hg ▸ Nat.ne_of_lt (blk_lt C.out)); have m_A := Aside0.mk (blk_below A.out hb); have m_G := Aside0.mk (blk_below G.out hb); have m_C := Aside0.mk (blk_below C.out hb); have m_HB := Aside0.mk (below_step HB.out hb); clear HB hb A G C; have HB := m_HB; have A := m_A; have G := m_G; have C := m_C; clear m_HB hg m_A m_G m_C; have D := Aside0.mk hbox; clear hbox; obtain ⟨hcA0, hcA1, hfA0, hfA1⟩ := blk2 A.out; obtain ⟨hcG0, hcG1, hcG2, hfG0, hfG1, hfG2⟩ := blk3 G.out; obtain ⟨hcC0, hcC1, hfC0, hfC1⟩ := blk2 C.out; obtain ⟨hcD0, hcD1, hfD0, hfD1⟩ := blk2 D.out) | ((with_reducible refine gate_store (t := 26) (p := 5) rfl ?_); refine stored2 (t := 26) (p := 5) (v := ?vo5) (x := .float .f64 0) (y := .float .f64 0) D.out ?hg ?ho ?hn ?hr ?_; (case ho => rfl); (case hg => rfl); (case hn => rfl); (case hr => first | (go_simp; done) | (go_simp; rfl)); intro w1 hbox hoth hlow; have m_A := Aside0.mk ((hoth _ NE_A_D.out).trans A.out); have m_G := Aside0.mk ((hoth _ NE_G_D.out).trans G.out); have m_C := Aside0.mk ((hoth _ NE_C_D.out).trans C.out); have m_HB := Aside0.mk (HB.out.trans (hlow.mono GD.out)); clear HB hoth hlow D A G C; have HB := m_HB; have D := Aside0.mk hbox; clear m_HB hbox; have A := m_A; clear m_A; have G := m_G; clear m_G; have C := m_C; clear m_C; obtain ⟨hcA0, hcA1, hfA0, hfA1⟩ := blk2 A.out; obtain ⟨hcG0, hcG1, hcG2, hfG0, hfG1, hfG2⟩ := blk3 G.out; obtain ⟨hcC0, hcC1, hfC0, hfC1⟩ := blk2 C.out; obtain ⟨hcD0, hcD1, hfD0, hfD1⟩ := blk2 D.out))
  refine start_ (n := 27) (S := fun w' => w'.cell? ⟨gA, 0, none⟩ = some (.float .f64 4607182418800017408) ∧ w'.cell? ⟨gA, 1, none⟩ = some (.float .f64 4246894448610377728) ∧ w'.cell? ⟨gC, 0, none⟩ = some (.float .f64 4607182418800017408) ∧ w'.cell? ⟨gC, 1, none⟩ = some (.float .f64 0)) (ds := []) #[false, false, false, false, false, false, false, false, false, false, false, false, false, false, false, false, false, false, false, false, false, false, false, false, false, false, false] (by kernel_rfl) rfl rfl ⟨hcA0, hcA1, hcC0, hcC1⟩ (fun hHeld => ?_)
  have m_A := Aside0.mk (show w1.drew.heap[gA]? = _ from A.out)
  have m_C := Aside0.mk (show w1.drew.heap[gC]? = _ from C.out)
  have m_HB := Aside0.mk (show Below w.heap.size w w1.drew from below_drew HB.out)
  clear HB A C
  have HB := m_HB
  have A := m_A
  have C := m_C
  clear m_HB m_A m_C
  generalize w1.drew = w8 at HB A C hHeld ⊢
  obtain ⟨hcA0, hcA1, hfA0, hfA1⟩ := blk2 A.out; obtain ⟨hcC0, hcC1, hfC0, hfC1⟩ := blk2 C.out
  refine take_ (i := 0) (N := some 27) (v := ?_) (a' := ?_) #[true, false, false, false, false, false, false, false, false, false, false, false, false, false, false, false, false, false, false, false, false, false, false, false, false, false, false] rfl rfl (by kernel_rfl) (fun _ _ _ h => h) (Or.inl ⟨by rfl, ?_⟩) hHeld ?_ ?_
  rotate_left
  · rintro w' ⟨s0, s1, s2, s3⟩
    go_simp
    with_reducible rfl
  rotate_left
  · simp only [Act.put, List.setIfInBounds_toArray, List.set_cons_zero, List.set_cons_succ, i64_w, i32_w]
    rfl
  refine take_ (i := 1) (N := some 28) (v := ?_) (a' := ?_) #[true, true, false, false, false, false, false, false, false, false, false, false, false, false, false, false, false, false, false, false, false, false, false, false, false, false, false] rfl rfl (by kernel_rfl) (fun _ _ _ h => h) (Or.inl ⟨by rfl, ?_⟩) hHeld ?_ ?_
  rotate_left
  · rintro w' ⟨s0, s1, s2, s3⟩
    go_simp
    with_reducible rfl
  rotate_left
  · simp only [Act.put, List.setIfInBounds_toArray, List.set_cons_zero, List.set_cons_succ, i64_w, i32_w]
    rfl
  refine take_ (i := 2) (N := some 29) (v := ?_) (a' := ?_) #[true, true, true, false, false, false, false, false, false, false, false, false, false, false, false, false, false, false, false, false, false, false, false, false, false, false, false] rfl rfl (by kernel_rfl) (fun _ _ _ h => h) (Or.inl ⟨by rfl, ?_⟩) hHeld ?_ ?_
  rotate_left
  · rintro w' ⟨s0, s1, s2, s3⟩
    go_simp
    with_reducible rfl
  rotate_left
  · simp only [Act.put, List.setIfInBounds_toArray, List.set_cons_zero, List.set_cons_succ, i64_w, i32_w]
    rfl
  refine take_ (i := 3) (N := some 30) (v := ?_) (a' := ?_) #[true, true, true, true, false, false, false, false, false, false, false, false, false, false, false, false, false, false, false, false, false, false, false, false, false, false, false] rfl rfl (by kernel_rfl) (fun _ _ _ h => h) (Or.inl ⟨by rfl, ?_⟩) hHeld ?_ ?_
  rotate_left
  · rintro w' ⟨s0, s1, s2, s3⟩
    go_simp
    with_reducible rfl
  rotate_left
  · simp only [Act.put, List.setIfInBounds_toArray, List.set_cons_zero, List.set_cons_succ, i64_w, i32_w]
    rfl
  refine one_ (i := 4) (N := some 31) #[true, true, true, true, true, false, false, false, false, false, false, false, false, false, false, false, false, false, false, false, false, false, false, false, false, false, false] rfl rfl (by kernel_rfl) (by decide) (fun K hK => ?_)
  refine goes_ Try.func27 (by kernel_rfl) rfl #[.int .i64 (-80)] (by rfl) rfl rfl (by (try simp only [List.map_toArray, List.map_cons, List.map_nil]); first | done | rfl) ?_
  refine (Power_m80 _).mono ?_
  rintro e_ w3 ⟨rfl, hw3⟩
  obtain rfl := hw3.symm
  refine ⟨_, rfl, ?_⟩
  refine hK.out _ _ hHeld (fun hHeld => ?_)
  clear hK K
  refine norm_ (a' := ?_) ?_ ?_
  rotate_left
  · show Act.put _ (some 31) _ = _
    simp only [Act.put, List.setIfInBounds_toArray, List.set_cons_zero, List.set_cons_succ, i64_w, i32_w]
    rfl
  refine take_ (i := 5) (N := some 32) (v := ?_) (a' := ?_) #[true, true, true, true, true, true, false, false, false, false, false, false, false, false, false, false, false, false, false, false, false, false, false, false, false, false, false] rfl rfl (by kernel_rfl) (fun _ _ _ h => h) (Or.inl ⟨by rfl, ?_⟩) hHeld ?_ ?_
  rotate_left
  · rintro w' ⟨s0, s1, s2, s3⟩
    go_simp
    with_reducible rfl
  rotate_left
  · simp only [Act.put, List.setIfInBounds_toArray, List.set_cons_zero, List.set_cons_succ, i64_w, i32_w]
    rfl
  refine one_ (i := 6) (N := some 33) #[true, true, true, true, true, true, true, false, false, false, false, false, false, false, false, false, false, false, false, false, false, false, false, false, false, false, false] rfl rfl (by kernel_rfl) (by decide) (fun K hK => ?_)
  refine goes_ Try.func9 (by kernel_rfl) rfl #[.agg #[.float .f64 4607182418800017408, .float .f64 4246894448610377728], .agg #[.float .f64 4607182418800017408, .float .f64 4246894448610377728]] (by rfl) rfl rfl (by (try simp only [List.map_toArray, List.map_cons, List.map_nil]); first | done | rfl) ?_
  refine (v_e1 ▸ Same_calls 4607182418800017408 4246894448610377728 4607182418800017408 4246894448610377728 _).mono ?_
  rintro e_ w3 ⟨rfl, hb⟩
  refine ⟨_, rfl, ?_⟩
  have m_A := Aside0.mk (blk_below A.out hb)
  have m_C := Aside0.mk (blk_below C.out hb)
  have m_HB := Aside0.mk (below_step HB.out hb)
  clear HB hb hHeld A C
  have HB := m_HB
  have A := m_A
  have C := m_C
  clear m_HB m_A m_C
  obtain ⟨hcA0, hcA1, hfA0, hfA1⟩ := blk2 A.out; obtain ⟨hcC0, hcC1, hfC0, hfC1⟩ := blk2 C.out
  refine hK.out _ _ ⟨hcA0, hcA1, hcC0, hcC1⟩ (fun hHeld => ?_)
  clear hK K
  refine norm_ (a' := ?_) ?_ ?_
  rotate_left
  · show Act.put _ (some 33) _ = _
    simp only [Act.put, List.setIfInBounds_toArray, List.set_cons_zero, List.set_cons_succ, i64_w, i32_w]
    rfl
  refine take_ (i := 7) (N := some 34) (v := ?_) (a' := ?_) #[true, true, true, true, true, true, true, true, false, false, false, false, false, false, false, false, false, false, false, false, false, false, false, false, false, false, false] rfl rfl (by kernel_rfl) (fun _ _ _ h => h) (Or.inl ⟨by rfl, ?_⟩) hHeld ?_ ?_
  rotate_left
  · rintro w' ⟨s0, s1, s2, s3⟩
    go_simp
    with_reducible rfl
  rotate_left
  · simp only [Act.put, List.setIfInBounds_toArray, List.set_cons_zero, List.set_cons_succ, i64_w, i32_w]
    rfl
  refine take_ (i := 8) (N := some 35) (v := ?_) (a' := ?_) #[true, true, true, true, true, true, true, true, true, false, false, false, false, false, false, false, false, false, false, false, false, false, false, false, false, false, false] rfl rfl (by kernel_rfl) (fun _ _ _ h => h) (Or.inl ⟨by rfl, ?_⟩) hHeld ?_ ?_
  rotate_left
  · rintro w' ⟨s0, s1, s2, s3⟩
    go_simp
    with_reducible rfl
  rotate_left
  · simp only [Act.put, List.setIfInBounds_toArray, List.set_cons_zero, List.set_cons_succ, i64_w, i32_w]
    rfl
  refine take_ (i := 9) (N := some 36) (v := ?_) (a' := ?_) #[true, true, true, true, true, true, true, true, true, true, false, false, false, false, false, false, false, false, false, false, false, false, false, false, false, false, false] rfl rfl (by kernel_rfl) (fun _ _ _ h => h) (Or.inl ⟨by rfl, ?_⟩) hHeld ?_ ?_
  rotate_left
  · rintro w' ⟨s0, s1, s2, s3⟩
    go_simp
    with_reducible rfl
  rotate_left
  · simp only [Act.put, List.setIfInBounds_toArray, List.set_cons_zero, List.set_cons_succ, i64_w, i32_w]
    rfl
  refine take_ (i := 10) (N := some 37) (v := ?_) (a' := ?_) #[true, true, true, true, true, true, true, true, true, true, true, false, false, false, false, false, false, false, false, false, false, false, false, false, false, false, false] rfl rfl (by kernel_rfl) (fun _ _ _ h => h) (Or.inl ⟨by rfl, ?_⟩) hHeld ?_ ?_
  rotate_left
  · rintro w' ⟨s0, s1, s2, s3⟩
    go_simp
    with_reducible rfl
  rotate_left
  · simp only [Act.put, List.setIfInBounds_toArray, List.set_cons_zero, List.set_cons_succ, i64_w, i32_w]
    rfl
  refine take_ (i := 11) (N := some 38) (v := ?_) (a' := ?_) #[true, true, true, true, true, true, true, true, true, true, true, true, false, false, false, false, false, false, false, false, false, false, false, false, false, false, false] rfl rfl (by kernel_rfl) (fun _ _ _ h => h) (Or.inl ⟨by rfl, ?_⟩) hHeld ?_ ?_
  rotate_left
  · rintro w' ⟨s0, s1, s2, s3⟩
    go_simp
    with_reducible rfl
  rotate_left
  · simp only [Act.put, List.setIfInBounds_toArray, List.set_cons_zero, List.set_cons_succ, i64_w, i32_w]
    rfl
  refine take_ (i := 12) (N := some 39) (v := ?_) (a' := ?_) #[true, true, true, true, true, true, true, true, true, true, true, true, true, false, false, false, false, false, false, false, false, false, false, false, false, false, false] rfl rfl (by kernel_rfl) (fun _ _ _ h => h) (Or.inl ⟨by rfl, ?_⟩) hHeld ?_ ?_
  rotate_left
  · rintro w' ⟨s0, s1, s2, s3⟩
    go_simp
    with_reducible rfl
  rotate_left
  · simp only [Act.put, List.setIfInBounds_toArray, List.set_cons_zero, List.set_cons_succ, i64_w, i32_w]
    rfl
  refine take_ (i := 13) (N := some 40) (v := ?_) (a' := ?_) #[true, true, true, true, true, true, true, true, true, true, true, true, true, true, false, false, false, false, false, false, false, false, false, false, false, false, false] rfl rfl (by kernel_rfl) (fun _ _ _ h => h) (Or.inl ⟨by rfl, ?_⟩) hHeld ?_ ?_
  rotate_left
  · rintro w' ⟨s0, s1, s2, s3⟩
    go_simp
    with_reducible rfl
  rotate_left
  · simp only [Act.put, List.setIfInBounds_toArray, List.set_cons_zero, List.set_cons_succ, i64_w, i32_w]
    rfl
  refine take_ (i := 14) (N := some 41) (v := ?_) (a' := ?_) #[true, true, true, true, true, true, true, true, true, true, true, true, true, true, true, false, false, false, false, false, false, false, false, false, false, false, false] rfl rfl (by kernel_rfl) (fun _ _ _ h => h) (Or.inl ⟨by rfl, ?_⟩) hHeld ?_ ?_
  rotate_left
  · rintro w' ⟨s0, s1, s2, s3⟩
    go_simp
    with_reducible rfl
  rotate_left
  · simp only [Act.put, List.setIfInBounds_toArray, List.set_cons_zero, List.set_cons_succ, i64_w, i32_w]
    rfl
  refine one_ (i := 15) (N := some 42) #[true, true, true, true, true, true, true, true, true, true, true, true, true, true, true, true, false, false, false, false, false, false, false, false, false, false, false] rfl rfl (by kernel_rfl) (by decide) (fun K hK => ?_)
  refine goes_ Try.func9 (by kernel_rfl) rfl #[.agg #[.float .f64 4607182418800017408, .float .f64 0], .agg #[.float .f64 4607182418800017408, .float .f64 0]] (by rfl) rfl rfl (by (try simp only [List.map_toArray, List.map_cons, List.map_nil]); first | done | rfl) ?_
  refine (v_e2 ▸ Same_calls 4607182418800017408 0 4607182418800017408 0 _).mono ?_
  rintro e_ w3 ⟨rfl, hb⟩
  refine ⟨_, rfl, ?_⟩
  have m_A := Aside0.mk (blk_below A.out hb)
  have m_C := Aside0.mk (blk_below C.out hb)
  have m_HB := Aside0.mk (below_step HB.out hb)
  clear HB hb hHeld A C
  have HB := m_HB
  have A := m_A
  have C := m_C
  clear m_HB m_A m_C
  obtain ⟨hcA0, hcA1, hfA0, hfA1⟩ := blk2 A.out; obtain ⟨hcC0, hcC1, hfC0, hfC1⟩ := blk2 C.out
  refine hK.out _ _ ⟨hcA0, hcA1, hcC0, hcC1⟩ (fun hHeld => ?_)
  clear hK K
  refine norm_ (a' := ?_) ?_ ?_
  rotate_left
  · show Act.put _ (some 42) _ = _
    simp only [Act.put, List.setIfInBounds_toArray, List.set_cons_zero, List.set_cons_succ, i64_w, i32_w]
    rfl
  refine take_ (i := 16) (N := some 43) (v := ?_) (a' := ?_) #[true, true, true, true, true, true, true, true, true, true, true, true, true, true, true, true, true, false, false, false, false, false, false, false, false, false, false] rfl rfl (by kernel_rfl) (fun _ _ _ h => h) (Or.inl ⟨by rfl, ?_⟩) hHeld ?_ ?_
  rotate_left
  · rintro w' ⟨s0, s1, s2, s3⟩
    go_simp
    with_reducible rfl
  rotate_left
  · simp only [Act.put, List.setIfInBounds_toArray, List.set_cons_zero, List.set_cons_succ, i64_w, i32_w]
    rfl
  refine take_ (i := 17) (N := some 44) (v := ?_) (a' := ?_) #[true, true, true, true, true, true, true, true, true, true, true, true, true, true, true, true, true, true, false, false, false, false, false, false, false, false, false] rfl rfl (by kernel_rfl) (fun _ _ _ h => h) (Or.inl ⟨by rfl, ?_⟩) hHeld ?_ ?_
  rotate_left
  · rintro w' ⟨s0, s1, s2, s3⟩
    go_simp
    with_reducible rfl
  rotate_left
  · simp only [Act.put, List.setIfInBounds_toArray, List.set_cons_zero, List.set_cons_succ, i64_w, i32_w]
    rfl
  refine take_ (i := 18) (N := some 45) (v := ?_) (a' := ?_) #[true, true, true, true, true, true, true, true, true, true, true, true, true, true, true, true, true, true, true, false, false, false, false, false, false, false, false] rfl rfl (by kernel_rfl) (fun _ _ _ h => h) (Or.inl ⟨by rfl, ?_⟩) hHeld ?_ ?_
  rotate_left
  · rintro w' ⟨s0, s1, s2, s3⟩
    go_simp
    with_reducible rfl
  rotate_left
  · simp only [Act.put, List.setIfInBounds_toArray, List.set_cons_zero, List.set_cons_succ, i64_w, i32_w]
    rfl
  refine take_ (i := 19) (N := some 46) (v := ?_) (a' := ?_) #[true, true, true, true, true, true, true, true, true, true, true, true, true, true, true, true, true, true, true, true, false, false, false, false, false, false, false] rfl rfl (by kernel_rfl) (fun _ _ _ h => h) (Or.inl ⟨by rfl, ?_⟩) hHeld ?_ ?_
  rotate_left
  · rintro w' ⟨s0, s1, s2, s3⟩
    go_simp
    with_reducible rfl
  rotate_left
  · simp only [Act.put, List.setIfInBounds_toArray, List.set_cons_zero, List.set_cons_succ, i64_w, i32_w]
    rfl
  refine take_ (i := 20) (N := some 47) (v := ?_) (a' := ?_) #[true, true, true, true, true, true, true, true, true, true, true, true, true, true, true, true, true, true, true, true, true, false, false, false, false, false, false] rfl rfl (by kernel_rfl) (fun _ _ _ h => h) (Or.inl ⟨by rfl, ?_⟩) hHeld ?_ ?_
  rotate_left
  · rintro w' ⟨s0, s1, s2, s3⟩
    go_simp
    with_reducible rfl
  rotate_left
  · simp only [Act.put, List.setIfInBounds_toArray, List.set_cons_zero, List.set_cons_succ, i64_w, i32_w]
    rfl
  refine take_ (i := 21) (N := some 48) (v := ?_) (a' := ?_) #[true, true, true, true, true, true, true, true, true, true, true, true, true, true, true, true, true, true, true, true, true, true, false, false, false, false, false] rfl rfl (by kernel_rfl) (fun _ _ _ h => h) (Or.inl ⟨by rfl, ?_⟩) hHeld ?_ ?_
  rotate_left
  · rintro w' ⟨s0, s1, s2, s3⟩
    go_simp
    with_reducible rfl
  rotate_left
  · simp only [Act.put, List.setIfInBounds_toArray, List.set_cons_zero, List.set_cons_succ, i64_w, i32_w]
    rfl
  refine take_ (i := 22) (N := some 49) (v := ?_) (a' := ?_) #[true, true, true, true, true, true, true, true, true, true, true, true, true, true, true, true, true, true, true, true, true, true, true, false, false, false, false] rfl rfl (by kernel_rfl) (fun _ _ _ h => h) (Or.inl ⟨by rfl, ?_⟩) hHeld ?_ ?_
  rotate_left
  · rintro w' ⟨s0, s1, s2, s3⟩
    go_simp
    with_reducible rfl
  rotate_left
  · simp only [Act.put, List.setIfInBounds_toArray, List.set_cons_zero, List.set_cons_succ, i64_w, i32_w]
    rfl
  refine one_ (i := 23) (N := some 50) #[true, true, true, true, true, true, true, true, true, true, true, true, true, true, true, true, true, true, true, true, true, true, true, true, false, false, false] rfl rfl (by kernel_rfl) (by decide) (fun K hK => ?_)
  refine goes_ Try.func22 (by kernel_rfl) rfl #[.agg #[.float .f64 4607182418800017408, .float .f64 4607182418800017408]] (by rfl) rfl rfl (by (try simp only [List.map_toArray, List.map_cons, List.map_nil]); first | done | rfl) ?_
  refine (v_r5 ▸ Right_calls 4607182418800017408 4607182418800017408 (by decide) (by decide) _).mono ?_
  rintro e_ w3 ⟨rfl, hb⟩
  refine ⟨_, rfl, ?_⟩
  have m_A := Aside0.mk (blk_below A.out hb)
  have m_C := Aside0.mk (blk_below C.out hb)
  have m_HB := Aside0.mk (below_step HB.out hb)
  clear HB hb hHeld A C
  have HB := m_HB
  have A := m_A
  have C := m_C
  clear m_HB m_A m_C
  obtain ⟨hcA0, hcA1, hfA0, hfA1⟩ := blk2 A.out; obtain ⟨hcC0, hcC1, hfC0, hfC1⟩ := blk2 C.out
  refine hK.out _ _ ⟨hcA0, hcA1, hcC0, hcC1⟩ (fun hHeld => ?_)
  clear hK K
  refine norm_ (a' := ?_) ?_ ?_
  rotate_left
  · show Act.put _ (some 50) _ = _
    simp only [Act.put, List.setIfInBounds_toArray, List.set_cons_zero, List.set_cons_succ, i64_w, i32_w]
    rfl
  refine take_ (i := 24) (N := some 51) (v := ?_) (a' := ?_) #[true, true, true, true, true, true, true, true, true, true, true, true, true, true, true, true, true, true, true, true, true, true, true, true, true, false, false] rfl rfl (by kernel_rfl) (fun _ _ _ h => h) (Or.inl ⟨by rfl, ?_⟩) hHeld ?_ ?_
  rotate_left
  · rintro w' ⟨s0, s1, s2, s3⟩
    go_simp
    with_reducible rfl
  rotate_left
  · simp only [Act.put, List.setIfInBounds_toArray, List.set_cons_zero, List.set_cons_succ, i64_w, i32_w]
    rfl
  refine take_ (i := 25) (N := some 52) (v := ?_) (a' := ?_) #[true, true, true, true, true, true, true, true, true, true, true, true, true, true, true, true, true, true, true, true, true, true, true, true, true, true, false] rfl rfl (by kernel_rfl) (fun _ _ _ h => h) (Or.inl ⟨by rfl, ?_⟩) hHeld ?_ ?_
  rotate_left
  · rintro w' ⟨s0, s1, s2, s3⟩
    go_simp
    with_reducible rfl
  rotate_left
  · simp only [Act.put, List.setIfInBounds_toArray, List.set_cons_zero, List.set_cons_succ, i64_w, i32_w]
    rfl
  refine take_ (i := 26) (N := some 0) (v := ?_) (a' := ?_) #[true, true, true, true, true, true, true, true, true, true, true, true, true, true, true, true, true, true, true, true, true, true, true, true, true, true, true] rfl rfl (by kernel_rfl) (fun _ _ _ h => h) (Or.inl ⟨by rfl, ?_⟩) hHeld ?_ ?_
  rotate_left
  · rintro w' ⟨s0, s1, s2, s3⟩
    go_simp
    with_reducible rfl
  rotate_left
  · simp only [Act.put, List.setIfInBounds_toArray, List.set_cons_zero, List.set_cons_succ, i64_w, i32_w]
    rfl
  refine done_ (by kernel_rfl) ?_
  try go_wp2
  go_ret
  exact ⟨rfl, HB.out⟩
end Go.Proofs.Yteaghcchalfgmaa.PAll
