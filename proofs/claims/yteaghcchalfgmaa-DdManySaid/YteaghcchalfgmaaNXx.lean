/- Sums and polynomials of rows of floats, walked. -/
import Derived.Test.YteaghcchalfgmaaNXw
namespace Go.Proofs.Yteaghcchalfgmaa.PAll
open Go.RowKit Go.Proofs.YteaghcchalfgmaaW.PrintWords Go.Proofs.YteaghcchalfgmaaW.PrintLast Go.Proofs.YteaghcchalfgmaaW.PrintMore
open Go.Proofs.Yteaghcchalfgmaa.Nm Ieee
set_option linter.unusedVariables false
set_option linter.unusedSimpArgs false
attribute [local go_sem] run_store_float ext32 ext60 un_neg

theorem drop_at {l : List Nat} {i : Nat} (h : i < l.length) : l.drop i = at' l i :: l.drop (i + 1) := by
  have e : at' l i = l[i] := by unfold at' rdOf; simp [h]
  rw [e]; exact List.drop_eq_getElem_cons h
theorem sumF_step {q : Nat × Nat} {l : List Nat} {i s t : Nat} (h : i < l.length) (hs : sumF q (l.drop i) = some (s, t)) : ∃ a b, addF q.1 q.2 (at' l i) 0 = some (a, b) ∧ sumF (a, b) (l.drop (i + 1)) = some (s, t) := by
  rw [drop_at h] at hs
  unfold sumF at hs
  obtain ⟨⟨a, b⟩, h1, h2⟩ := Option.bind_eq_some_iff.1 hs
  exact ⟨a, b, h1, h2⟩
theorem sumF_end {q : Nat × Nat} {l : List Nat} {i s t : Nat} (h : ¬ i < l.length) (hs : sumF q (l.drop i) = some (s, t)) : q.1 = s ∧ q.2 = t := by
  rw [List.drop_eq_nil_of_le (by omega)] at hs
  injection hs with hs
  rw [hs]; exact ⟨rfl, rfl⟩
theorem polyF_step {k : Nat} {q : Nat × Nat} {l : List Nat} {i s t : Nat} (h : i < l.length) (hs : polyF k q (l.drop i) = some (s, t)) : ∃ u v a b, timesF q.1 q.2 k = some (u, v) ∧ addF u v (at' l i) 0 = some (a, b) ∧ polyF k (a, b) (l.drop (i + 1)) = some (s, t) := by
  rw [drop_at h] at hs
  unfold polyF at hs
  obtain ⟨⟨u, v⟩, h1, h2⟩ := Option.bind_eq_some_iff.1 hs
  obtain ⟨⟨a, b⟩, h3, h4⟩ := Option.bind_eq_some_iff.1 h2
  exact ⟨u, v, a, b, h1, h3, h4⟩
theorem polyF_end {k : Nat} {q : Nat × Nat} {l : List Nat} {i s t : Nat} (h : ¬ i < l.length) (hs : polyF k q (l.drop i) = some (s, t)) : q.1 = s ∧ q.2 = t := by
  rw [List.drop_eq_nil_of_le (by omega)] at hs
  injection hs with hs
  rw [hs]; exact ⟨rfl, rfl⟩
theorem okE_len {l : List Nat} (h : okE l = 0) : l.length ≤ 1024 := by
  unfold okE at h
  by_cases q : 1024 < l.length
  · rw [if_pos q] at h; cases h
  · omega
/-- what sums and polynomials answer. -/
def OutS (l : List Nat) (s t : Nat) (er : Int) : Prop := (okE l = er ∧ er ≠ 0 ∧ s = 0 ∧ t = 0) ∨ (okE l = 0 ∧ er = 0 ∧ sumF (0, 0) l = some (s, t))
def okX (x : Nat) : Bool := fOk x && decide (rg x ≤ 4607182418800017408)
def OutP (l : List Nat) (x s t : Nat) (er : Int) : Prop := (okE l = er ∧ er ≠ 0 ∧ s = 0 ∧ t = 0) ∨ (okE l = 0 ∧ okX x = false ∧ er = 2 ∧ s = 0 ∧ t = 0) ∨ (okE l = 0 ∧ okX x = true ∧ er = 0 ∧ polyF x (0, 0) l = some (s, t))

theorem fOk_fin {x : Nat} (h : fOk x = true) : rg x ≤ 5958262307011166208 := by
  rcases fOk_cases x with ⟨a, b⟩ | ⟨a, b, c⟩ | ⟨a, b, c, d⟩ | ⟨a, b, c, d⟩
  · omega
  · rw [c] at h; cases h
  · rw [d] at h; cases h
  · exact c
theorem gt_one (x : Nat) (hf : fOk x = true) : (dOrd (rg x) 4607182418800017408 == some .gt) = decide (¬ rg x ≤ 4607182418800017408) := by
  have h1 := rg_lt x
  have h2 := fOk_fin hf
  show (double.order (rg x) _ == some .gt) = _
  rw [order_key (by rw [rg_rg]; omega) (by decide), cmp_gt, ky_small h1, ky_small (by decide)]
  exact decide_eq_decide.2 (by omega)
theorem far_one (x : Nat) (hf : fOk x = true) : True ∧ (dOrd x 4607182418800017408 == some .gt || dOrd x 13830554455654793216 == some .lt) = decide (¬ rg x ≤ 4607182418800017408) := by
  have h2 := fOk_fin hf
  refine ⟨trivial, ?_⟩
  show (double.order x _ == some .gt || double.order x _ == some .lt) = _
  have k1 : Ky 13830554455654793216 = -4607182418800017408 := by decide
  rw [order_key (by omega) (by decide), order_key (by omega) (by decide), cmp_gt, cmp_lt, ky_small (by decide), k1, or_bool]
  unfold Ky
  cases sg x
  · exact decide_eq_decide.2 (by simp only [Bool.false_eq_true, if_false]; omega)
  · exact decide_eq_decide.2 (by simp only [if_true]; omega)

set_option maxHeartbeats 4000000 in
set_option maxRecDepth 100000 in
theorem Sum_calls (A : Option Addr) (c : Nat) (l : List Nat) (hl : ∀ y ∈ l, y < 18446744073709551616) (s t : Nat) (er : Int) (w : World) (hr : Kd.C kf w A l.length l) (h : OutS l s t er) :
    Calls Try.prog 8 #[.slice A l.length c] w fun e w' => e = .returned (rv s t er) ∧ Below w.heap.size w w' := by
  have hu26 := Try.underlying26
  have hu48 := Try.underlying48
  have HB := Aside0.mk (Below.refl w.heap.size w)
  rcases h with ⟨h1, h2, rfl, rfl⟩ | ⟨h1, rfl, hF⟩
  · have n1 : (er != 0) = true := bne_iff_ne.2 h2
    go_enter Try.func8, Try.ntmps8
    go_wp2_with (first | ((with_reducible refine gate_dst (N := 2) rfl ?_); refine box_event ?hg (N := 2) ?hd (cs := #[.float .f64 0, .float .f64 0]) (t := 26) ?hr ?_; (case hd => rfl); (case hg => rfl); (case hr => first | (go_simp; done) | (go_simp; rfl)); intro gR hg w1 hbox hb; have GR := Aside0.mk (hg ▸ below_size HB.out : w.heap.size ≤ gR); have m_HB := Aside0.mk (below_step HB.out hb); clear HB hb ; have HB := m_HB; clear m_HB hg ; have R := Aside0.mk hbox; clear hbox; obtain ⟨hcR0, hcR1, hfR0, hfR1⟩ := blk2 R.out) | ((with_reducible refine gate_dst (N := 9) rfl ?_); refine goesL_ (some 9) rfl rfl Try.func29 (by kernel_rfl) rfl #[.slice A l.length c] rfl (by (try simp only [List.map_toArray, List.map_cons, List.map_nil]); first | done | rfl) ?_; refine (wrong_calls A c l hl _ (Kd.C_below hr HB.out)).mono ?_; rintro e_ w3 ⟨rfl, hb⟩; refine ⟨_, rfl, ?_⟩; have m_R := Aside0.mk (blk_below R.out hb); have m_HB := Aside0.mk (below_step HB.out hb); clear HB hb R; have HB := m_HB; have R := m_R; clear m_HB m_R; obtain ⟨hcR0, hcR1, hfR0, hfR1⟩ := blk2 R.out) | ((with_reducible refine gate_store (t := 26) (p := 2) rfl ?_); refine stored2 (t := 26) (p := 2) (v := ?voz) (x := .float .f64 0) (y := .float .f64 0) R.out ?hg ?ho ?hn ?hr ?_; (case ho => rfl); (case hg => rfl); (case hn => rfl); (case hr => first | (go_simp; done) | (go_simp; rfl)); intro w1 hbox hoth hlow; have m_HB := Aside0.mk (HB.out.trans (hlow.mono GR.out)); clear HB hoth hlow R ; have HB := m_HB; have R := Aside0.mk hbox; clear m_HB hbox; obtain ⟨hcR0, hcR1, hfR0, hfR1⟩ := blk2 R.out) | (simp only [h1, n1]; try go_simp))
    refine bodyPost_ret (results_ct rfl _ _ gR 26 #[.float .f64 0, .float .f64 0] (0, 0) _ rfl R.out Try.underlying26 rfl (by kernel_rfl)) rfl ?_
    exact ⟨rfl, HB.out⟩
  go_enter Try.func8, Try.ntmps8
  go_wp2_with (first | ((with_reducible refine gate_dst (N := 2) rfl ?_); refine box_event ?hg (N := 2) ?hd (cs := #[.float .f64 0, .float .f64 0]) (t := 26) ?hr ?_; (case hd => rfl); (case hg => rfl); (case hr => first | (go_simp; done) | (go_simp; rfl)); intro gR hg w1 hbox hb; have GR := Aside0.mk (hg ▸ below_size HB.out : w.heap.size ≤ gR); have m_HB := Aside0.mk (below_step HB.out hb); clear HB hb ; have HB := m_HB; clear m_HB hg ; have R := Aside0.mk hbox; clear hbox; obtain ⟨hcR0, hcR1, hfR0, hfR1⟩ := blk2 R.out) | ((with_reducible refine gate_dst (N := 9) rfl ?_); refine goesL_ (some 9) rfl rfl Try.func29 (by kernel_rfl) rfl #[.slice A l.length c] rfl (by (try simp only [List.map_toArray, List.map_cons, List.map_nil]); first | done | rfl) ?_; refine (wrong_calls A c l hl _ (Kd.C_below hr HB.out)).mono ?_; rintro e_ w3 ⟨rfl, hb⟩; refine ⟨_, rfl, ?_⟩; have m_R := Aside0.mk (blk_below R.out hb); have m_HB := Aside0.mk (below_step HB.out hb); clear HB hb R; have HB := m_HB; have R := m_R; clear m_HB m_R; obtain ⟨hcR0, hcR1, hfR0, hfR1⟩ := blk2 R.out) | ((with_reducible refine gate_dst (N := 5) rfl ?_); refine box_event ?hg (N := 5) ?hd (cs := #[.float .f64 0, .float .f64 0]) (t := 48) ?hr ?_; (case hd => rfl); (case hg => rfl); (case hr => first | (go_simp; done) | (go_simp; rfl)); intro gS hg w1 hbox hb; have GS := Aside0.mk (hg ▸ below_size HB.out : w.heap.size ≤ gS); have NE_R_S := Aside0.mk (show gR ≠ gS from hg ▸ Nat.ne_of_lt (blk_lt R.out)); have m_R := Aside0.mk (blk_below R.out hb); have m_HB := Aside0.mk (below_step HB.out hb); clear HB hb R; have HB := m_HB; have R := m_R; clear m_HB hg m_R; have S := Aside0.mk hbox; clear hbox; obtain ⟨hcR0, hcR1, hfR0, hfR1⟩ := blk2 R.out; obtain ⟨hcS0, hcS1, hfS0, hfS1⟩ := blk2 S.out) | ((with_reducible refine gate_store (t := 48) (p := 5) rfl ?_); refine stored2 (t := 48) (p := 5) (v := ?voi) (x := .float .f64 0) (y := .float .f64 0) S.out ?hg ?ho ?hn ?hr ?_; (case ho => rfl); (case hg => rfl); (case hn => rfl); (case hr => first | (go_simp; done) | (go_simp; rfl)); intro w1 hbox hoth hlow; have m_R := Aside0.mk ((hoth _ NE_R_S.out).trans R.out); have m_HB := Aside0.mk (HB.out.trans (hlow.mono GS.out)); clear HB hoth hlow S R; have HB := m_HB; have S := Aside0.mk hbox; clear m_HB hbox; have R := m_R; clear m_R; obtain ⟨hcR0, hcR1, hfR0, hfR1⟩ := blk2 R.out; obtain ⟨hcS0, hcS1, hfS0, hfS1⟩ := blk2 S.out) | (simp only [h1]; try go_simp))
  have hlen := okE_len h1
  go_loopg [17] (l.length + 1) (fun kq vv w' => ∃ (i a b : Nat), vv = .int .i64 (i : Int) ∧ Aside0 (i + kq = l.length + 1) ∧ Aside0 (i ≤ l.length) ∧ Aside0 (sumF (a, b) (l.drop i) = some (s, t)) ∧ Aside0 (Below w.heap.size w w') ∧ Aside0 (w'.heap[gR]? = some (.cells #[.float .f64 0, .float .f64 0] 26 (0, 0))) ∧ Aside0 (w'.heap[gS]? = some (.cells #[.float .f64 a, .float .f64 b] 48 (0, 0))))
  case atStart => exact ⟨0, 0, 0, rfl, ⟨by omega⟩, ⟨Nat.zero_le _⟩, ⟨hF⟩, HB, R, S⟩
  case round =>
    have HX := fun (ad : Addr) (i : Nat) (w2 : World) (h : Kd.C kf w (some ad) l.length l) (p : i < l.length) (hb : Below w.heap.size w w2) => (show w2.cell? (ad.add i) = some (.float .f64 (at' l i)) from by
      obtain ⟨ad', e, hx⟩ := at_f (Kd.C_below h hb) (i : Int) (by omega) (by omega)
      cases e
      exact hx)
    clear HB R S
    obtain ⟨i, a, b, rfl, HK, HI, HS, HB, R, S⟩ := hrel
    obtain ⟨hcR0, hcR1, hfR0, hfR1⟩ := blk2 R.out
    obtain ⟨hcS0, hcS1, hfS0, hfS1⟩ := blk2 S.out
    cases gk with
    | zero => exact absurd HK.out (by have := HI.out; omega)
    | succ k1 =>
      by_cases c2 : i < l.length
      · have c2b : decide ((i : Int) < (l.length : Int)) = true := decide_eq_true (by omega)
        have p1 : 0 ≤ (i : Int) := by omega
        have q1 : (i : Int) < (l.length : Int) := by omega
        obtain ⟨ad, e, -⟩ := at_f hr (i : Int) p1 q1
        cases e
        replace HX := fun w2 hb => HX ad i w2 hr c2 hb
        have hx := HX _ HB.out
        replace p1 := eq_true p1
        replace q1 := eq_true q1
        obtain ⟨a', b', e2, e3⟩ := sumF_step c2 HS.out
        go_wp2_with (first | ((with_reducible refine gate_dst (N := 24) rfl ?_); refine goesL_ (some 24) rfl rfl Try.func30 (by kernel_rfl) rfl #[.agg #[.float .f64 a, .float .f64 b], .agg #[.float .f64 (at' l i), .float .f64 0]] rfl (by (try simp only [List.map_toArray, List.map_cons, List.map_nil]); first | done | rfl) ?_; refine (add_calls a b (at' l i) 0 a' b' _ e2).mono ?_; rintro e_ w3 ⟨rfl, hb⟩; refine ⟨_, rfl, ?_⟩; have m_R := Aside0.mk (blk_below R.out hb); have m_S := Aside0.mk (blk_below S.out hb); have m_HB := Aside0.mk (below_step HB.out hb); clear HB hb R S; have HB := m_HB; have R := m_R; have S := m_S; clear m_HB m_R m_S; obtain ⟨hcR0, hcR1, hfR0, hfR1⟩ := blk2 R.out; obtain ⟨hcS0, hcS1, hfS0, hfS1⟩ := blk2 S.out) | ((with_reducible refine gate_store (t := 48) (p := 5) rfl ?_); refine stored2 (t := 48) (p := 5) (v := ?vos) (x := .float .f64 a') (y := .float .f64 b') S.out ?hg ?ho ?hn ?hr ?_; (case ho => rfl); (case hg => rfl); (case hn => rfl); (case hr => first | (go_simp; done) | (go_simp; rfl)); intro w1 hbox hoth hlow; have m_R := Aside0.mk ((hoth _ NE_R_S.out).trans R.out); have m_HB := Aside0.mk (HB.out.trans (hlow.mono GS.out)); clear HB hoth hlow S R; have HB := m_HB; have S := Aside0.mk hbox; clear m_HB hbox; have R := m_R; clear m_R; obtain ⟨hcR0, hcR1, hfR0, hfR1⟩ := blk2 R.out; obtain ⟨hcS0, hcS1, hfS0, hfS1⟩ := blk2 S.out))
        go_roundg k1
        case measure => have := HK.out; omega
        case rel => exact ⟨i + 1, a', b', (by first | rfl | rw [wrap_up (by omega)]), ⟨by have := HK.out; omega⟩, ⟨by omega⟩, ⟨e3⟩, HB, R, S⟩
      · have c2b : decide ((i : Int) < (l.length : Int)) = false := decide_eq_false (by omega)
        obtain ⟨rfl, rfl⟩ := sumF_end c2 HS.out
        go_wp2_with (first | ((with_reducible refine gate_store (t := 26) (p := 2) rfl ?_); refine stored2 (t := 26) (p := 2) (v := ?vor) (x := .float .f64 a) (y := .float .f64 b) R.out ?hg ?ho ?hn ?hr ?_; (case ho => rfl); (case hg => rfl); (case hn => rfl); (case hr => first | (go_simp; done) | (go_simp; rfl)); intro w1 hbox hoth hlow; have m_S := Aside0.mk ((hoth _ NE_R_S.out.symm).trans S.out); have m_HB := Aside0.mk (HB.out.trans (hlow.mono GR.out)); clear HB hoth hlow R S; have HB := m_HB; have R := Aside0.mk hbox; clear m_HB hbox; have S := m_S; clear m_S; obtain ⟨hcS0, hcS1, hfS0, hfS1⟩ := blk2 S.out; obtain ⟨hcR0, hcR1, hfR0, hfR1⟩ := blk2 R.out))
        refine bodyPost_ret (results_ct rfl _ _ gR 26 #[.float .f64 a, .float .f64 b] (0, 0) _ rfl R.out Try.underlying26 rfl (by kernel_rfl)) rfl ?_
        exact ⟨rfl, HB.out⟩

set_option maxHeartbeats 4000000 in
set_option maxRecDepth 100000 in
theorem Sum'_calls (A : Option Addr) (c : Nat) (l : List Nat) (hl : ∀ y ∈ l, y < 18446744073709551616) (s t : Nat) (er : Int) (w : World) (hr : Kd.C kf w A l.length l) (h : OutS l s t er) :
    Calls Try.prog 17 #[.slice A l.length c] w fun e w' => e = .returned (rv s t er) ∧ Below w.heap.size w w' := by
  have hu26 := Try.underlying26
  have hu48 := Try.underlying48
  have HB := Aside0.mk (Below.refl w.heap.size w)
  rcases h with ⟨h1, h2, rfl, rfl⟩ | ⟨h1, rfl, hF⟩
  · have n1 : (er != 0) = true := bne_iff_ne.2 h2
    go_enter Try.func17, Try.ntmps17
    go_wp2_with (first | ((with_reducible refine gate_dst (N := 2) rfl ?_); refine box_event ?hg (N := 2) ?hd (cs := #[.float .f64 0, .float .f64 0]) (t := 26) ?hr ?_; (case hd => rfl); (case hg => rfl); (case hr => first | (go_simp; done) | (go_simp; rfl)); intro gR hg w1 hbox hb; have GR := Aside0.mk (hg ▸ below_size HB.out : w.heap.size ≤ gR); have m_HB := Aside0.mk (below_step HB.out hb); clear HB hb ; have HB := m_HB; clear m_HB hg ; have R := Aside0.mk hbox; clear hbox; obtain ⟨hcR0, hcR1, hfR0, hfR1⟩ := blk2 R.out) | ((with_reducible refine gate_dst (N := 8) rfl ?_); refine goesL_ (some 8) rfl rfl Try.func44 (by kernel_rfl) rfl #[.slice A l.length c] rfl (by (try simp only [List.map_toArray, List.map_cons, List.map_nil]); first | done | rfl) ?_; refine (floats_calls A c l hl _ (Kd.C_below hr HB.out)).mono ?_; rintro e_ w3 ⟨rfl, hb⟩; refine ⟨_, rfl, ?_⟩; have m_R := Aside0.mk (blk_below R.out hb); have m_HB := Aside0.mk (below_step HB.out hb); clear HB hb R; have HB := m_HB; have R := m_R; clear m_HB m_R; obtain ⟨hcR0, hcR1, hfR0, hfR1⟩ := blk2 R.out) | ((with_reducible refine gate_store (t := 26) (p := 2) rfl ?_); refine stored2 (t := 26) (p := 2) (v := ?voz) (x := .float .f64 0) (y := .float .f64 0) R.out ?hg ?ho ?hn ?hr ?_; (case ho => rfl); (case hg => rfl); (case hn => rfl); (case hr => first | (go_simp; done) | (go_simp; rfl)); intro w1 hbox hoth hlow; have m_HB := Aside0.mk (HB.out.trans (hlow.mono GR.out)); clear HB hoth hlow R ; have HB := m_HB; have R := Aside0.mk hbox; clear m_HB hbox; obtain ⟨hcR0, hcR1, hfR0, hfR1⟩ := blk2 R.out) | (simp only [h1, n1]; try go_simp))
    refine bodyPost_ret (results_ct rfl _ _ gR 26 #[.float .f64 0, .float .f64 0] (0, 0) _ rfl R.out Try.underlying26 rfl (by kernel_rfl)) rfl ?_
    exact ⟨rfl, HB.out⟩
  go_enter Try.func17, Try.ntmps17
  go_wp2_with (first | ((with_reducible refine gate_dst (N := 2) rfl ?_); refine box_event ?hg (N := 2) ?hd (cs := #[.float .f64 0, .float .f64 0]) (t := 26) ?hr ?_; (case hd => rfl); (case hg => rfl); (case hr => first | (go_simp; done) | (go_simp; rfl)); intro gR hg w1 hbox hb; have GR := Aside0.mk (hg ▸ below_size HB.out : w.heap.size ≤ gR); have m_HB := Aside0.mk (below_step HB.out hb); clear HB hb ; have HB := m_HB; clear m_HB hg ; have R := Aside0.mk hbox; clear hbox; obtain ⟨hcR0, hcR1, hfR0, hfR1⟩ := blk2 R.out) | ((with_reducible refine gate_dst (N := 8) rfl ?_); refine goesL_ (some 8) rfl rfl Try.func44 (by kernel_rfl) rfl #[.slice A l.length c] rfl (by (try simp only [List.map_toArray, List.map_cons, List.map_nil]); first | done | rfl) ?_; refine (floats_calls A c l hl _ (Kd.C_below hr HB.out)).mono ?_; rintro e_ w3 ⟨rfl, hb⟩; refine ⟨_, rfl, ?_⟩; have m_R := Aside0.mk (blk_below R.out hb); have m_HB := Aside0.mk (below_step HB.out hb); clear HB hb R; have HB := m_HB; have R := m_R; clear m_HB m_R; obtain ⟨hcR0, hcR1, hfR0, hfR1⟩ := blk2 R.out) | ((with_reducible refine gate_dst (N := 5) rfl ?_); refine box_event ?hg (N := 5) ?hd (cs := #[.float .f64 0, .float .f64 0]) (t := 26) ?hr ?_; (case hd => rfl); (case hg => rfl); (case hr => first | (go_simp; done) | (go_simp; rfl)); intro gS hg w1 hbox hb; have GS := Aside0.mk (hg ▸ below_size HB.out : w.heap.size ≤ gS); have NE_R_S := Aside0.mk (show gR ≠ gS from hg ▸ Nat.ne_of_lt (blk_lt R.out)); have m_R := Aside0.mk (blk_below R.out hb); have m_HB := Aside0.mk (below_step HB.out hb); clear HB hb R; have HB := m_HB; have R := m_R; clear m_HB hg m_R; have S := Aside0.mk hbox; clear hbox; obtain ⟨hcR0, hcR1, hfR0, hfR1⟩ := blk2 R.out; obtain ⟨hcS0, hcS1, hfS0, hfS1⟩ := blk2 S.out) | ((with_reducible refine gate_store (t := 26) (p := 5) rfl ?_); refine stored2 (t := 26) (p := 5) (v := ?voi) (x := .float .f64 0) (y := .float .f64 0) S.out ?hg ?ho ?hn ?hr ?_; (case ho => rfl); (case hg => rfl); (case hn => rfl); (case hr => first | (go_simp; done) | (go_simp; rfl)); intro w1 hbox hoth hlow; have m_R := Aside0.mk ((hoth _ NE_R_S.out).trans R.out); have m_HB := Aside0.mk (HB.out.trans (hlow.mono GS.out)); clear HB hoth hlow S R; have HB := m_HB; have S := Aside0.mk hbox; clear m_HB hbox; have R := m_R; clear m_R; obtain ⟨hcR0, hcR1, hfR0, hfR1⟩ := blk2 R.out; obtain ⟨hcS0, hcS1, hfS0, hfS1⟩ := blk2 S.out) | (simp only [h1]; try go_simp))
  have hlen := okE_len h1
  go_loopg [6] (l.length + 1) (fun kq vv w' => ∃ (i a b : Nat), vv = .int .i64 (i : Int) ∧ Aside0 (i + kq = l.length + 1) ∧ Aside0 (i ≤ l.length) ∧ Aside0 (sumF (a, b) (l.drop i) = some (s, t)) ∧ Aside0 (Below w.heap.size w w') ∧ Aside0 (w'.heap[gR]? = some (.cells #[.float .f64 0, .float .f64 0] 26 (0, 0))) ∧ Aside0 (w'.heap[gS]? = some (.cells #[.float .f64 a, .float .f64 b] 26 (0, 0))))
  case atStart => exact ⟨0, 0, 0, rfl, ⟨by omega⟩, ⟨Nat.zero_le _⟩, ⟨hF⟩, HB, R, S⟩
  case round =>
    have HX := fun (ad : Addr) (i : Nat) (w2 : World) (h : Kd.C kf w (some ad) l.length l) (p : i < l.length) (hb : Below w.heap.size w w2) => (show w2.cell? (ad.add i) = some (.float .f64 (at' l i)) from by
      obtain ⟨ad', e, hx⟩ := at_f (Kd.C_below h hb) (i : Int) (by omega) (by omega)
      cases e
      exact hx)
    clear HB R S
    obtain ⟨i, a, b, rfl, HK, HI, HS, HB, R, S⟩ := hrel
    obtain ⟨hcR0, hcR1, hfR0, hfR1⟩ := blk2 R.out
    obtain ⟨hcS0, hcS1, hfS0, hfS1⟩ := blk2 S.out
    cases gk with
    | zero => exact absurd HK.out (by have := HI.out; omega)
    | succ k1 =>
      by_cases c2 : i < l.length
      · have c2b : decide ((i : Int) < (l.length : Int)) = true := decide_eq_true (by omega)
        have p1 : 0 ≤ (i : Int) := by omega
        have q1 : (i : Int) < (l.length : Int) := by omega
        obtain ⟨ad, e, -⟩ := at_f hr (i : Int) p1 q1
        cases e
        replace HX := fun w2 hb => HX ad i w2 hr c2 hb
        have hx := HX _ HB.out
        replace p1 := eq_true p1
        replace q1 := eq_true q1
        obtain ⟨a', b', e2, e3⟩ := sumF_step c2 HS.out
        try go_wp2
        refine start_ (n := 8) (S := fun w' => w'.cell? ⟨gS, 0, none⟩ = some (.float .f64 a) ∧ w'.cell? ⟨gS, 1, none⟩ = some (.float .f64 b) ∧ w'.cell? (ad.add i) = some (.float .f64 (at' l i))) (ds := [7]) #[false, false, false, false, false, false, false, false] (by kernel_rfl) rfl rfl ⟨hcS0, hcS1, (HX _ (below_drew HB.out))⟩ (fun hHeld => ?_)
        have m_R := Aside0.mk (show wr.drew.heap[gR]? = _ from R.out)
        have m_S := Aside0.mk (show wr.drew.heap[gS]? = _ from S.out)
        have m_HB := Aside0.mk (show Below w.heap.size w wr.drew from below_drew HB.out)
        clear HB R S
        have HB := m_HB
        have R := m_R
        have S := m_S
        clear m_HB m_R m_S
        generalize wr.drew = w8 at HB R S hHeld ⊢
        obtain ⟨hcR0, hcR1, hfR0, hfR1⟩ := blk2 R.out; obtain ⟨hcS0, hcS1, hfS0, hfS1⟩ := blk2 S.out
        refine take_ (i := 0) (N := some 20) (v := ?_) (a' := ?_) #[true, false, false, false, false, false, false, false] rfl rfl (by kernel_rfl) (fun _ _ _ h => h) (Or.inl ⟨by rfl, ?_⟩) hHeld ?_ ?_
        rotate_left
        · rintro w' ⟨s0, s1, s2⟩
          go_simp
          with_reducible rfl
        rotate_left
        · simp only [Act.put, List.setIfInBounds_toArray, List.set_cons_zero, List.set_cons_succ, i64_w, i32_w]
          rfl
        refine take_ (i := 1) (N := some 21) (v := ?_) (a' := ?_) #[true, true, false, false, false, false, false, false] rfl rfl (by kernel_rfl) (fun _ _ _ h => h) (Or.inl ⟨by rfl, ?_⟩) hHeld ?_ ?_
        rotate_left
        · rintro w' ⟨s0, s1, s2⟩
          go_simp
          with_reducible rfl
        rotate_left
        · simp only [Act.put, List.setIfInBounds_toArray, List.set_cons_zero, List.set_cons_succ, i64_w, i32_w]
          rfl
        refine take_ (i := 2) (N := some 22) (v := ?_) (a' := ?_) #[true, true, true, false, false, false, false, false] rfl rfl (by kernel_rfl) (fun _ _ _ h => h) (Or.inl ⟨by rfl, ?_⟩) hHeld ?_ ?_
        rotate_left
        · rintro w' ⟨s0, s1, s2⟩
          go_simp
          with_reducible rfl
        rotate_left
        · simp only [Act.put, List.setIfInBounds_toArray, List.set_cons_zero, List.set_cons_succ, i64_w, i32_w]
          rfl
        refine take_ (i := 3) (N := some 23) (v := ?_) (a' := ?_) #[true, true, true, true, false, false, false, false] rfl rfl (by kernel_rfl) (fun _ _ _ h => h) (Or.inl ⟨by rfl, ?_⟩) hHeld ?_ ?_
        rotate_left
        · rintro w' ⟨s0, s1, s2⟩
          go_simp
          with_reducible rfl
        rotate_left
        · simp only [Act.put, List.setIfInBounds_toArray, List.set_cons_zero, List.set_cons_succ, i64_w, i32_w]
          rfl
        refine take_ (i := 4) (N := some 24) (v := ?_) (a' := ?_) #[true, true, true, true, true, false, false, false] rfl rfl (by kernel_rfl) (fun _ _ _ h => h) (Or.inl ⟨by rfl, ?_⟩) hHeld ?_ ?_
        rotate_left
        · rintro w' ⟨s0, s1, s2⟩
          go_simp
          with_reducible rfl
        rotate_left
        · simp only [Act.put, List.setIfInBounds_toArray, List.set_cons_zero, List.set_cons_succ, i64_w, i32_w]
          rfl
        refine take_ (i := 5) (N := some 25) (v := ?_) (a' := ?_) #[true, true, true, true, true, true, false, false] rfl rfl (by kernel_rfl) (fun _ _ _ h => h) (Or.inl ⟨by rfl, ?_⟩) hHeld ?_ ?_
        rotate_left
        · rintro w' ⟨s0, s1, s2⟩
          go_simp
          with_reducible rfl
        rotate_left
        · simp only [Act.put, List.setIfInBounds_toArray, List.set_cons_zero, List.set_cons_succ, i64_w, i32_w]
          rfl
        refine one_ (i := 6) (N := some 26) #[true, true, true, true, true, true, true, false] rfl rfl (by kernel_rfl) (by decide) (fun K hK => ?_)
        refine goes_ Try.func45 (by kernel_rfl) rfl #[.agg #[.float .f64 a, .float .f64 b], .agg #[.float .f64 (at' l i), .float .f64 0]] (by rfl) rfl rfl (by (try simp only [List.map_toArray, List.map_cons, List.map_nil]); first | done | rfl) ?_
        refine (Plus_calls a b (at' l i) 0 a' b' _ e2).mono ?_
        rintro e_ w3 ⟨rfl, hb⟩
        refine ⟨_, rfl, ?_⟩
        have m_R := Aside0.mk (blk_below R.out hb)
        have m_S := Aside0.mk (blk_below S.out hb)
        have m_HB := Aside0.mk (below_step HB.out hb)
        clear HB hb hHeld R S
        have HB := m_HB
        have R := m_R
        have S := m_S
        clear m_HB m_R m_S
        obtain ⟨hcR0, hcR1, hfR0, hfR1⟩ := blk2 R.out; obtain ⟨hcS0, hcS1, hfS0, hfS1⟩ := blk2 S.out
        refine hK.out _ _ ⟨hcS0, hcS1, (HX _ HB.out)⟩ (fun hHeld => ?_)
        clear hK K
        refine norm_ (a' := ?_) ?_ ?_
        rotate_left
        · show Act.put _ (some 26) _ = _
          simp only [Act.put, List.setIfInBounds_toArray, List.set_cons_zero, List.set_cons_succ, i64_w, i32_w]
          rfl
        refine last_ (i := 7) (N := none) #[true, true, true, true, true, true, true, true] rfl rfl (by kernel_rfl) (by decide) (fun K hK => ?_)
        refine stored2K (x := .float .f64 a') (y := .float .f64 b') S.out (by rfl) rfl (by first | (go_simp; done) | (go_simp; rfl)) (fun w1 hbox hoth hlow => ?_)
        have m_R := Aside0.mk ((hoth _ NE_R_S.out).trans R.out)
        have m_HB := Aside0.mk (HB.out.trans (hlow.mono GS.out))
        clear HB hoth hlow hHeld R S
        have HB := m_HB
        have S := Aside0.mk hbox
        have R := m_R
        clear m_HB hbox m_R
        obtain ⟨hcR0, hcR1, hfR0, hfR1⟩ := blk2 R.out; obtain ⟨hcS0, hcS1, hfS0, hfS1⟩ := blk2 S.out
        refine hK.out _ _ ?_
        clear hK K
        refine done_ (by kernel_rfl) ?_
        try go_wp2
        go_roundg k1
        case measure => have := HK.out; omega
        case rel => exact ⟨i + 1, a', b', (by first | rfl | rw [wrap_up (by omega)]), ⟨by have := HK.out; omega⟩, ⟨by omega⟩, ⟨e3⟩, HB, R, S⟩
      · have c2b : decide ((i : Int) < (l.length : Int)) = false := decide_eq_false (by omega)
        obtain ⟨rfl, rfl⟩ := sumF_end c2 HS.out
        go_wp2_with (first | ((with_reducible refine gate_store (t := 26) (p := 2) rfl ?_); refine stored2 (t := 26) (p := 2) (v := ?vor) (x := .float .f64 a) (y := .float .f64 b) R.out ?hg ?ho ?hn ?hr ?_; (case ho => rfl); (case hg => rfl); (case hn => rfl); (case hr => first | (go_simp; done) | (go_simp; rfl)); intro w1 hbox hoth hlow; have m_S := Aside0.mk ((hoth _ NE_R_S.out.symm).trans S.out); have m_HB := Aside0.mk (HB.out.trans (hlow.mono GR.out)); clear HB hoth hlow R S; have HB := m_HB; have R := Aside0.mk hbox; clear m_HB hbox; have S := m_S; clear m_S; obtain ⟨hcS0, hcS1, hfS0, hfS1⟩ := blk2 S.out; obtain ⟨hcR0, hcR1, hfR0, hfR1⟩ := blk2 R.out))
        refine bodyPost_ret (results_ct rfl _ _ gR 26 #[.float .f64 a, .float .f64 b] (0, 0) _ rfl R.out Try.underlying26 rfl (by kernel_rfl)) rfl ?_
        exact ⟨rfl, HB.out⟩

set_option maxHeartbeats 4000000 in
set_option maxRecDepth 100000 in
theorem Poly_calls (A : Option Addr) (c : Nat) (l : List Nat) (hl : ∀ y ∈ l, y < 18446744073709551616) (x : Nat) (hx0 : x < 18446744073709551616) (s t : Nat) (er : Int) (w : World) (hr : Kd.C kf w A l.length l) (h : OutP l x s t er) :
    Calls Try.prog 18 #[.slice A l.length c, .float .f64 x] w fun e w' => e = .returned (rv s t er) ∧ Below w.heap.size w w' := by
  have hu26 := Try.underlying26
  have hu48 := Try.underlying48
  have HB := Aside0.mk (Below.refl w.heap.size w)
  rcases h with ⟨h1, h2, rfl, rfl⟩ | ⟨h1, h2, rfl, rfl, rfl⟩ | ⟨h1, h2, rfl, hF⟩
  · have n1 : (er != 0) = true := bne_iff_ne.2 h2
    have n2 : (er == 0) = false := beq_eq_false_iff_ne.2 h2
    go_enter Try.func18, Try.ntmps18
    go_wp2_with (first | ((with_reducible refine gate_dst (N := 4) rfl ?_); refine box_event ?hg (N := 4) ?hd (cs := #[.float .f64 0, .float .f64 0]) (t := 26) ?hr ?_; (case hd => rfl); (case hg => rfl); (case hr => first | (go_simp; done) | (go_simp; rfl)); intro gR hg w1 hbox hb; have GR := Aside0.mk (hg ▸ below_size HB.out : w.heap.size ≤ gR); have m_HB := Aside0.mk (below_step HB.out hb); clear HB hb ; have HB := m_HB; clear m_HB hg ; have R := Aside0.mk hbox; clear hbox; obtain ⟨hcR0, hcR1, hfR0, hfR1⟩ := blk2 R.out) | ((with_reducible refine gate_dst (N := 11) rfl ?_); refine goesL_ (some 11) rfl rfl Try.func29 (by kernel_rfl) rfl #[.slice A l.length c] rfl (by (try simp only [List.map_toArray, List.map_cons, List.map_nil]); first | done | rfl) ?_; refine (wrong_calls A c l hl _ (Kd.C_below hr HB.out)).mono ?_; rintro e_ w3 ⟨rfl, hb⟩; refine ⟨_, rfl, ?_⟩; have m_R := Aside0.mk (blk_below R.out hb); have m_HB := Aside0.mk (below_step HB.out hb); clear HB hb R; have HB := m_HB; have R := m_R; clear m_HB m_R; obtain ⟨hcR0, hcR1, hfR0, hfR1⟩ := blk2 R.out) | ((with_reducible refine gate_store (t := 26) (p := 4) rfl ?_); refine stored2 (t := 26) (p := 4) (v := ?voz) (x := .float .f64 0) (y := .float .f64 0) R.out ?hg ?ho ?hn ?hr ?_; (case ho => rfl); (case hg => rfl); (case hn => rfl); (case hr => first | (go_simp; done) | (go_simp; rfl)); intro w1 hbox hoth hlow; have m_HB := Aside0.mk (HB.out.trans (hlow.mono GR.out)); clear HB hoth hlow R ; have HB := m_HB; have R := Aside0.mk hbox; clear m_HB hbox; obtain ⟨hcR0, hcR1, hfR0, hfR1⟩ := blk2 R.out) | (simp only [h1, n1, n2]; try go_simp))
    refine bodyPost_ret (results_ct rfl _ _ gR 26 #[.float .f64 0, .float .f64 0] (0, 0) _ rfl R.out Try.underlying26 rfl (by kernel_rfl)) rfl ?_
    exact ⟨rfl, HB.out⟩
  · cases hf : fOk x
    · go_enter Try.func18, Try.ntmps18
      go_wp2_with (first | ((with_reducible refine gate_dst (N := 4) rfl ?_); refine box_event ?hg (N := 4) ?hd (cs := #[.float .f64 0, .float .f64 0]) (t := 26) ?hr ?_; (case hd => rfl); (case hg => rfl); (case hr => first | (go_simp; done) | (go_simp; rfl)); intro gR hg w1 hbox hb; have GR := Aside0.mk (hg ▸ below_size HB.out : w.heap.size ≤ gR); have m_HB := Aside0.mk (below_step HB.out hb); clear HB hb ; have HB := m_HB; clear m_HB hg ; have R := Aside0.mk hbox; clear hbox; obtain ⟨hcR0, hcR1, hfR0, hfR1⟩ := blk2 R.out) | ((with_reducible refine gate_dst (N := 11) rfl ?_); refine goesL_ (some 11) rfl rfl Try.func29 (by kernel_rfl) rfl #[.slice A l.length c] rfl (by (try simp only [List.map_toArray, List.map_cons, List.map_nil]); first | done | rfl) ?_; refine (wrong_calls A c l hl _ (Kd.C_below hr HB.out)).mono ?_; rintro e_ w3 ⟨rfl, hb⟩; refine ⟨_, rfl, ?_⟩; have m_R := Aside0.mk (blk_below R.out hb); have m_HB := Aside0.mk (below_step HB.out hb); clear HB hb R; have HB := m_HB; have R := m_R; clear m_HB m_R; obtain ⟨hcR0, hcR1, hfR0, hfR1⟩ := blk2 R.out) | ((with_reducible refine gate_calls (f := 22) ?_); refine (Right_calls x 0 hx0 (by decide) _).mono ?_; rintro e_ w3 ⟨rfl, hb⟩; (try dsimp only); have m_R := Aside0.mk (blk_below R.out hb); have m_HB := Aside0.mk (below_step HB.out hb); clear HB hb R; have HB := m_HB; have R := m_R; clear m_HB m_R; obtain ⟨hcR0, hcR1, hfR0, hfR1⟩ := blk2 R.out) | ((with_reducible refine gate_calls (f := 46) ?_); refine (Abs_calls x hx0 _).mono ?_; rintro e_ w3 ⟨rfl, hw3⟩; obtain rfl := hw3.symm; (try dsimp only)) | ((with_reducible refine gate_store (t := 26) (p := 4) rfl ?_); refine stored2 (t := 26) (p := 4) (v := ?voz2) (x := .float .f64 0) (y := .float .f64 0) R.out ?hg ?ho ?hn ?hr ?_; (case ho => rfl); (case hg => rfl); (case hn => rfl); (case hr => first | (go_simp; done) | (go_simp; rfl)); intro w1 hbox hoth hlow; have m_HB := Aside0.mk (HB.out.trans (hlow.mono GR.out)); clear HB hoth hlow R ; have HB := m_HB; have R := Aside0.mk hbox; clear m_HB hbox; obtain ⟨hcR0, hcR1, hfR0, hfR1⟩ := blk2 R.out) | (simp only [h1, rt_fOk, hf]; try go_simp))
      refine bodyPost_ret (results_ct rfl _ _ gR 26 #[.float .f64 0, .float .f64 0] (0, 0) _ rfl R.out Try.underlying26 rfl (by kernel_rfl)) rfl ?_
      exact ⟨rfl, HB.out⟩
    · have hgt : ¬ rg x ≤ 4607182418800017408 := fun e => by
        unfold okX at h2; rw [hf, decide_eq_true e] at h2; cases h2
      have g1 := gt_one x hf
      rw [decide_eq_true (by omega)] at g1
      go_enter Try.func18, Try.ntmps18
      go_wp2_with (first | ((with_reducible refine gate_dst (N := 4) rfl ?_); refine box_event ?hg (N := 4) ?hd (cs := #[.float .f64 0, .float .f64 0]) (t := 26) ?hr ?_; (case hd => rfl); (case hg => rfl); (case hr => first | (go_simp; done) | (go_simp; rfl)); intro gR hg w1 hbox hb; have GR := Aside0.mk (hg ▸ below_size HB.out : w.heap.size ≤ gR); have m_HB := Aside0.mk (below_step HB.out hb); clear HB hb ; have HB := m_HB; clear m_HB hg ; have R := Aside0.mk hbox; clear hbox; obtain ⟨hcR0, hcR1, hfR0, hfR1⟩ := blk2 R.out) | ((with_reducible refine gate_dst (N := 11) rfl ?_); refine goesL_ (some 11) rfl rfl Try.func29 (by kernel_rfl) rfl #[.slice A l.length c] rfl (by (try simp only [List.map_toArray, List.map_cons, List.map_nil]); first | done | rfl) ?_; refine (wrong_calls A c l hl _ (Kd.C_below hr HB.out)).mono ?_; rintro e_ w3 ⟨rfl, hb⟩; refine ⟨_, rfl, ?_⟩; have m_R := Aside0.mk (blk_below R.out hb); have m_HB := Aside0.mk (below_step HB.out hb); clear HB hb R; have HB := m_HB; have R := m_R; clear m_HB m_R; obtain ⟨hcR0, hcR1, hfR0, hfR1⟩ := blk2 R.out) | ((with_reducible refine gate_calls (f := 22) ?_); refine (Right_calls x 0 hx0 (by decide) _).mono ?_; rintro e_ w3 ⟨rfl, hb⟩; (try dsimp only); have m_R := Aside0.mk (blk_below R.out hb); have m_HB := Aside0.mk (below_step HB.out hb); clear HB hb R; have HB := m_HB; have R := m_R; clear m_HB m_R; obtain ⟨hcR0, hcR1, hfR0, hfR1⟩ := blk2 R.out) | ((with_reducible refine gate_calls (f := 46) ?_); refine (Abs_calls x hx0 _).mono ?_; rintro e_ w3 ⟨rfl, hw3⟩; obtain rfl := hw3.symm; (try dsimp only)) | ((with_reducible refine gate_store (t := 26) (p := 4) rfl ?_); refine stored2 (t := 26) (p := 4) (v := ?voz3) (x := .float .f64 0) (y := .float .f64 0) R.out ?hg ?ho ?hn ?hr ?_; (case ho => rfl); (case hg => rfl); (case hn => rfl); (case hr => first | (go_simp; done) | (go_simp; rfl)); intro w1 hbox hoth hlow; have m_HB := Aside0.mk (HB.out.trans (hlow.mono GR.out)); clear HB hoth hlow R ; have HB := m_HB; have R := Aside0.mk hbox; clear m_HB hbox; obtain ⟨hcR0, hcR1, hfR0, hfR1⟩ := blk2 R.out) | (simp only [h1, rt_fOk, hf, g1]; try go_simp))
      refine bodyPost_ret (results_ct rfl _ _ gR 26 #[.float .f64 0, .float .f64 0] (0, 0) _ rfl R.out Try.underlying26 rfl (by kernel_rfl)) rfl ?_
      exact ⟨rfl, HB.out⟩
  obtain ⟨hf, hle⟩ : fOk x = true ∧ rg x ≤ 4607182418800017408 := by
    unfold okX at h2
    obtain ⟨q1, q2⟩ := Bool.and_eq_true_iff.1 h2
    exact ⟨q1, of_decide_eq_true q2⟩
  have g1 := gt_one x hf
  rw [decide_eq_false (by omega)] at g1
  go_enter Try.func18, Try.ntmps18
  go_wp2_with (first | ((with_reducible refine gate_dst (N := 4) rfl ?_); refine box_event ?hg (N := 4) ?hd (cs := #[.float .f64 0, .float .f64 0]) (t := 26) ?hr ?_; (case hd => rfl); (case hg => rfl); (case hr => first | (go_simp; done) | (go_simp; rfl)); intro gR hg w1 hbox hb; have GR := Aside0.mk (hg ▸ below_size HB.out : w.heap.size ≤ gR); have m_HB := Aside0.mk (below_step HB.out hb); clear HB hb ; have HB := m_HB; clear m_HB hg ; have R := Aside0.mk hbox; clear hbox; obtain ⟨hcR0, hcR1, hfR0, hfR1⟩ := blk2 R.out) | ((with_reducible refine gate_dst (N := 11) rfl ?_); refine goesL_ (some 11) rfl rfl Try.func29 (by kernel_rfl) rfl #[.slice A l.length c] rfl (by (try simp only [List.map_toArray, List.map_cons, List.map_nil]); first | done | rfl) ?_; refine (wrong_calls A c l hl _ (Kd.C_below hr HB.out)).mono ?_; rintro e_ w3 ⟨rfl, hb⟩; refine ⟨_, rfl, ?_⟩; have m_R := Aside0.mk (blk_below R.out hb); have m_HB := Aside0.mk (below_step HB.out hb); clear HB hb R; have HB := m_HB; have R := m_R; clear m_HB m_R; obtain ⟨hcR0, hcR1, hfR0, hfR1⟩ := blk2 R.out) | ((with_reducible refine gate_calls (f := 22) ?_); refine (Right_calls x 0 hx0 (by decide) _).mono ?_; rintro e_ w3 ⟨rfl, hb⟩; (try dsimp only); have m_R := Aside0.mk (blk_below R.out hb); have m_HB := Aside0.mk (below_step HB.out hb); clear HB hb R; have HB := m_HB; have R := m_R; clear m_HB m_R; obtain ⟨hcR0, hcR1, hfR0, hfR1⟩ := blk2 R.out) | ((with_reducible refine gate_calls (f := 46) ?_); refine (Abs_calls x hx0 _).mono ?_; rintro e_ w3 ⟨rfl, hw3⟩; obtain rfl := hw3.symm; (try dsimp only)) | ((with_reducible refine gate_dst (N := 7) rfl ?_); refine box_event ?hg (N := 7) ?hd (cs := #[.float .f64 0, .float .f64 0]) (t := 48) ?hr ?_; (case hd => rfl); (case hg => rfl); (case hr => first | (go_simp; done) | (go_simp; rfl)); intro gS hg w1 hbox hb; have GS := Aside0.mk (hg ▸ below_size HB.out : w.heap.size ≤ gS); have NE_R_S := Aside0.mk (show gR ≠ gS from hg ▸ Nat.ne_of_lt (blk_lt R.out)); have m_R := Aside0.mk (blk_below R.out hb); have m_HB := Aside0.mk (below_step HB.out hb); clear HB hb R; have HB := m_HB; have R := m_R; clear m_HB hg m_R; have S := Aside0.mk hbox; clear hbox; obtain ⟨hcR0, hcR1, hfR0, hfR1⟩ := blk2 R.out; obtain ⟨hcS0, hcS1, hfS0, hfS1⟩ := blk2 S.out) | ((with_reducible refine gate_store (t := 48) (p := 7) rfl ?_); refine stored2 (t := 48) (p := 7) (v := ?voi) (x := .float .f64 0) (y := .float .f64 0) S.out ?hg ?ho ?hn ?hr ?_; (case ho => rfl); (case hg => rfl); (case hn => rfl); (case hr => first | (go_simp; done) | (go_simp; rfl)); intro w1 hbox hoth hlow; have m_R := Aside0.mk ((hoth _ NE_R_S.out).trans R.out); have m_HB := Aside0.mk (HB.out.trans (hlow.mono GS.out)); clear HB hoth hlow S R; have HB := m_HB; have S := Aside0.mk hbox; clear m_HB hbox; have R := m_R; clear m_R; obtain ⟨hcR0, hcR1, hfR0, hfR1⟩ := blk2 R.out; obtain ⟨hcS0, hcS1, hfS0, hfS1⟩ := blk2 S.out) | (simp only [h1, rt_fOk, hf, g1]; try go_simp))
  have hlen := okE_len h1
  go_loopg [32] (l.length + 1) (fun kq vv w' => ∃ (i a b : Nat), vv = .int .i64 (i : Int) ∧ Aside0 (i + kq = l.length + 1) ∧ Aside0 (i ≤ l.length) ∧ Aside0 (polyF x (a, b) (l.drop i) = some (s, t)) ∧ Aside0 (Below w.heap.size w w') ∧ Aside0 (w'.heap[gR]? = some (.cells #[.float .f64 0, .float .f64 0] 26 (0, 0))) ∧ Aside0 (w'.heap[gS]? = some (.cells #[.float .f64 a, .float .f64 b] 48 (0, 0))))
  case atStart => exact ⟨0, 0, 0, rfl, ⟨by omega⟩, ⟨Nat.zero_le _⟩, ⟨hF⟩, HB, R, S⟩
  case round =>
    have HX := fun (ad : Addr) (i : Nat) (w2 : World) (h : Kd.C kf w (some ad) l.length l) (p : i < l.length) (hb : Below w.heap.size w w2) => (show w2.cell? (ad.add i) = some (.float .f64 (at' l i)) from by
      obtain ⟨ad', e, hx⟩ := at_f (Kd.C_below h hb) (i : Int) (by omega) (by omega)
      cases e
      exact hx)
    clear HB R S
    obtain ⟨i, a, b, rfl, HK, HI, HS, HB, R, S⟩ := hrel
    obtain ⟨hcR0, hcR1, hfR0, hfR1⟩ := blk2 R.out
    obtain ⟨hcS0, hcS1, hfS0, hfS1⟩ := blk2 S.out
    cases gk with
    | zero => exact absurd HK.out (by have := HI.out; omega)
    | succ k1 =>
      by_cases c2 : i < l.length
      · have c2b : decide ((i : Int) < (l.length : Int)) = true := decide_eq_true (by omega)
        have p1 : 0 ≤ (i : Int) := by omega
        have q1 : (i : Int) < (l.length : Int) := by omega
        obtain ⟨ad, e, -⟩ := at_f hr (i : Int) p1 q1
        cases e
        replace HX := fun w2 hb => HX ad i w2 hr c2 hb
        have hx := HX _ HB.out
        replace p1 := eq_true p1
        replace q1 := eq_true q1
        obtain ⟨u, v, a', b', e1, e2, e3⟩ := polyF_step c2 HS.out
        go_wp2_with (first | ((with_reducible refine gate_dst (N := 38) rfl ?_); refine goesL_ (some 38) rfl rfl Try.func47 (by kernel_rfl) rfl #[.agg #[.float .f64 a, .float .f64 b], .float .f64 x] rfl (by (try simp only [List.map_toArray, List.map_cons, List.map_nil]); first | done | rfl) ?_; refine (times_calls a b x u v _ e1).mono ?_; rintro e_ w3 ⟨rfl, hb⟩; refine ⟨_, rfl, ?_⟩; have m_R := Aside0.mk (blk_below R.out hb); have m_S := Aside0.mk (blk_below S.out hb); have m_HB := Aside0.mk (below_step HB.out hb); clear HB hb R S; have HB := m_HB; have R := m_R; have S := m_S; clear m_HB m_R m_S; obtain ⟨hcR0, hcR1, hfR0, hfR1⟩ := blk2 R.out; obtain ⟨hcS0, hcS1, hfS0, hfS1⟩ := blk2 S.out) | ((with_reducible refine gate_dst (N := 41) rfl ?_); refine goesL_ (some 41) rfl rfl Try.func30 (by kernel_rfl) rfl #[.agg #[.float .f64 u, .float .f64 v], .agg #[.float .f64 (at' l i), .float .f64 0]] rfl (by (try simp only [List.map_toArray, List.map_cons, List.map_nil]); first | done | rfl) ?_; refine (add_calls u v (at' l i) 0 a' b' _ e2).mono ?_; rintro e_ w3 ⟨rfl, hb⟩; refine ⟨_, rfl, ?_⟩; have m_R := Aside0.mk (blk_below R.out hb); have m_S := Aside0.mk (blk_below S.out hb); have m_HB := Aside0.mk (below_step HB.out hb); clear HB hb R S; have HB := m_HB; have R := m_R; have S := m_S; clear m_HB m_R m_S; obtain ⟨hcR0, hcR1, hfR0, hfR1⟩ := blk2 R.out; obtain ⟨hcS0, hcS1, hfS0, hfS1⟩ := blk2 S.out) | ((with_reducible refine gate_store (t := 48) (p := 7) rfl ?_); refine stored2 (t := 48) (p := 7) (v := ?vos) (x := .float .f64 a') (y := .float .f64 b') S.out ?hg ?ho ?hn ?hr ?_; (case ho => rfl); (case hg => rfl); (case hn => rfl); (case hr => first | (go_simp; done) | (go_simp; rfl)); intro w1 hbox hoth hlow; have m_R := Aside0.mk ((hoth _ NE_R_S.out).trans R.out); have m_HB := Aside0.mk (HB.out.trans (hlow.mono GS.out)); clear HB hoth hlow S R; have HB := m_HB; have S := Aside0.mk hbox; clear m_HB hbox; have R := m_R; clear m_R; obtain ⟨hcR0, hcR1, hfR0, hfR1⟩ := blk2 R.out; obtain ⟨hcS0, hcS1, hfS0, hfS1⟩ := blk2 S.out))
        go_roundg k1
        case measure => have := HK.out; omega
        case rel => exact ⟨i + 1, a', b', (by first | rfl | rw [wrap_up (by omega)]), ⟨by have := HK.out; omega⟩, ⟨by omega⟩, ⟨e3⟩, HB, R, S⟩
      · have c2b : decide ((i : Int) < (l.length : Int)) = false := decide_eq_false (by omega)
        obtain ⟨rfl, rfl⟩ := polyF_end c2 HS.out
        go_wp2_with (first | ((with_reducible refine gate_store (t := 26) (p := 4) rfl ?_); refine stored2 (t := 26) (p := 4) (v := ?vor) (x := .float .f64 a) (y := .float .f64 b) R.out ?hg ?ho ?hn ?hr ?_; (case ho => rfl); (case hg => rfl); (case hn => rfl); (case hr => first | (go_simp; done) | (go_simp; rfl)); intro w1 hbox hoth hlow; have m_S := Aside0.mk ((hoth _ NE_R_S.out.symm).trans S.out); have m_HB := Aside0.mk (HB.out.trans (hlow.mono GR.out)); clear HB hoth hlow R S; have HB := m_HB; have R := Aside0.mk hbox; clear m_HB hbox; have S := m_S; clear m_S; obtain ⟨hcS0, hcS1, hfS0, hfS1⟩ := blk2 S.out; obtain ⟨hcR0, hcR1, hfR0, hfR1⟩ := blk2 R.out))
        refine bodyPost_ret (results_ct rfl _ _ gR 26 #[.float .f64 a, .float .f64 b] (0, 0) _ rfl R.out Try.underlying26 rfl (by kernel_rfl)) rfl ?_
        exact ⟨rfl, HB.out⟩

set_option maxHeartbeats 4000000 in
set_option maxRecDepth 100000 in
theorem Poly'_calls (A : Option Addr) (c : Nat) (l : List Nat) (hl : ∀ y ∈ l, y < 18446744073709551616) (x : Nat) (hx0 : x < 18446744073709551616) (s t : Nat) (er : Int) (w : World) (hr : Kd.C kf w A l.length l) (h : OutP l x s t er) :
    Calls Try.prog 19 #[.slice A l.length c, .float .f64 x] w fun e w' => e = .returned (rv s t er) ∧ Below w.heap.size w w' := by
  have hu26 := Try.underlying26
  have hu48 := Try.underlying48
  have HB := Aside0.mk (Below.refl w.heap.size w)
  rcases h with ⟨h1, h2, rfl, rfl⟩ | ⟨h1, h2, rfl, rfl, rfl⟩ | ⟨h1, h2, rfl, hF⟩
  · have n1 : (er != 0) = true := bne_iff_ne.2 h2
    have n2 : (er == 0) = false := beq_eq_false_iff_ne.2 h2
    go_enter Try.func19, Try.ntmps19
    go_wp2_with (first | ((with_reducible refine gate_dst (N := 4) rfl ?_); refine box_event ?hg (N := 4) ?hd (cs := #[.float .f64 0, .float .f64 0]) (t := 26) ?hr ?_; (case hd => rfl); (case hg => rfl); (case hr => first | (go_simp; done) | (go_simp; rfl)); intro gR hg w1 hbox hb; have GR := Aside0.mk (hg ▸ below_size HB.out : w.heap.size ≤ gR); have m_HB := Aside0.mk (below_step HB.out hb); clear HB hb ; have HB := m_HB; clear m_HB hg ; have R := Aside0.mk hbox; clear hbox; obtain ⟨hcR0, hcR1, hfR0, hfR1⟩ := blk2 R.out) | ((with_reducible refine gate_dst (N := 10) rfl ?_); refine goesL_ (some 10) rfl rfl Try.func44 (by kernel_rfl) rfl #[.slice A l.length c] rfl (by (try simp only [List.map_toArray, List.map_cons, List.map_nil]); first | done | rfl) ?_; refine (floats_calls A c l hl _ (Kd.C_below hr HB.out)).mono ?_; rintro e_ w3 ⟨rfl, hb⟩; refine ⟨_, rfl, ?_⟩; have m_R := Aside0.mk (blk_below R.out hb); have m_HB := Aside0.mk (below_step HB.out hb); clear HB hb R; have HB := m_HB; have R := m_R; clear m_HB m_R; obtain ⟨hcR0, hcR1, hfR0, hfR1⟩ := blk2 R.out) | ((with_reducible refine gate_store (t := 26) (p := 4) rfl ?_); refine stored2 (t := 26) (p := 4) (v := ?voz) (x := .float .f64 0) (y := .float .f64 0) R.out ?hg ?ho ?hn ?hr ?_; (case ho => rfl); (case hg => rfl); (case hn => rfl); (case hr => first | (go_simp; done) | (go_simp; rfl)); intro w1 hbox hoth hlow; have m_HB := Aside0.mk (HB.out.trans (hlow.mono GR.out)); clear HB hoth hlow R ; have HB := m_HB; have R := Aside0.mk hbox; clear m_HB hbox; obtain ⟨hcR0, hcR1, hfR0, hfR1⟩ := blk2 R.out) | (simp only [h1, n1, n2]; try go_simp))
    refine bodyPost_ret (results_ct rfl _ _ gR 26 #[.float .f64 0, .float .f64 0] (0, 0) _ rfl R.out Try.underlying26 rfl (by kernel_rfl)) rfl ?_
    exact ⟨rfl, HB.out⟩
  · cases hf : fOk x
    · go_enter Try.func19, Try.ntmps19
      go_wp2_with (first | ((with_reducible refine gate_dst (N := 4) rfl ?_); refine box_event ?hg (N := 4) ?hd (cs := #[.float .f64 0, .float .f64 0]) (t := 26) ?hr ?_; (case hd => rfl); (case hg => rfl); (case hr => first | (go_simp; done) | (go_simp; rfl)); intro gR hg w1 hbox hb; have GR := Aside0.mk (hg ▸ below_size HB.out : w.heap.size ≤ gR); have m_HB := Aside0.mk (below_step HB.out hb); clear HB hb ; have HB := m_HB; clear m_HB hg ; have R := Aside0.mk hbox; clear hbox; obtain ⟨hcR0, hcR1, hfR0, hfR1⟩ := blk2 R.out) | ((with_reducible refine gate_dst (N := 10) rfl ?_); refine goesL_ (some 10) rfl rfl Try.func44 (by kernel_rfl) rfl #[.slice A l.length c] rfl (by (try simp only [List.map_toArray, List.map_cons, List.map_nil]); first | done | rfl) ?_; refine (floats_calls A c l hl _ (Kd.C_below hr HB.out)).mono ?_; rintro e_ w3 ⟨rfl, hb⟩; refine ⟨_, rfl, ?_⟩; have m_R := Aside0.mk (blk_below R.out hb); have m_HB := Aside0.mk (below_step HB.out hb); clear HB hb R; have HB := m_HB; have R := m_R; clear m_HB m_R; obtain ⟨hcR0, hcR1, hfR0, hfR1⟩ := blk2 R.out) | ((with_reducible refine gate_calls (f := 48) ?_); refine (float_calls x hx0 _).mono ?_; rintro e_ w3 ⟨rfl, hw3⟩; obtain rfl := hw3.symm; (try dsimp only)) | ((with_reducible refine gate_store (t := 26) (p := 4) rfl ?_); refine stored2 (t := 26) (p := 4) (v := ?voz2) (x := .float .f64 0) (y := .float .f64 0) R.out ?hg ?ho ?hn ?hr ?_; (case ho => rfl); (case hg => rfl); (case hn => rfl); (case hr => first | (go_simp; done) | (go_simp; rfl)); intro w1 hbox hoth hlow; have m_HB := Aside0.mk (HB.out.trans (hlow.mono GR.out)); clear HB hoth hlow R ; have HB := m_HB; have R := Aside0.mk hbox; clear m_HB hbox; obtain ⟨hcR0, hcR1, hfR0, hfR1⟩ := blk2 R.out) | (simp only [h1, hf]; try go_simp))
      refine bodyPost_ret (results_ct rfl _ _ gR 26 #[.float .f64 0, .float .f64 0] (0, 0) _ rfl R.out Try.underlying26 rfl (by kernel_rfl)) rfl ?_
      exact ⟨rfl, HB.out⟩
    · have hgt : ¬ rg x ≤ 4607182418800017408 := fun e => by
        unfold okX at h2; rw [hf, decide_eq_true e] at h2; cases h2
      obtain ⟨g0, g9⟩ := far_one x hf
      rw [decide_eq_true (by omega : ¬ rg x ≤ 4607182418800017408)] at g9
      cases g1 : (dOrd x 4607182418800017408 == some .gt)
      · have g2 : (dOrd x 13830554455654793216 == some .lt) = true := by rw [g1] at g9; exact g9
        go_enter Try.func19, Try.ntmps19
        go_wp2_with (first | ((with_reducible refine gate_dst (N := 4) rfl ?_); refine box_event ?hg (N := 4) ?hd (cs := #[.float .f64 0, .float .f64 0]) (t := 26) ?hr ?_; (case hd => rfl); (case hg => rfl); (case hr => first | (go_simp; done) | (go_simp; rfl)); intro gR hg w1 hbox hb; have GR := Aside0.mk (hg ▸ below_size HB.out : w.heap.size ≤ gR); have m_HB := Aside0.mk (below_step HB.out hb); clear HB hb ; have HB := m_HB; clear m_HB hg ; have R := Aside0.mk hbox; clear hbox; obtain ⟨hcR0, hcR1, hfR0, hfR1⟩ := blk2 R.out) | ((with_reducible refine gate_dst (N := 10) rfl ?_); refine goesL_ (some 10) rfl rfl Try.func44 (by kernel_rfl) rfl #[.slice A l.length c] rfl (by (try simp only [List.map_toArray, List.map_cons, List.map_nil]); first | done | rfl) ?_; refine (floats_calls A c l hl _ (Kd.C_below hr HB.out)).mono ?_; rintro e_ w3 ⟨rfl, hb⟩; refine ⟨_, rfl, ?_⟩; have m_R := Aside0.mk (blk_below R.out hb); have m_HB := Aside0.mk (below_step HB.out hb); clear HB hb R; have HB := m_HB; have R := m_R; clear m_HB m_R; obtain ⟨hcR0, hcR1, hfR0, hfR1⟩ := blk2 R.out) | ((with_reducible refine gate_calls (f := 48) ?_); refine (float_calls x hx0 _).mono ?_; rintro e_ w3 ⟨rfl, hw3⟩; obtain rfl := hw3.symm; (try dsimp only)) | ((with_reducible refine gate_store (t := 26) (p := 4) rfl ?_); refine stored2 (t := 26) (p := 4) (v := ?voz3) (x := .float .f64 0) (y := .float .f64 0) R.out ?hg ?ho ?hn ?hr ?_; (case ho => rfl); (case hg => rfl); (case hn => rfl); (case hr => first | (go_simp; done) | (go_simp; rfl)); intro w1 hbox hoth hlow; have m_HB := Aside0.mk (HB.out.trans (hlow.mono GR.out)); clear HB hoth hlow R ; have HB := m_HB; have R := Aside0.mk hbox; clear m_HB hbox; obtain ⟨hcR0, hcR1, hfR0, hfR1⟩ := blk2 R.out) | (simp only [h1, hf, g1, g2]; try go_simp))
        refine bodyPost_ret (results_ct rfl _ _ gR 26 #[.float .f64 0, .float .f64 0] (0, 0) _ rfl R.out Try.underlying26 rfl (by kernel_rfl)) rfl ?_
        exact ⟨rfl, HB.out⟩
      · go_enter Try.func19, Try.ntmps19
        go_wp2_with (first | ((with_reducible refine gate_dst (N := 4) rfl ?_); refine box_event ?hg (N := 4) ?hd (cs := #[.float .f64 0, .float .f64 0]) (t := 26) ?hr ?_; (case hd => rfl); (case hg => rfl); (case hr => first | (go_simp; done) | (go_simp; rfl)); intro gR hg w1 hbox hb; have GR := Aside0.mk (hg ▸ below_size HB.out : w.heap.size ≤ gR); have m_HB := Aside0.mk (below_step HB.out hb); clear HB hb ; have HB := m_HB; clear m_HB hg ; have R := Aside0.mk hbox; clear hbox; obtain ⟨hcR0, hcR1, hfR0, hfR1⟩ := blk2 R.out) | ((with_reducible refine gate_dst (N := 10) rfl ?_); refine goesL_ (some 10) rfl rfl Try.func44 (by kernel_rfl) rfl #[.slice A l.length c] rfl (by (try simp only [List.map_toArray, List.map_cons, List.map_nil]); first | done | rfl) ?_; refine (floats_calls A c l hl _ (Kd.C_below hr HB.out)).mono ?_; rintro e_ w3 ⟨rfl, hb⟩; refine ⟨_, rfl, ?_⟩; have m_R := Aside0.mk (blk_below R.out hb); have m_HB := Aside0.mk (below_step HB.out hb); clear HB hb R; have HB := m_HB; have R := m_R; clear m_HB m_R; obtain ⟨hcR0, hcR1, hfR0, hfR1⟩ := blk2 R.out) | ((with_reducible refine gate_calls (f := 48) ?_); refine (float_calls x hx0 _).mono ?_; rintro e_ w3 ⟨rfl, hw3⟩; obtain rfl := hw3.symm; (try dsimp only)) | ((with_reducible refine gate_store (t := 26) (p := 4) rfl ?_); refine stored2 (t := 26) (p := 4) (v := ?voz4) (x := .float .f64 0) (y := .float .f64 0) R.out ?hg ?ho ?hn ?hr ?_; (case ho => rfl); (case hg => rfl); (case hn => rfl); (case hr => first | (go_simp; done) | (go_simp; rfl)); intro w1 hbox hoth hlow; have m_HB := Aside0.mk (HB.out.trans (hlow.mono GR.out)); clear HB hoth hlow R ; have HB := m_HB; have R := Aside0.mk hbox; clear m_HB hbox; obtain ⟨hcR0, hcR1, hfR0, hfR1⟩ := blk2 R.out) | (simp only [h1, hf, g1]; try go_simp))
        refine bodyPost_ret (results_ct rfl _ _ gR 26 #[.float .f64 0, .float .f64 0] (0, 0) _ rfl R.out Try.underlying26 rfl (by kernel_rfl)) rfl ?_
        exact ⟨rfl, HB.out⟩
  obtain ⟨hf, hle⟩ : fOk x = true ∧ rg x ≤ 4607182418800017408 := by
    unfold okX at h2
    obtain ⟨q1, q2⟩ := Bool.and_eq_true_iff.1 h2
    exact ⟨q1, of_decide_eq_true q2⟩
  obtain ⟨g0, g9⟩ := far_one x hf
  rw [decide_eq_false (by omega : ¬ ¬ rg x ≤ 4607182418800017408)] at g9
  obtain ⟨g1, g2⟩ := Bool.or_eq_false_iff.1 g9
  go_enter Try.func19, Try.ntmps19
  go_wp2_with (first | ((with_reducible refine gate_dst (N := 4) rfl ?_); refine box_event ?hg (N := 4) ?hd (cs := #[.float .f64 0, .float .f64 0]) (t := 26) ?hr ?_; (case hd => rfl); (case hg => rfl); (case hr => first | (go_simp; done) | (go_simp; rfl)); intro gR hg w1 hbox hb; have GR := Aside0.mk (hg ▸ below_size HB.out : w.heap.size ≤ gR); have m_HB := Aside0.mk (below_step HB.out hb); clear HB hb ; have HB := m_HB; clear m_HB hg ; have R := Aside0.mk hbox; clear hbox; obtain ⟨hcR0, hcR1, hfR0, hfR1⟩ := blk2 R.out) | ((with_reducible refine gate_dst (N := 10) rfl ?_); refine goesL_ (some 10) rfl rfl Try.func44 (by kernel_rfl) rfl #[.slice A l.length c] rfl (by (try simp only [List.map_toArray, List.map_cons, List.map_nil]); first | done | rfl) ?_; refine (floats_calls A c l hl _ (Kd.C_below hr HB.out)).mono ?_; rintro e_ w3 ⟨rfl, hb⟩; refine ⟨_, rfl, ?_⟩; have m_R := Aside0.mk (blk_below R.out hb); have m_HB := Aside0.mk (below_step HB.out hb); clear HB hb R; have HB := m_HB; have R := m_R; clear m_HB m_R; obtain ⟨hcR0, hcR1, hfR0, hfR1⟩ := blk2 R.out) | ((with_reducible refine gate_calls (f := 48) ?_); refine (float_calls x hx0 _).mono ?_; rintro e_ w3 ⟨rfl, hw3⟩; obtain rfl := hw3.symm; (try dsimp only)) | ((with_reducible refine gate_dst (N := 7) rfl ?_); refine box_event ?hg (N := 7) ?hd (cs := #[.float .f64 0, .float .f64 0]) (t := 26) ?hr ?_; (case hd => rfl); (case hg => rfl); (case hr => first | (go_simp; done) | (go_simp; rfl)); intro gS hg w1 hbox hb; have GS := Aside0.mk (hg ▸ below_size HB.out : w.heap.size ≤ gS); have NE_R_S := Aside0.mk (show gR ≠ gS from hg ▸ Nat.ne_of_lt (blk_lt R.out)); have m_R := Aside0.mk (blk_below R.out hb); have m_HB := Aside0.mk (below_step HB.out hb); clear HB hb R; have HB := m_HB; have R := m_R; clear m_HB hg m_R; have S := Aside0.mk hbox; clear hbox; obtain ⟨hcR0, hcR1, hfR0, hfR1⟩ := blk2 R.out; obtain ⟨hcS0, hcS1, hfS0, hfS1⟩ := blk2 S.out) | ((with_reducible refine gate_store (t := 26) (p := 7) rfl ?_); refine stored2 (t := 26) (p := 7) (v := ?voi) (x := .float .f64 0) (y := .float .f64 0) S.out ?hg ?ho ?hn ?hr ?_; (case ho => rfl); (case hg => rfl); (case hn => rfl); (case hr => first | (go_simp; done) | (go_simp; rfl)); intro w1 hbox hoth hlow; have m_R := Aside0.mk ((hoth _ NE_R_S.out).trans R.out); have m_HB := Aside0.mk (HB.out.trans (hlow.mono GS.out)); clear HB hoth hlow S R; have HB := m_HB; have S := Aside0.mk hbox; clear m_HB hbox; have R := m_R; clear m_R; obtain ⟨hcR0, hcR1, hfR0, hfR1⟩ := blk2 R.out; obtain ⟨hcS0, hcS1, hfS0, hfS1⟩ := blk2 S.out) | (simp only [h1, hf, g1, g2]; try go_simp))
  have hlen := okE_len h1
  go_loopg [8] (l.length + 1) (fun kq vv w' => ∃ (i a b : Nat), vv = .int .i64 (i : Int) ∧ Aside0 (i + kq = l.length + 1) ∧ Aside0 (i ≤ l.length) ∧ Aside0 (polyF x (a, b) (l.drop i) = some (s, t)) ∧ Aside0 (Below w.heap.size w w') ∧ Aside0 (w'.heap[gR]? = some (.cells #[.float .f64 0, .float .f64 0] 26 (0, 0))) ∧ Aside0 (w'.heap[gS]? = some (.cells #[.float .f64 a, .float .f64 b] 26 (0, 0))))
  case atStart => exact ⟨0, 0, 0, rfl, ⟨by omega⟩, ⟨Nat.zero_le _⟩, ⟨hF⟩, HB, R, S⟩
  case round =>
    have HX := fun (ad : Addr) (i : Nat) (w2 : World) (h : Kd.C kf w (some ad) l.length l) (p : i < l.length) (hb : Below w.heap.size w w2) => (show w2.cell? (ad.add i) = some (.float .f64 (at' l i)) from by
      obtain ⟨ad', e, hx⟩ := at_f (Kd.C_below h hb) (i : Int) (by omega) (by omega)
      cases e
      exact hx)
    clear HB R S
    obtain ⟨i, a, b, rfl, HK, HI, HS, HB, R, S⟩ := hrel
    obtain ⟨hcR0, hcR1, hfR0, hfR1⟩ := blk2 R.out
    obtain ⟨hcS0, hcS1, hfS0, hfS1⟩ := blk2 S.out
    cases gk with
    | zero => exact absurd HK.out (by have := HI.out; omega)
    | succ k1 =>
      by_cases c2 : i < l.length
      · have c2b : decide ((i : Int) < (l.length : Int)) = true := decide_eq_true (by omega)
        have p1 : 0 ≤ (i : Int) := by omega
        have q1 : (i : Int) < (l.length : Int) := by omega
        obtain ⟨ad, e, -⟩ := at_f hr (i : Int) p1 q1
        cases e
        replace HX := fun w2 hb => HX ad i w2 hr c2 hb
        have hx := HX _ HB.out
        replace p1 := eq_true p1
        replace q1 := eq_true q1
        obtain ⟨u, v, a', b', e1, e2, e3⟩ := polyF_step c2 HS.out
        try go_wp2
        refine start_ (n := 10) (S := fun w' => w'.cell? ⟨gS, 0, none⟩ = some (.float .f64 a) ∧ w'.cell? ⟨gS, 1, none⟩ = some (.float .f64 b) ∧ w'.cell? (ad.add i) = some (.float .f64 (at' l i))) (ds := [9]) #[false, false, false, false, false, false, false, false, false, false] (by kernel_rfl) rfl rfl ⟨hcS0, hcS1, (HX _ (below_drew HB.out))⟩ (fun hHeld => ?_)
        have m_R := Aside0.mk (show wr.drew.heap[gR]? = _ from R.out)
        have m_S := Aside0.mk (show wr.drew.heap[gS]? = _ from S.out)
        have m_HB := Aside0.mk (show Below w.heap.size w wr.drew from below_drew HB.out)
        clear HB R S
        have HB := m_HB
        have R := m_R
        have S := m_S
        clear m_HB m_R m_S
        generalize wr.drew = w8 at HB R S hHeld ⊢
        obtain ⟨hcR0, hcR1, hfR0, hfR1⟩ := blk2 R.out; obtain ⟨hcS0, hcS1, hfS0, hfS1⟩ := blk2 S.out
        refine take_ (i := 0) (N := some 37) (v := ?_) (a' := ?_) #[true, false, false, false, false, false, false, false, false, false] rfl rfl (by kernel_rfl) (fun _ _ _ h => h) (Or.inl ⟨by rfl, ?_⟩) hHeld ?_ ?_
        rotate_left
        · rintro w' ⟨s0, s1, s2⟩
          go_simp
          with_reducible rfl
        rotate_left
        · simp only [Act.put, List.setIfInBounds_toArray, List.set_cons_zero, List.set_cons_succ, i64_w, i32_w]
          rfl
        refine take_ (i := 1) (N := some 38) (v := ?_) (a' := ?_) #[true, true, false, false, false, false, false, false, false, false] rfl rfl (by kernel_rfl) (fun _ _ _ h => h) (Or.inl ⟨by rfl, ?_⟩) hHeld ?_ ?_
        rotate_left
        · rintro w' ⟨s0, s1, s2⟩
          go_simp
          with_reducible rfl
        rotate_left
        · simp only [Act.put, List.setIfInBounds_toArray, List.set_cons_zero, List.set_cons_succ, i64_w, i32_w]
          rfl
        refine take_ (i := 3) (N := some 40) (v := ?_) (a' := ?_) #[true, true, false, true, false, false, false, false, false, false] rfl rfl (by kernel_rfl) (fun _ _ _ h => h) (Or.inl ⟨by rfl, ?_⟩) hHeld ?_ ?_
        rotate_left
        · rintro w' ⟨s0, s1, s2⟩
          go_simp
          with_reducible rfl
        rotate_left
        · simp only [Act.put, List.setIfInBounds_toArray, List.set_cons_zero, List.set_cons_succ, i64_w, i32_w]
          rfl
        refine take_ (i := 4) (N := some 41) (v := ?_) (a' := ?_) #[true, true, false, true, true, false, false, false, false, false] rfl rfl (by kernel_rfl) (fun _ _ _ h => h) (Or.inl ⟨by rfl, ?_⟩) hHeld ?_ ?_
        rotate_left
        · rintro w' ⟨s0, s1, s2⟩
          go_simp
          with_reducible rfl
        rotate_left
        · simp only [Act.put, List.setIfInBounds_toArray, List.set_cons_zero, List.set_cons_succ, i64_w, i32_w]
          rfl
        refine take_ (i := 5) (N := some 42) (v := ?_) (a' := ?_) #[true, true, false, true, true, true, false, false, false, false] rfl rfl (by kernel_rfl) (fun _ _ _ h => h) (Or.inl ⟨by rfl, ?_⟩) hHeld ?_ ?_
        rotate_left
        · rintro w' ⟨s0, s1, s2⟩
          go_simp
          with_reducible rfl
        rotate_left
        · simp only [Act.put, List.setIfInBounds_toArray, List.set_cons_zero, List.set_cons_succ, i64_w, i32_w]
          rfl
        refine take_ (i := 6) (N := some 43) (v := ?_) (a' := ?_) #[true, true, false, true, true, true, true, false, false, false] rfl rfl (by kernel_rfl) (fun _ _ _ h => h) (Or.inl ⟨by rfl, ?_⟩) hHeld ?_ ?_
        rotate_left
        · rintro w' ⟨s0, s1, s2⟩
          go_simp
          with_reducible rfl
        rotate_left
        · simp only [Act.put, List.setIfInBounds_toArray, List.set_cons_zero, List.set_cons_succ, i64_w, i32_w]
          rfl
        refine take_ (i := 7) (N := some 44) (v := ?_) (a' := ?_) #[true, true, false, true, true, true, true, true, false, false] rfl rfl (by kernel_rfl) (fun _ _ _ h => h) (Or.inl ⟨by rfl, ?_⟩) hHeld ?_ ?_
        rotate_left
        · rintro w' ⟨s0, s1, s2⟩
          go_simp
          with_reducible rfl
        rotate_left
        · simp only [Act.put, List.setIfInBounds_toArray, List.set_cons_zero, List.set_cons_succ, i64_w, i32_w]
          rfl
        refine one_ (i := 2) (N := some 39) #[true, true, true, true, true, true, true, true, false, false] rfl rfl (by kernel_rfl) (by decide) (fun K hK => ?_)
        refine goes_ Try.func49 (by kernel_rfl) rfl #[.agg #[.float .f64 a, .float .f64 b], .float .f64 x] (by rfl) rfl rfl (by (try simp only [List.map_toArray, List.map_cons, List.map_nil]); first | done | rfl) ?_
        refine (By_calls a b x u v _ e1).mono ?_
        rintro e_ w3 ⟨rfl, hb⟩
        refine ⟨_, rfl, ?_⟩
        have m_R := Aside0.mk (blk_below R.out hb)
        have m_S := Aside0.mk (blk_below S.out hb)
        have m_HB := Aside0.mk (below_step HB.out hb)
        clear HB hb hHeld R S
        have HB := m_HB
        have R := m_R
        have S := m_S
        clear m_HB m_R m_S
        obtain ⟨hcR0, hcR1, hfR0, hfR1⟩ := blk2 R.out; obtain ⟨hcS0, hcS1, hfS0, hfS1⟩ := blk2 S.out
        refine hK.out _ _ ⟨hcS0, hcS1, (HX _ HB.out)⟩ (fun hHeld => ?_)
        clear hK K
        refine norm_ (a' := ?_) ?_ ?_
        rotate_left
        · show Act.put _ (some 39) _ = _
          simp only [Act.put, List.setIfInBounds_toArray, List.set_cons_zero, List.set_cons_succ, i64_w, i32_w]
          rfl
        refine one_ (i := 8) (N := some 45) #[true, true, true, true, true, true, true, true, true, false] rfl rfl (by kernel_rfl) (by decide) (fun K hK => ?_)
        refine goes_ Try.func45 (by kernel_rfl) rfl #[.agg #[.float .f64 u, .float .f64 v], .agg #[.float .f64 (at' l i), .float .f64 0]] (by rfl) rfl rfl (by (try simp only [List.map_toArray, List.map_cons, List.map_nil]); first | done | rfl) ?_
        refine (Plus_calls u v (at' l i) 0 a' b' _ e2).mono ?_
        rintro e_ w3 ⟨rfl, hb⟩
        refine ⟨_, rfl, ?_⟩
        have m_R := Aside0.mk (blk_below R.out hb)
        have m_S := Aside0.mk (blk_below S.out hb)
        have m_HB := Aside0.mk (below_step HB.out hb)
        clear HB hb hHeld R S
        have HB := m_HB
        have R := m_R
        have S := m_S
        clear m_HB m_R m_S
        obtain ⟨hcR0, hcR1, hfR0, hfR1⟩ := blk2 R.out; obtain ⟨hcS0, hcS1, hfS0, hfS1⟩ := blk2 S.out
        refine hK.out _ _ ⟨hcS0, hcS1, (HX _ HB.out)⟩ (fun hHeld => ?_)
        clear hK K
        refine norm_ (a' := ?_) ?_ ?_
        rotate_left
        · show Act.put _ (some 45) _ = _
          simp only [Act.put, List.setIfInBounds_toArray, List.set_cons_zero, List.set_cons_succ, i64_w, i32_w]
          rfl
        refine last_ (i := 9) (N := none) #[true, true, true, true, true, true, true, true, true, true] rfl rfl (by kernel_rfl) (by decide) (fun K hK => ?_)
        refine stored2K (x := .float .f64 a') (y := .float .f64 b') S.out (by rfl) rfl (by first | (go_simp; done) | (go_simp; rfl)) (fun w1 hbox hoth hlow => ?_)
        have m_R := Aside0.mk ((hoth _ NE_R_S.out).trans R.out)
        have m_HB := Aside0.mk (HB.out.trans (hlow.mono GS.out))
        clear HB hoth hlow hHeld R S
        have HB := m_HB
        have S := Aside0.mk hbox
        have R := m_R
        clear m_HB hbox m_R
        obtain ⟨hcR0, hcR1, hfR0, hfR1⟩ := blk2 R.out; obtain ⟨hcS0, hcS1, hfS0, hfS1⟩ := blk2 S.out
        refine hK.out _ _ ?_
        clear hK K
        refine done_ (by kernel_rfl) ?_
        try go_wp2
        go_roundg k1
        case measure => have := HK.out; omega
        case rel => exact ⟨i + 1, a', b', (by first | rfl | rw [wrap_up (by omega)]), ⟨by have := HK.out; omega⟩, ⟨by omega⟩, ⟨e3⟩, HB, R, S⟩
      · have c2b : decide ((i : Int) < (l.length : Int)) = false := decide_eq_false (by omega)
        obtain ⟨rfl, rfl⟩ := polyF_end c2 HS.out
        go_wp2_with (first | ((with_reducible refine gate_store (t := 26) (p := 4) rfl ?_); refine stored2 (t := 26) (p := 4) (v := ?vor) (x := .float .f64 a) (y := .float .f64 b) R.out ?hg ?ho ?hn ?hr ?_; (case ho => rfl); (case hg => rfl); (case hn => rfl); (case hr => first | (go_simp; done) | (go_simp; rfl)); intro w1 hbox hoth hlow; have m_S := Aside0.mk ((hoth _ NE_R_S.out.symm).trans S.out); have m_HB := Aside0.mk (HB.out.trans (hlow.mono GR.out)); clear HB hoth hlow R S; have HB := m_HB; have R := Aside0.mk hbox; clear m_HB hbox; have S := m_S; clear m_S; obtain ⟨hcS0, hcS1, hfS0, hfS1⟩ := blk2 S.out; obtain ⟨hcR0, hcR1, hfR0, hfR1⟩ := blk2 R.out))
        refine bodyPost_ret (results_ct rfl _ _ gR 26 #[.float .f64 a, .float .f64 b] (0, 0) _ rfl R.out Try.underlying26 rfl (by kernel_rfl)) rfl ?_
        exact ⟨rfl, HB.out⟩
end Go.Proofs.Yteaghcchalfgmaa.PAll
