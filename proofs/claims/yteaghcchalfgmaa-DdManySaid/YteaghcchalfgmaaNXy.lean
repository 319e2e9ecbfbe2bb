/- The statement on many floats, walked. -/
import Derived.Test.YteaghcchalfgmaaNXx
namespace Go.Proofs.Yteaghcchalfgmaa.PAll
open Go.RowKit Go.Proofs.YteaghcchalfgmaaW.PrintWords Go.Proofs.YteaghcchalfgmaaW.PrintLast Go.Proofs.YteaghcchalfgmaaW.PrintMore
open Go.Proofs.Yteaghcchalfgmaa.Nm Ieee
set_option linter.unusedVariables false
set_option linter.unusedSimpArgs false
attribute [local go_sem] run_store_float ext32 ext60 un_neg

theorem info24 : (Try.prog.info? 24).map (fun i => (i.zero, i.size, i.bytes)) = some (some (.float .f64 0), 1, 8) := by kernel_rfl
theorem wrap_up2 {i : Nat} (h : i ≤ 140737488351232) : wrap64 ((i : Int) + 1) = ((i + 1 : Nat) : Int) := by
  unfold wrap64; omega
set_option maxHeartbeats 8000000 in
set_option maxRecDepth 100000 in
theorem DdMany_calls (A : Option Addr) (c : Nat) (l : List Nat) (hl : ∀ y ∈ l, y < 18446744073709551616) (x : Nat) (hx0 : x < 18446744073709551616) (s1 t1 : Nat) (z1 : Int) (s2 t2 : Nat) (z2 : Int) (o1 : OutS l s1 t1 z1) (o2 : OutP l x s2 t2 z2) (q1 : (sEq s1 s1 && sEq t1 t1) = true) (q2 : (sEq s2 s2 && sEq t2 t2) = true) (hlen : l.length * 8 ≤ 140737488351232) (w : World) (hr : Kd.C kf w A l.length l) :
    Calls Try.prog 4 #[.slice A l.length c, .float .f64 x] w fun e w' => e = .returned (.bool true) ∧ Below w.heap.size w w' := by
  have hu26 := Try.underlying26
  go_enter Try.func4, Try.ntmps4
  go_wp2_with (first | ((with_reducible refine gate_dst (N := 15) rfl ?_); refine Kd.R_lit kf _ 24 ?hg (N := 15) ?hd (xs := ([] : List Nat)) (inner := []) (ok := fun _ => True) (okp := fun _ => True) ?hr ?hp (fun _ hk => hk) trivial (Below.refl _ _) (Nat.le_refl _) (by simp) ?_; (case hd => rfl); (case hg => rfl); (case hr => first | (go_simp; done) | (go_simp; rfl)); (case hp => exact Reps.none _ _); intro v0 wL hoL hbL hgL hnL; clear hgL hnL) | ((with_reducible refine gate_builtin (b := .append) (xs := #[.tmp 15, .tmp 16]) rfl ?_); at_builtin; refine Kd.R_append_rows kf (w0 := w) w.heap.size rfl (.tmp 15) (.tmp 16) 22 24 (.float .f64 0) 8 rfl Try.underlying22 info24 rfl (by decide) (by omega) v0 ([] : List Nat) l _ _ _ (fun _ => True) (fun _ => False) rfl rfl ?aO ?aR (fun _ _ h => h) (fun _ h => h.elim) ?aF ?aB ?aS ?aL ?_; (case aR => exact Kd.C_below hr hbL); (case aB => exact hbL); (case aF => exact (fun _ _ => trivial)); (case aO => exact hoL); (case aS => exact below_size hbL); (case aL => simp only [List.length_nil]; omega); intro v1 wA hoA hbA hgA hatA; clear hgA hatA hoL hbL; obtain ⟨A1, c1, rfl, hc1, hr1⟩ := Kd.R_reads hoA; simp only [List.nil_append] at hr1; clear hoA; have hrA := Kd.C_below hr hbA; have HB := Aside0.mk (Below.refl wA.heap.size wA)) | ((with_reducible refine gate_dst (N := 20) rfl ?_); refine goesL_ (some 20) rfl rfl Try.func8 (by kernel_rfl) rfl #[.slice A1 l.length c1] rfl (by (try simp only [List.map_toArray, List.map_cons, List.map_nil]); first | done | rfl) ?_; refine (Sum_calls A1 c1 l hl s1 t1 z1 _ (Kd.C_below hr1 HB.out) o1).mono ?_; rintro e_ w3 ⟨rfl, hb⟩; refine ⟨_, rfl, ?_⟩; have m_HB := Aside0.mk (below_step HB.out hb); clear HB hb ; have HB := m_HB; clear m_HB ) | ((with_reducible refine gate_dst (N := 6) rfl ?_); refine box_event ?hg (N := 6) ?hd (cs := #[.float .f64 0, .float .f64 0]) (t := 26) ?hr ?_; (case hd => rfl); (case hg => rfl); (case hr => first | (go_simp; done) | (go_simp; rfl)); intro gE hg w1 hbox hb; have GE := Aside0.mk (hg ▸ below_size HB.out : wA.heap.size ≤ gE); have m_HB := Aside0.mk (below_step HB.out hb); clear HB hb ; have HB := m_HB; clear m_HB hg ; have E := Aside0.mk hbox; clear hbox; obtain ⟨hcE0, hcE1, hfE0, hfE1⟩ := blk2 E.out) | ((with_reducible refine gate_store (t := 26) (p := 6) rfl ?_); refine stored2 (t := 26) (p := 6) (v := ?vo6) (x := .float .f64 s1) (y := .float .f64 t1) E.out ?hg ?ho ?hn ?hr ?_; (case ho => rfl); (case hg => rfl); (case hn => rfl); (case hr => first | (go_simp; done) | (go_simp; rfl)); intro w1 hbox hoth hlow; have m_HB := Aside0.mk (HB.out.trans (hlow.mono GE.out)); clear HB hoth hlow E ; have HB := m_HB; have E := Aside0.mk hbox; clear m_HB hbox; obtain ⟨hcE0, hcE1, hfE0, hfE1⟩ := blk2 E.out) | ((with_reducible refine gate_dst (N := 25) rfl ?_); refine goesL_ (some 25) rfl rfl Try.func17 (by kernel_rfl) rfl #[.slice A l.length c] rfl (by (try simp only [List.map_toArray, List.map_cons, List.map_nil]); first | done | rfl) ?_; refine (Sum'_calls A c l hl s1 t1 z1 _ (Kd.C_below hrA HB.out) o1).mono ?_; rintro e_ w3 ⟨rfl, hb⟩; refine ⟨_, rfl, ?_⟩; have m_E := Aside0.mk (blk_below E.out hb); have m_HB := Aside0.mk (below_step HB.out hb); clear HB hb E; have HB := m_HB; have E := m_E; clear m_HB m_E; obtain ⟨hcE0, hcE1, hfE0, hfE1⟩ := blk2 E.out) | ((with_reducible refine gate_dst (N := 8) rfl ?_); refine box_event ?hg (N := 8) ?hd (cs := #[.float .f64 0, .float .f64 0]) (t := 26) ?hr ?_; (case hd => rfl); (case hg => rfl); (case hr => first | (go_simp; done) | (go_simp; rfl)); intro gF hg w1 hbox hb; have GF := Aside0.mk (hg ▸ below_size HB.out : wA.heap.size ≤ gF); have NE_E_F := Aside0.mk (show gE ≠ gF from hg ▸ Nat.ne_of_lt (blk_lt E.out)); have m_E := Aside0.mk (blk_below E.out hb); have m_HB := Aside0.mk (below_step HB.out hb); clear HB hb E; have HB := m_HB; have E := m_E; clear m_HB hg m_E; have F := Aside0.mk hbox; clear hbox; obtain ⟨hcE0, hcE1, hfE0, hfE1⟩ := blk2 E.out; obtain ⟨hcF0, hcF1, hfF0, hfF1⟩ := blk2 F.out) | ((with_reducible refine gate_store (t := 26) (p := 8) rfl ?_); refine stored2 (t := 26) (p := 8) (v := ?vo8) (x := .float .f64 s1) (y := .float .f64 t1) F.out ?hg ?ho ?hn ?hr ?_; (case ho => rfl); (case hg => rfl); (case hn => rfl); (case hr => first | (go_simp; done) | (go_simp; rfl)); intro w1 hbox hoth hlow; have m_E := Aside0.mk ((hoth _ NE_E_F.out).trans E.out); have m_HB := Aside0.mk (HB.out.trans (hlow.mono GF.out)); clear HB hoth hlow F E; have HB := m_HB; have F := Aside0.mk hbox; clear m_HB hbox; have E := m_E; clear m_E; obtain ⟨hcE0, hcE1, hfE0, hfE1⟩ := blk2 E.out; obtain ⟨hcF0, hcF1, hfF0, hfF1⟩ := blk2 F.out) | ((with_reducible refine gate_dst (N := 31) rfl ?_); refine goesL_ (some 31) rfl rfl Try.func18 (by kernel_rfl) rfl #[.slice A1 l.length c1, .float .f64 x] rfl (by (try simp only [List.map_toArray, List.map_cons, List.map_nil]); first | done | rfl) ?_; refine (Poly_calls A1 c1 l hl x hx0 s2 t2 z2 _ (Kd.C_below hr1 HB.out) o2).mono ?_; rintro e_ w3 ⟨rfl, hb⟩; refine ⟨_, rfl, ?_⟩; have m_E := Aside0.mk (blk_below E.out hb); have m_F := Aside0.mk (blk_below F.out hb); have m_HB := Aside0.mk (below_step HB.out hb); clear HB hb E F; have HB := m_HB; have E := m_E; have F := m_F; clear m_HB m_E m_F; obtain ⟨hcE0, hcE1, hfE0, hfE1⟩ := blk2 E.out; obtain ⟨hcF0, hcF1, hfF0, hfF1⟩ := blk2 F.out) | ((with_reducible refine gate_dst (N := 10) rfl ?_); refine box_event ?hg (N := 10) ?hd (cs := #[.float .f64 0, .float .f64 0]) (t := 26) ?hr ?_; (case hd => rfl); (case hg => rfl); (case hr => first | (go_simp; done) | (go_simp; rfl)); intro gG2 hg w1 hbox hb; have GG2 := Aside0.mk (hg ▸ below_size HB.out : wA.heap.size ≤ gG2); have NE_E_G2 := Aside0.mk (show gE ≠ gG2 from hg ▸ Nat.ne_of_lt (blk_lt E.out)); have NE_F_G2 := Aside0.mk (show gF ≠ gG2 from hg ▸ Nat.ne_of_lt (blk_lt F.out)); have m_E := Aside0.mk (blk_below E.out hb); have m_F := Aside0.mk (blk_below F.out hb); have m_HB := Aside0.mk (below_step HB.out hb); clear HB hb E F; have HB := m_HB; have E := m_E; have F := m_F; clear m_HB hg m_E m_F; have G2 := Aside0.mk hbox; clear hbox; obtain ⟨hcE0, hcE1, hfE0, hfE1⟩ := blk2 E.out; obtain ⟨hcF0, hcF1, hfF0, hfF1⟩ := blk2 F.out; obtain ⟨hcG20, hcG21, hfG20, hfG21⟩ := blk2 G2.out) | ((with_reducible refine gate_store (t := 26) (p := 10) rfl ?_); refine stored2 (t := 26) (p := 10) (v := ?vo10) (x := .float .f64 s2) (y := .float .f64 t2) G2.out ?hg ?ho ?hn ?hr ?_; (case ho => rfl); (case hg => rfl); (case hn => rfl); (case hr => first | (go_simp; done) | (go_simp; rfl)); intro w1 hbox hoth hlow; have m_E := Aside0.mk ((hoth _ NE_E_G2.out).trans E.out); have m_F := Aside0.mk ((hoth _ NE_F_G2.out).trans F.out); have m_HB := Aside0.mk (HB.out.trans (hlow.mono GG2.out)); clear HB hoth hlow G2 E F; have HB := m_HB; have G2 := Aside0.mk hbox; clear m_HB hbox; have E := m_E; clear m_E; have F := m_F; clear m_F; obtain ⟨hcE0, hcE1, hfE0, hfE1⟩ := blk2 E.out; obtain ⟨hcF0, hcF1, hfF0, hfF1⟩ := blk2 F.out; obtain ⟨hcG20, hcG21, hfG20, hfG21⟩ := blk2 G2.out) | ((with_reducible refine gate_dst (N := 37) rfl ?_); refine goesL_ (some 37) rfl rfl Try.func19 (by kernel_rfl) rfl #[.slice A l.length c, .float .f64 x] rfl (by (try simp only [List.map_toArray, List.map_cons, List.map_nil]); first | done | rfl) ?_; refine (Poly'_calls A c l hl x hx0 s2 t2 z2 _ (Kd.C_below hrA HB.out) o2).mono ?_; rintro e_ w3 ⟨rfl, hb⟩; refine ⟨_, rfl, ?_⟩; have m_E := Aside0.mk (blk_below E.out hb); have m_F := Aside0.mk (blk_below F.out hb); have m_G2 := Aside0.mk (blk_below G2.out hb); have m_HB := Aside0.mk (below_step HB.out hb); clear HB hb E F G2; have HB := m_HB; have E := m_E; have F := m_F; have G2 := m_G2; clear m_HB m_E m_F m_G2; obtain ⟨hcE0, hcE1, hfE0, hfE1⟩ := blk2 E.out; obtain ⟨hcF0, hcF1, hfF0, hfF1⟩ := blk2 F.out; obtain ⟨hcG20, hcG21, hfG20, hfG21⟩ := blk2 G2.out) | ((with_reducible refine gate_dst (N := 12) rfl ?_); refine box_event ?hg (N := 12) ?hd (cs := #[.float .f64 0, .float .f64 0]) (t := 26) ?hr ?_; (case hd => rfl); (case hg => rfl); (case hr => first | (go_simp; done) | (go_simp; rfl)); intro gH hg w1 hbox hb; have GH := Aside0.mk (hg ▸ below_size HB.out : wA.heap.size ≤ gH); have NE_E_H := Aside0.mk (show gE ≠ gH from hg ▸ Nat.ne_of_lt (blk_lt E.out)); have NE_F_H := Aside0.mk (show gF ≠ gH from hg ▸ Nat.ne_of_lt (blk_lt F.out)); have NE_G2_H := Aside0.mk (show gG2 ≠ gH from hg ▸ Nat.ne_of_lt (blk_lt G2.out)); have m_E := Aside0.mk (blk_below E.out hb); have m_F := Aside0.mk (blk_below F.out hb); have m_G2 := Aside0.mk (blk_below G2.out hb); have m_HB := Aside0.mk (below_step HB.out hb); clear HB hb E F G2; have HB := m_HB; have E := m_E; have F := m_F; have G2 := m_G2; clear m_HB hg m_E m_F m_G2; have H := Aside0.mk hbox; clear hbox; obtain ⟨hcE0, hcE1, hfE0, hfE1⟩ := blk2 E.out; obtain ⟨hcF0, hcF1, hfF0, hfF1⟩ := blk2 F.out; obtain ⟨hcG20, hcG21, hfG20, hfG21⟩ := blk2 G2.out; obtain ⟨hcH0, hcH1, hfH0, hfH1⟩ := blk2 H.out) | ((with_reducible refine gate_store (t := 26) (p := 12) rfl ?_); refine stored2 (t := 26) (p := 12) (v := ?vo12) (x := .float .f64 s2) (y := .float .f64 t2) H.out ?hg ?ho ?hn ?hr ?_; (case ho => rfl); (case hg => rfl); (case hn => rfl); (case hr => first | (go_simp; done) | (go_simp; rfl)); intro w1 hbox hoth hlow; have m_E := Aside0.mk ((hoth _ NE_E_H.out).trans E.out); have m_F := Aside0.mk ((hoth _ NE_F_H.out).trans F.out); have m_G2 := Aside0.mk ((hoth _ NE_G2_H.out).trans G2.out); have m_HB := Aside0.mk (HB.out.trans (hlow.mono GH.out)); clear HB hoth hlow H E F G2; have HB := m_HB; have H := Aside0.mk hbox; clear m_HB hbox; have E := m_E; clear m_E; have F := m_F; clear m_F; have G2 := m_G2; clear m_G2; obtain ⟨hcE0, hcE1, hfE0, hfE1⟩ := blk2 E.out; obtain ⟨hcF0, hcF1, hfF0, hfF1⟩ := blk2 F.out; obtain ⟨hcG20, hcG21, hfG20, hfG21⟩ := blk2 G2.out; obtain ⟨hcH0, hcH1, hfH0, hfH1⟩ := blk2 H.out))
  go_loopg [14] (l.length + 1) (fun kq vv w' => ∃ (i : Nat), vv = .int .i64 (i : Int) ∧ Aside0 (i + kq = l.length + 1) ∧ Aside0 (i ≤ l.length) ∧ Aside0 (Below wA.heap.size wA w') ∧ Aside0 (w'.heap[gE]? = some (.cells #[.float .f64 s1, .float .f64 t1] 26 (0, 0))) ∧ Aside0 (w'.heap[gF]? = some (.cells #[.float .f64 s1, .float .f64 t1] 26 (0, 0))) ∧ Aside0 (w'.heap[gG2]? = some (.cells #[.float .f64 s2, .float .f64 t2] 26 (0, 0))) ∧ Aside0 (w'.heap[gH]? = some (.cells #[.float .f64 s2, .float .f64 t2] 26 (0, 0))))
  case atStart => exact ⟨0, rfl, ⟨by omega⟩, ⟨Nat.zero_le _⟩, HB, E, F, G2, H⟩
  case round =>
    clear HB E F G2 H
    obtain ⟨i, rfl, HK, HI, HB, E, F, G2, H⟩ := hrel
    obtain ⟨hcE0, hcE1, hfE0, hfE1⟩ := blk2 E.out
    obtain ⟨hcF0, hcF1, hfF0, hfF1⟩ := blk2 F.out
    obtain ⟨hcG20, hcG21, hfG20, hfG21⟩ := blk2 G2.out
    obtain ⟨hcH0, hcH1, hfH0, hfH1⟩ := blk2 H.out
    cases gk with
    | zero => exact absurd HK.out (by have := HI.out; omega)
    | succ k1 =>
      by_cases c2 : i < l.length
      · have c2b : decide ((i : Int) < (l.length : Int)) = true := decide_eq_true (by omega)
        have p1 : 0 ≤ (i : Int) := by omega
        have p2 : (i : Int) < (l.length : Int) := by omega
        obtain ⟨ad, e, hx⟩ := at_f (Kd.C_below hrA HB.out) (i : Int) p1 p2
        cases e
        obtain ⟨ad1, e, hx1⟩ := at_f (Kd.C_below hr1 HB.out) (i : Int) p1 p2
        cases e
        replace hx : wr.cell? (ad.add i) = some (.float .f64 (at' l i)) := hx
        replace hx1 : wr.cell? (ad1.add i) = some (.float .f64 (at' l i)) := hx1
        replace p1 := eq_true p1
        replace p2 := eq_true p2
        cases n1 : (dOrd (at' l i) (at' l i) == some .eq)
        · have n2 : (dOrd (at' l i) (at' l i) != some .eq) = true := by unfold bne; rw [n1]; rfl
          try go_wp2
          refine start_ (n := 31) (S := fun w' => w'.cell? (ad1.add i) = some (.float .f64 (at' l i)) ∧ w'.cell? (ad.add i) = some (.float .f64 (at' l i))) (ds := []) #[false, false, false, false, false, false, false, false, false, false, false, false, false, false, false, false, false, false, false, false, false, false, false, false, false, false, false, false, false, false, false] (by kernel_rfl) rfl rfl ⟨hx1, hx⟩ (fun hHeld => ?_)
          have m_HB := Aside0.mk (show Below wA.heap.size wA wr.drew from below_drew HB.out)
          have m_E := Aside0.mk (show wr.drew.heap[gE]? = _ from E.out)
          have m_F := Aside0.mk (show wr.drew.heap[gF]? = _ from F.out)
          have m_G2 := Aside0.mk (show wr.drew.heap[gG2]? = _ from G2.out)
          have m_H := Aside0.mk (show wr.drew.heap[gH]? = _ from H.out)
          clear HB hx hx1 E F G2 H
          have HB := m_HB
          have E := m_E
          have F := m_F
          have G2 := m_G2
          have H := m_H
          clear m_HB m_E m_F m_G2 m_H
          generalize wr.drew = w8 at HB E F G2 H hHeld ⊢
          refine take_ (i := 0) (N := some 46) (v := ?_) (a' := ?_) #[true, false, false, false, false, false, false, false, false, false, false, false, false, false, false, false, false, false, false, false, false, false, false, false, false, false, false, false, false, false, false] rfl rfl (by kernel_rfl) (fun _ _ _ h => h) (Or.inl ⟨by rfl, ?_⟩) hHeld ?_ ?_
          rotate_left
          · rintro w' ⟨s0, s1⟩
            (try simp only [n1, n2]); go_simp; (try simp only [n1, n2])
            with_reducible rfl
          rotate_left
          · simp only [Act.put, List.setIfInBounds_toArray, List.set_cons_zero, List.set_cons_succ, i64_w, i32_w]
            rfl
          refine take_ (i := 1) (N := some 47) (v := ?_) (a' := ?_) #[true, true, false, false, false, false, false, false, false, false, false, false, false, false, false, false, false, false, false, false, false, false, false, false, false, false, false, false, false, false, false] rfl rfl (by kernel_rfl) (fun _ _ _ h => h) (Or.inl ⟨by rfl, ?_⟩) hHeld ?_ ?_
          rotate_left
          · rintro w' ⟨s0, s1⟩
            (try simp only [n1, n2]); go_simp; (try simp only [n1, n2])
            with_reducible rfl
          rotate_left
          · simp only [Act.put, List.setIfInBounds_toArray, List.set_cons_zero, List.set_cons_succ, i64_w, i32_w]
            rfl
          refine take_ (i := 2) (N := some 48) (v := ?_) (a' := ?_) #[true, true, true, false, false, false, false, false, false, false, false, false, false, false, false, false, false, false, false, false, false, false, false, false, false, false, false, false, false, false, false] rfl rfl (by kernel_rfl) (fun _ _ _ h => h) (Or.inl ⟨by rfl, ?_⟩) hHeld ?_ ?_
          rotate_left
          · rintro w' ⟨s0, s1⟩
            (try simp only [n1, n2]); go_simp; (try simp only [n1, n2])
            with_reducible rfl
          rotate_left
          · simp only [Act.put, List.setIfInBounds_toArray, List.set_cons_zero, List.set_cons_succ, i64_w, i32_w]
            rfl
          refine take_ (i := 3) (N := some 49) (v := ?_) (a' := ?_) #[true, true, true, true, false, false, false, false, false, false, false, false, false, false, false, false, false, false, false, false, false, false, false, false, false, false, false, false, false, false, false] rfl rfl (by kernel_rfl) (fun _ _ _ h => h) (Or.inl ⟨by rfl, ?_⟩) hHeld ?_ ?_
          rotate_left
          · rintro w' ⟨s0, s1⟩
            (try simp only [n1, n2]); go_simp; (try simp only [n1, n2])
            with_reducible rfl
          rotate_left
          · simp only [Act.put, List.setIfInBounds_toArray, List.set_cons_zero, List.set_cons_succ, i64_w, i32_w]
            rfl
          refine take_ (i := 4) (N := some 50) (v := ?_) (a' := ?_) #[true, true, true, true, true, false, false, false, false, false, false, false, false, false, false, false, false, false, false, false, false, false, false, false, false, false, false, false, false, false, false] rfl rfl (by kernel_rfl) (fun _ _ _ h => h) (Or.inl ⟨by rfl, ?_⟩) hHeld ?_ ?_
          rotate_left
          · rintro w' ⟨s0, s1⟩
            (try simp only [n1, n2]); go_simp; (try simp only [n1, n2])
            with_reducible rfl
          rotate_left
          · simp only [Act.put, List.setIfInBounds_toArray, List.set_cons_zero, List.set_cons_succ, i64_w, i32_w]
            rfl
          refine take_ (i := 5) (N := some 51) (v := ?_) (a' := ?_) #[true, true, true, true, true, true, false, false, false, false, false, false, false, false, false, false, false, false, false, false, false, false, false, false, false, false, false, false, false, false, false] rfl rfl (by kernel_rfl) (fun _ _ _ h => h) (Or.inl ⟨by rfl, ?_⟩) hHeld ?_ ?_
          rotate_left
          · rintro w' ⟨s0, s1⟩
            (try simp only [n1, n2]); go_simp; (try simp only [n1, n2])
            with_reducible rfl
          rotate_left
          · simp only [Act.put, List.setIfInBounds_toArray, List.set_cons_zero, List.set_cons_succ, i64_w, i32_w]
            rfl
          refine take_ (i := 6) (N := some 52) (v := ?_) (a' := ?_) #[true, true, true, true, true, true, true, false, false, false, false, false, false, false, false, false, false, false, false, false, false, false, false, false, false, false, false, false, false, false, false] rfl rfl (by kernel_rfl) (fun _ _ _ h => h) (Or.inl ⟨by rfl, ?_⟩) hHeld ?_ ?_
          rotate_left
          · rintro w' ⟨s0, s1⟩
            (try simp only [n1, n2]); go_simp; (try simp only [n1, n2])
            with_reducible rfl
          rotate_left
          · simp only [Act.put, List.setIfInBounds_toArray, List.set_cons_zero, List.set_cons_succ, i64_w, i32_w]
            rfl
          refine take_ (i := 7) (N := some 53) (v := ?_) (a' := ?_) #[true, true, true, true, true, true, true, true, false, false, false, false, false, false, false, false, false, false, false, false, false, false, false, false, false, false, false, false, false, false, false] rfl rfl (by kernel_rfl) (fun _ _ _ h => h) (Or.inl ⟨by rfl, ?_⟩) hHeld ?_ ?_
          rotate_left
          · rintro w' ⟨s0, s1⟩
            (try simp only [n1, n2]); go_simp; (try simp only [n1, n2])
            with_reducible rfl
          rotate_left
          · simp only [Act.put, List.setIfInBounds_toArray, List.set_cons_zero, List.set_cons_succ, i64_w, i32_w]
            rfl
          refine take_ (i := 8) (N := some 54) (v := ?_) (a' := ?_) #[true, true, true, true, true, true, true, true, true, false, false, false, false, false, false, false, false, false, false, false, false, false, false, false, false, false, false, false, false, false, false] rfl rfl (by kernel_rfl) (fun _ _ _ h => h) (Or.inl ⟨by rfl, ?_⟩) hHeld ?_ ?_
          rotate_left
          · rintro w' ⟨s0, s1⟩
            (try simp only [n1, n2]); go_simp; (try simp only [n1, n2])
            with_reducible rfl
          rotate_left
          · simp only [Act.put, List.setIfInBounds_toArray, List.set_cons_zero, List.set_cons_succ, i64_w, i32_w]
            rfl
          refine take_ (i := 9) (N := some 55) (v := ?_) (a' := ?_) #[true, true, true, true, true, true, true, true, true, true, false, false, false, false, false, false, false, false, false, false, false, false, false, false, false, false, false, false, false, false, false] rfl rfl (by kernel_rfl) (fun _ _ _ h => h) (Or.inl ⟨by rfl, ?_⟩) hHeld ?_ ?_
          rotate_left
          · rintro w' ⟨s0, s1⟩
            (try simp only [n1, n2]); go_simp; (try simp only [n1, n2])
            with_reducible rfl
          rotate_left
          · simp only [Act.put, List.setIfInBounds_toArray, List.set_cons_zero, List.set_cons_succ, i64_w, i32_w]
            rfl
          refine take_ (i := 10) (N := some 56) (v := ?_) (a' := ?_) #[true, true, true, true, true, true, true, true, true, true, true, false, false, false, false, false, false, false, false, false, false, false, false, false, false, false, false, false, false, false, false] rfl rfl (by kernel_rfl) (fun _ _ _ h => h) (Or.inl ⟨by rfl, ?_⟩) hHeld ?_ ?_
          rotate_left
          · rintro w' ⟨s0, s1⟩
            (try simp only [n1, n2]); go_simp; (try simp only [n1, n2])
            with_reducible rfl
          rotate_left
          · simp only [Act.put, List.setIfInBounds_toArray, List.set_cons_zero, List.set_cons_succ, i64_w, i32_w]
            rfl
          refine take_ (i := 11) (N := some 57) (v := ?_) (a' := ?_) #[true, true, true, true, true, true, true, true, true, true, true, true, false, false, false, false, false, false, false, false, false, false, false, false, false, false, false, false, false, false, false] rfl rfl (by kernel_rfl) (fun _ _ _ h => h) (Or.inl ⟨by rfl, ?_⟩) hHeld ?_ ?_
          rotate_left
          · rintro w' ⟨s0, s1⟩
            (try simp only [n1, n2]); go_simp; (try simp only [n1, n2])
            with_reducible rfl
          rotate_left
          · simp only [Act.put, List.setIfInBounds_toArray, List.set_cons_zero, List.set_cons_succ, i64_w, i32_w]
            rfl
          refine take_ (i := 12) (N := some 58) (v := ?_) (a' := ?_) #[true, true, true, true, true, true, true, true, true, true, true, true, true, false, false, false, false, false, false, false, false, false, false, false, false, false, false, false, false, false, false] rfl rfl (by kernel_rfl) (fun _ _ _ h => h) (Or.inl ⟨by rfl, ?_⟩) hHeld ?_ ?_
          rotate_left
          · rintro w' ⟨s0, s1⟩
            (try simp only [n1, n2]); go_simp; (try simp only [n1, n2])
            with_reducible rfl
          rotate_left
          · simp only [Act.put, List.setIfInBounds_toArray, List.set_cons_zero, List.set_cons_succ, i64_w, i32_w]
            rfl
          refine take_ (i := 13) (N := some 59) (v := ?_) (a' := ?_) #[true, true, true, true, true, true, true, true, true, true, true, true, true, true, false, false, false, false, false, false, false, false, false, false, false, false, false, false, false, false, false] rfl rfl (by kernel_rfl) (fun _ _ _ h => h) (Or.inl ⟨by rfl, ?_⟩) hHeld ?_ ?_
          rotate_left
          · rintro w' ⟨s0, s1⟩
            (try simp only [n1, n2]); go_simp; (try simp only [n1, n2])
            with_reducible rfl
          rotate_left
          · simp only [Act.put, List.setIfInBounds_toArray, List.set_cons_zero, List.set_cons_succ, i64_w, i32_w]
            rfl
          refine take_ (i := 14) (N := some 60) (v := ?_) (a' := ?_) #[true, true, true, true, true, true, true, true, true, true, true, true, true, true, true, false, false, false, false, false, false, false, false, false, false, false, false, false, false, false, false] rfl rfl (by kernel_rfl) (fun _ _ _ h => h) (Or.inl ⟨by rfl, ?_⟩) hHeld ?_ ?_
          rotate_left
          · rintro w' ⟨s0, s1⟩
            (try simp only [n1, n2]); go_simp; (try simp only [n1, n2])
            with_reducible rfl
          rotate_left
          · simp only [Act.put, List.setIfInBounds_toArray, List.set_cons_zero, List.set_cons_succ, i64_w, i32_w]
            rfl
          refine take_ (i := 15) (N := some 61) (v := ?_) (a' := ?_) #[true, true, true, true, true, true, true, true, true, true, true, true, true, true, true, true, false, false, false, false, false, false, false, false, false, false, false, false, false, false, false] rfl rfl (by kernel_rfl) (fun _ _ _ h => h) (Or.inl ⟨by rfl, ?_⟩) hHeld ?_ ?_
          rotate_left
          · rintro w' ⟨s0, s1⟩
            (try simp only [n1, n2]); go_simp; (try simp only [n1, n2])
            with_reducible rfl
          rotate_left
          · simp only [Act.put, List.setIfInBounds_toArray, List.set_cons_zero, List.set_cons_succ, i64_w, i32_w]
            rfl
          refine take_ (i := 16) (N := some 62) (v := ?_) (a' := ?_) #[true, true, true, true, true, true, true, true, true, true, true, true, true, true, true, true, true, false, false, false, false, false, false, false, false, false, false, false, false, false, false] rfl rfl (by kernel_rfl) (fun _ _ _ h => h) (Or.inl ⟨by rfl, ?_⟩) hHeld ?_ ?_
          rotate_left
          · rintro w' ⟨s0, s1⟩
            (try simp only [n1, n2]); go_simp; (try simp only [n1, n2])
            with_reducible rfl
          rotate_left
          · simp only [Act.put, List.setIfInBounds_toArray, List.set_cons_zero, List.set_cons_succ, i64_w, i32_w]
            rfl
          refine take_ (i := 17) (N := some 63) (v := ?_) (a' := ?_) #[true, true, true, true, true, true, true, true, true, true, true, true, true, true, true, true, true, true, false, false, false, false, false, false, false, false, false, false, false, false, false] rfl rfl (by kernel_rfl) (fun _ _ _ h => h) (Or.inl ⟨by rfl, ?_⟩) hHeld ?_ ?_
          rotate_left
          · rintro w' ⟨s0, s1⟩
            (try simp only [n1, n2]); go_simp; (try simp only [n1, n2])
            with_reducible rfl
          rotate_left
          · simp only [Act.put, List.setIfInBounds_toArray, List.set_cons_zero, List.set_cons_succ, i64_w, i32_w]
            rfl
          refine take_ (i := 18) (N := some 64) (v := ?_) (a' := ?_) #[true, true, true, true, true, true, true, true, true, true, true, true, true, true, true, true, true, true, true, false, false, false, false, false, false, false, false, false, false, false, false] rfl rfl (by kernel_rfl) (fun _ _ _ h => h) (Or.inl ⟨by rfl, ?_⟩) hHeld ?_ ?_
          rotate_left
          · rintro w' ⟨s0, s1⟩
            (try simp only [n1, n2]); go_simp; (try simp only [n1, n2])
            with_reducible rfl
          rotate_left
          · simp only [Act.put, List.setIfInBounds_toArray, List.set_cons_zero, List.set_cons_succ, i64_w, i32_w]
            rfl
          refine take_ (i := 19) (N := some 65) (v := ?_) (a' := ?_) #[true, true, true, true, true, true, true, true, true, true, true, true, true, true, true, true, true, true, true, true, false, false, false, false, false, false, false, false, false, false, false] rfl rfl (by kernel_rfl) (fun _ _ _ h => h) (Or.inl ⟨by rfl, ?_⟩) hHeld ?_ ?_
          rotate_left
          · rintro w' ⟨s0, s1⟩
            (try simp only [n1, n2]); go_simp; (try simp only [n1, n2])
            with_reducible rfl
          rotate_left
          · simp only [Act.put, List.setIfInBounds_toArray, List.set_cons_zero, List.set_cons_succ, i64_w, i32_w]
            rfl
          refine take_ (i := 20) (N := some 66) (v := ?_) (a' := ?_) #[true, true, true, true, true, true, true, true, true, true, true, true, true, true, true, true, true, true, true, true, true, false, false, false, false, false, false, false, false, false, false] rfl rfl (by kernel_rfl) (fun _ _ _ h => h) (Or.inl ⟨by rfl, ?_⟩) hHeld ?_ ?_
          rotate_left
          · rintro w' ⟨s0, s1⟩
            (try simp only [n1, n2]); go_simp; (try simp only [n1, n2])
            with_reducible rfl
          rotate_left
          · simp only [Act.put, List.setIfInBounds_toArray, List.set_cons_zero, List.set_cons_succ, i64_w, i32_w]
            rfl
          refine take_ (i := 21) (N := some 67) (v := ?_) (a' := ?_) #[true, true, true, true, true, true, true, true, true, true, true, true, true, true, true, true, true, true, true, true, true, true, false, false, false, false, false, false, false, false, false] rfl rfl (by kernel_rfl) (fun _ _ _ h => h) (Or.inl ⟨by rfl, ?_⟩) hHeld ?_ ?_
          rotate_left
          · rintro w' ⟨s0, s1⟩
            (try simp only [n1, n2]); go_simp; (try simp only [n1, n2])
            with_reducible rfl
          rotate_left
          · simp only [Act.put, List.setIfInBounds_toArray, List.set_cons_zero, List.set_cons_succ, i64_w, i32_w]
            rfl
          refine take_ (i := 22) (N := some 68) (v := ?_) (a' := ?_) #[true, true, true, true, true, true, true, true, true, true, true, true, true, true, true, true, true, true, true, true, true, true, true, false, false, false, false, false, false, false, false] rfl rfl (by kernel_rfl) (fun _ _ _ h => h) (Or.inl ⟨by rfl, ?_⟩) hHeld ?_ ?_
          rotate_left
          · rintro w' ⟨s0, s1⟩
            (try simp only [n1, n2]); go_simp; (try simp only [n1, n2])
            with_reducible rfl
          rotate_left
          · simp only [Act.put, List.setIfInBounds_toArray, List.set_cons_zero, List.set_cons_succ, i64_w, i32_w]
            rfl
          refine take_ (i := 23) (N := some 69) (v := ?_) (a' := ?_) #[true, true, true, true, true, true, true, true, true, true, true, true, true, true, true, true, true, true, true, true, true, true, true, true, false, false, false, false, false, false, false] rfl rfl (by kernel_rfl) (fun _ _ _ h => h) (Or.inl ⟨by rfl, ?_⟩) hHeld ?_ ?_
          rotate_left
          · rintro w' ⟨s0, s1⟩
            (try simp only [n1, n2]); go_simp; (try simp only [n1, n2])
            with_reducible rfl
          rotate_left
          · simp only [Act.put, List.setIfInBounds_toArray, List.set_cons_zero, List.set_cons_succ, i64_w, i32_w]
            rfl
          refine take_ (i := 24) (N := some 70) (v := ?_) (a' := ?_) #[true, true, true, true, true, true, true, true, true, true, true, true, true, true, true, true, true, true, true, true, true, true, true, true, true, false, false, false, false, false, false] rfl rfl (by kernel_rfl) (fun _ _ _ h => h) (Or.inl ⟨by rfl, ?_⟩) hHeld ?_ ?_
          rotate_left
          · rintro w' ⟨s0, s1⟩
            (try simp only [n1, n2]); go_simp; (try simp only [n1, n2])
            with_reducible rfl
          rotate_left
          · simp only [Act.put, List.setIfInBounds_toArray, List.set_cons_zero, List.set_cons_succ, i64_w, i32_w]
            rfl
          refine take_ (i := 25) (N := some 71) (v := ?_) (a' := ?_) #[true, true, true, true, true, true, true, true, true, true, true, true, true, true, true, true, true, true, true, true, true, true, true, true, true, true, false, false, false, false, false] rfl rfl (by kernel_rfl) (fun _ _ _ h => h) (Or.inl ⟨by rfl, ?_⟩) hHeld ?_ ?_
          rotate_left
          · rintro w' ⟨s0, s1⟩
            (try simp only [n1, n2]); go_simp; (try simp only [n1, n2])
            with_reducible rfl
          rotate_left
          · simp only [Act.put, List.setIfInBounds_toArray, List.set_cons_zero, List.set_cons_succ, i64_w, i32_w]
            rfl
          refine take_ (i := 26) (N := some 72) (v := ?_) (a' := ?_) #[true, true, true, true, true, true, true, true, true, true, true, true, true, true, true, true, true, true, true, true, true, true, true, true, true, true, true, false, false, false, false] rfl rfl (by kernel_rfl) (fun _ _ _ h => h) (Or.inl ⟨by rfl, ?_⟩) hHeld ?_ ?_
          rotate_left
          · rintro w' ⟨s0, s1⟩
            (try simp only [n1, n2]); go_simp; (try simp only [n1, n2])
            with_reducible rfl
          rotate_left
          · simp only [Act.put, List.setIfInBounds_toArray, List.set_cons_zero, List.set_cons_succ, i64_w, i32_w]
            rfl
          refine take_ (i := 27) (N := some 73) (v := ?_) (a' := ?_) #[true, true, true, true, true, true, true, true, true, true, true, true, true, true, true, true, true, true, true, true, true, true, true, true, true, true, true, true, false, false, false] rfl rfl (by kernel_rfl) (fun _ _ _ h => h) (Or.inl ⟨by rfl, ?_⟩) hHeld ?_ ?_
          rotate_left
          · rintro w' ⟨s0, s1⟩
            (try simp only [n1, n2]); go_simp; (try simp only [n1, n2])
            with_reducible rfl
          rotate_left
          · simp only [Act.put, List.setIfInBounds_toArray, List.set_cons_zero, List.set_cons_succ, i64_w, i32_w]
            rfl
          refine take_ (i := 28) (N := some 74) (v := ?_) (a' := ?_) #[true, true, true, true, true, true, true, true, true, true, true, true, true, true, true, true, true, true, true, true, true, true, true, true, true, true, true, true, true, false, false] rfl rfl (by kernel_rfl) (fun _ _ _ h => h) (Or.inl ⟨by rfl, ?_⟩) hHeld ?_ ?_
          rotate_left
          · rintro w' ⟨s0, s1⟩
            (try simp only [n1, n2]); go_simp; (try simp only [n1, n2])
            with_reducible rfl
          rotate_left
          · simp only [Act.put, List.setIfInBounds_toArray, List.set_cons_zero, List.set_cons_succ, i64_w, i32_w]
            rfl
          refine take_ (i := 29) (N := some 75) (v := ?_) (a' := ?_) #[true, true, true, true, true, true, true, true, true, true, true, true, true, true, true, true, true, true, true, true, true, true, true, true, true, true, true, true, true, true, false] rfl rfl (by kernel_rfl) (fun _ _ _ h => h) (Or.inl ⟨by rfl, ?_⟩) hHeld ?_ ?_
          rotate_left
          · rintro w' ⟨s0, s1⟩
            (try simp only [n1, n2]); go_simp; (try simp only [n1, n2])
            with_reducible rfl
          rotate_left
          · simp only [Act.put, List.setIfInBounds_toArray, List.set_cons_zero, List.set_cons_succ, i64_w, i32_w]
            rfl
          refine take_ (i := 30) (N := some 76) (v := ?_) (a' := ?_) #[true, true, true, true, true, true, true, true, true, true, true, true, true, true, true, true, true, true, true, true, true, true, true, true, true, true, true, true, true, true, true] rfl rfl (by kernel_rfl) (fun _ _ _ h => h) (Or.inl ⟨by rfl, ?_⟩) hHeld ?_ ?_
          rotate_left
          · rintro w' ⟨s0, s1⟩
            (try simp only [n1, n2]); go_simp; (try simp only [n1, n2])
            with_reducible rfl
          rotate_left
          · simp only [Act.put, List.setIfInBounds_toArray, List.set_cons_zero, List.set_cons_succ, i64_w, i32_w]
            rfl
          refine done_ (by kernel_rfl) ?_
          try go_wp2
          go_roundg k1
          case measure => have := HK.out; omega
          case rel => exact ⟨i + 1, (by first | rfl | rw [wrap_up2 (by omega)]), ⟨by have := HK.out; omega⟩, ⟨by omega⟩, HB, E, F, G2, H⟩
        · have n2 : (dOrd (at' l i) (at' l i) != some .eq) = false := by unfold bne; rw [n1]; rfl
          try go_wp2
          refine start_ (n := 31) (S := fun w' => w'.cell? (ad1.add i) = some (.float .f64 (at' l i)) ∧ w'.cell? (ad.add i) = some (.float .f64 (at' l i))) (ds := []) #[false, false, false, false, false, false, false, false, false, false, false, false, false, false, false, false, false, false, false, false, false, false, false, false, false, false, false, false, false, false, false] (by kernel_rfl) rfl rfl ⟨hx1, hx⟩ (fun hHeld => ?_)
          have m_HB := Aside0.mk (show Below wA.heap.size wA wr.drew from below_drew HB.out)
          have m_E := Aside0.mk (show wr.drew.heap[gE]? = _ from E.out)
          have m_F := Aside0.mk (show wr.drew.heap[gF]? = _ from F.out)
          have m_G2 := Aside0.mk (show wr.drew.heap[gG2]? = _ from G2.out)
          have m_H := Aside0.mk (show wr.drew.heap[gH]? = _ from H.out)
          clear HB hx hx1 E F G2 H
          have HB := m_HB
          have E := m_E
          have F := m_F
          have G2 := m_G2
          have H := m_H
          clear m_HB m_E m_F m_G2 m_H
          generalize wr.drew = w8 at HB E F G2 H hHeld ⊢
          refine take_ (i := 0) (N := some 46) (v := ?_) (a' := ?_) #[true, false, false, false, false, false, false, false, false, false, false, false, false, false, false, false, false, false, false, false, false, false, false, false, false, false, false, false, false, false, false] rfl rfl (by kernel_rfl) (fun _ _ _ h => h) (Or.inl ⟨by rfl, ?_⟩) hHeld ?_ ?_
          rotate_left
          · rintro w' ⟨s0, s1⟩
            (try simp only [n1, n2]); go_simp; (try simp only [n1, n2])
            with_reducible rfl
          rotate_left
          · simp only [Act.put, List.setIfInBounds_toArray, List.set_cons_zero, List.set_cons_succ, i64_w, i32_w]
            rfl
          refine take_ (i := 1) (N := some 47) (v := ?_) (a' := ?_) #[true, true, false, false, false, false, false, false, false, false, false, false, false, false, false, false, false, false, false, false, false, false, false, false, false, false, false, false, false, false, false] rfl rfl (by kernel_rfl) (fun _ _ _ h => h) (Or.inl ⟨by rfl, ?_⟩) hHeld ?_ ?_
          rotate_left
          · rintro w' ⟨s0, s1⟩
            (try simp only [n1, n2]); go_simp; (try simp only [n1, n2])
            with_reducible rfl
          rotate_left
          · simp only [Act.put, List.setIfInBounds_toArray, List.set_cons_zero, List.set_cons_succ, i64_w, i32_w]
            rfl
          refine take_ (i := 2) (N := some 48) (v := ?_) (a' := ?_) #[true, true, true, false, false, false, false, false, false, false, false, false, false, false, false, false, false, false, false, false, false, false, false, false, false, false, false, false, false, false, false] rfl rfl (by kernel_rfl) (fun _ _ _ h => h) (Or.inl ⟨by rfl, ?_⟩) hHeld ?_ ?_
          rotate_left
          · rintro w' ⟨s0, s1⟩
            (try simp only [n1, n2]); go_simp; (try simp only [n1, n2])
            with_reducible rfl
          rotate_left
          · simp only [Act.put, List.setIfInBounds_toArray, List.set_cons_zero, List.set_cons_succ, i64_w, i32_w]
            rfl
          refine take_ (i := 3) (N := some 49) (v := ?_) (a' := ?_) #[true, true, true, true, false, false, false, false, false, false, false, false, false, false, false, false, false, false, false, false, false, false, false, false, false, false, false, false, false, false, false] rfl rfl (by kernel_rfl) (fun _ _ _ h => h) (Or.inl ⟨by rfl, ?_⟩) hHeld ?_ ?_
          rotate_left
          · rintro w' ⟨s0, s1⟩
            (try simp only [n1, n2]); go_simp; (try simp only [n1, n2])
            with_reducible rfl
          rotate_left
          · simp only [Act.put, List.setIfInBounds_toArray, List.set_cons_zero, List.set_cons_succ, i64_w, i32_w]
            rfl
          refine take_ (i := 4) (N := some 50) (v := ?_) (a' := ?_) #[true, true, true, true, true, false, false, false, false, false, false, false, false, false, false, false, false, false, false, false, false, false, false, false, false, false, false, false, false, false, false] rfl rfl (by kernel_rfl) (fun _ _ _ h => h) (Or.inl ⟨by rfl, ?_⟩) hHeld ?_ ?_
          rotate_left
          · rintro w' ⟨s0, s1⟩
            (try simp only [n1, n2]); go_simp; (try simp only [n1, n2])
            with_reducible rfl
          rotate_left
          · simp only [Act.put, List.setIfInBounds_toArray, List.set_cons_zero, List.set_cons_succ, i64_w, i32_w]
            rfl
          refine take_ (i := 5) (N := some 51) (v := ?_) (a' := ?_) #[true, true, true, true, true, true, false, false, false, false, false, false, false, false, false, false, false, false, false, false, false, false, false, false, false, false, false, false, false, false, false] rfl rfl (by kernel_rfl) (fun _ _ _ h => h) (Or.inl ⟨by rfl, ?_⟩) hHeld ?_ ?_
          rotate_left
          · rintro w' ⟨s0, s1⟩
            (try simp only [n1, n2]); go_simp; (try simp only [n1, n2])
            with_reducible rfl
          rotate_left
          · simp only [Act.put, List.setIfInBounds_toArray, List.set_cons_zero, List.set_cons_succ, i64_w, i32_w]
            rfl
          refine take_ (i := 6) (N := some 52) (v := ?_) (a' := ?_) #[true, true, true, true, true, true, true, false, false, false, false, false, false, false, false, false, false, false, false, false, false, false, false, false, false, false, false, false, false, false, false] rfl rfl (by kernel_rfl) (fun _ _ _ h => h) (Or.inl ⟨by rfl, ?_⟩) hHeld ?_ ?_
          rotate_left
          · rintro w' ⟨s0, s1⟩
            (try simp only [n1, n2]); go_simp; (try simp only [n1, n2])
            with_reducible rfl
          rotate_left
          · simp only [Act.put, List.setIfInBounds_toArray, List.set_cons_zero, List.set_cons_succ, i64_w, i32_w]
            rfl
          refine take_ (i := 7) (N := some 53) (v := ?_) (a' := ?_) #[true, true, true, true, true, true, true, true, false, false, false, false, false, false, false, false, false, false, false, false, false, false, false, false, false, false, false, false, false, false, false] rfl rfl (by kernel_rfl) (fun _ _ _ h => h) (Or.inl ⟨by rfl, ?_⟩) hHeld ?_ ?_
          rotate_left
          · rintro w' ⟨s0, s1⟩
            (try simp only [n1, n2]); go_simp; (try simp only [n1, n2])
            with_reducible rfl
          rotate_left
          · simp only [Act.put, List.setIfInBounds_toArray, List.set_cons_zero, List.set_cons_succ, i64_w, i32_w]
            rfl
          refine take_ (i := 8) (N := some 54) (v := ?_) (a' := ?_) #[true, true, true, true, true, true, true, true, true, false, false, false, false, false, false, false, false, false, false, false, false, false, false, false, false, false, false, false, false, false, false] rfl rfl (by kernel_rfl) (fun _ _ _ h => h) (Or.inl ⟨by rfl, ?_⟩) hHeld ?_ ?_
          rotate_left
          · rintro w' ⟨s0, s1⟩
            (try simp only [n1, n2]); go_simp; (try simp only [n1, n2])
            with_reducible rfl
          rotate_left
          · simp only [Act.put, List.setIfInBounds_toArray, List.set_cons_zero, List.set_cons_succ, i64_w, i32_w]
            rfl
          refine take_ (i := 9) (N := some 55) (v := ?_) (a' := ?_) #[true, true, true, true, true, true, true, true, true, true, false, false, false, false, false, false, false, false, false, false, false, false, false, false, false, false, false, false, false, false, false] rfl rfl (by kernel_rfl) (fun _ _ _ h => h) (Or.inl ⟨by rfl, ?_⟩) hHeld ?_ ?_
          rotate_left
          · rintro w' ⟨s0, s1⟩
            (try simp only [n1, n2]); go_simp; (try simp only [n1, n2])
            with_reducible rfl
          rotate_left
          · simp only [Act.put, List.setIfInBounds_toArray, List.set_cons_zero, List.set_cons_succ, i64_w, i32_w]
            rfl
          refine take_ (i := 10) (N := some 56) (v := undef) (a' := ?_) #[true, true, true, true, true, true, true, true, true, true, true, false, false, false, false, false, false, false, false, false, false, false, false, false, false, false, false, false, false, false, false] rfl rfl (by kernel_rfl) (fun _ _ _ h => h) (Or.inr ⟨by rfl, rfl⟩) hHeld (by simp only [Act.put, List.setIfInBounds_toArray, List.set_cons_zero, List.set_cons_succ, i64_w, i32_w]; rfl) ?_
          refine take_ (i := 11) (N := some 57) (v := undef) (a' := ?_) #[true, true, true, true, true, true, true, true, true, true, true, true, false, false, false, false, false, false, false, false, false, false, false, false, false, false, false, false, false, false, false] rfl rfl (by kernel_rfl) (fun _ _ _ h => h) (Or.inr ⟨by rfl, rfl⟩) hHeld (by simp only [Act.put, List.setIfInBounds_toArray, List.set_cons_zero, List.set_cons_succ, i64_w, i32_w]; rfl) ?_
          refine take_ (i := 12) (N := some 58) (v := undef) (a' := ?_) #[true, true, true, true, true, true, true, true, true, true, true, true, true, false, false, false, false, false, false, false, false, false, false, false, false, false, false, false, false, false, false] rfl rfl (by kernel_rfl) (fun _ _ _ h => h) (Or.inr ⟨by rfl, rfl⟩) hHeld (by simp only [Act.put, List.setIfInBounds_toArray, List.set_cons_zero, List.set_cons_succ, i64_w, i32_w]; rfl) ?_
          refine take_ (i := 13) (N := some 59) (v := undef) (a' := ?_) #[true, true, true, true, true, true, true, true, true, true, true, true, true, true, false, false, false, false, false, false, false, false, false, false, false, false, false, false, false, false, false] rfl rfl (by kernel_rfl) (fun _ _ _ h => h) (Or.inr ⟨by rfl, rfl⟩) hHeld (by simp only [Act.put, List.setIfInBounds_toArray, List.set_cons_zero, List.set_cons_succ, i64_w, i32_w]; rfl) ?_
          refine take_ (i := 14) (N := some 60) (v := undef) (a' := ?_) #[true, true, true, true, true, true, true, true, true, true, true, true, true, true, true, false, false, false, false, false, false, false, false, false, false, false, false, false, false, false, false] rfl rfl (by kernel_rfl) (fun _ _ _ h => h) (Or.inr ⟨by rfl, rfl⟩) hHeld (by simp only [Act.put, List.setIfInBounds_toArray, List.set_cons_zero, List.set_cons_succ, i64_w, i32_w]; rfl) ?_
          refine take_ (i := 15) (N := some 61) (v := undef) (a' := ?_) #[true, true, true, true, true, true, true, true, true, true, true, true, true, true, true, true, false, false, false, false, false, false, false, false, false, false, false, false, false, false, false] rfl rfl (by kernel_rfl) (fun _ _ _ h => h) (Or.inr ⟨by rfl, rfl⟩) hHeld (by simp only [Act.put, List.setIfInBounds_toArray, List.set_cons_zero, List.set_cons_succ, i64_w, i32_w]; rfl) ?_
          refine take_ (i := 16) (N := some 62) (v := undef) (a' := ?_) #[true, true, true, true, true, true, true, true, true, true, true, true, true, true, true, true, true, false, false, false, false, false, false, false, false, false, false, false, false, false, false] rfl rfl (by kernel_rfl) (fun _ _ _ h => h) (Or.inr ⟨by rfl, rfl⟩) hHeld (by simp only [Act.put, List.setIfInBounds_toArray, List.set_cons_zero, List.set_cons_succ, i64_w, i32_w]; rfl) ?_
          refine take_ (i := 17) (N := some 63) (v := undef) (a' := ?_) #[true, true, true, true, true, true, true, true, true, true, true, true, true, true, true, true, true, true, false, false, false, false, false, false, false, false, false, false, false, false, false] rfl rfl (by kernel_rfl) (fun _ _ _ h => h) (Or.inr ⟨by rfl, rfl⟩) hHeld (by simp only [Act.put, List.setIfInBounds_toArray, List.set_cons_zero, List.set_cons_succ, i64_w, i32_w]; rfl) ?_
          refine take_ (i := 18) (N := some 64) (v := undef) (a' := ?_) #[true, true, true, true, true, true, true, true, true, true, true, true, true, true, true, true, true, true, true, false, false, false, false, false, false, false, false, false, false, false, false] rfl rfl (by kernel_rfl) (fun _ _ _ h => h) (Or.inr ⟨by rfl, rfl⟩) hHeld (by simp only [Act.put, List.setIfInBounds_toArray, List.set_cons_zero, List.set_cons_succ, i64_w, i32_w]; rfl) ?_
          refine take_ (i := 19) (N := some 65) (v := undef) (a' := ?_) #[true, true, true, true, true, true, true, true, true, true, true, true, true, true, true, true, true, true, true, true, false, false, false, false, false, false, false, false, false, false, false] rfl rfl (by kernel_rfl) (fun _ _ _ h => h) (Or.inr ⟨by rfl, rfl⟩) hHeld (by simp only [Act.put, List.setIfInBounds_toArray, List.set_cons_zero, List.set_cons_succ, i64_w, i32_w]; rfl) ?_
          refine take_ (i := 20) (N := some 66) (v := undef) (a' := ?_) #[true, true, true, true, true, true, true, true, true, true, true, true, true, true, true, true, true, true, true, true, true, false, false, false, false, false, false, false, false, false, false] rfl rfl (by kernel_rfl) (fun _ _ _ h => h) (Or.inr ⟨by rfl, rfl⟩) hHeld (by simp only [Act.put, List.setIfInBounds_toArray, List.set_cons_zero, List.set_cons_succ, i64_w, i32_w]; rfl) ?_
          refine take_ (i := 21) (N := some 67) (v := undef) (a' := ?_) #[true, true, true, true, true, true, true, true, true, true, true, true, true, true, true, true, true, true, true, true, true, true, false, false, false, false, false, false, false, false, false] rfl rfl (by kernel_rfl) (fun _ _ _ h => h) (Or.inr ⟨by rfl, rfl⟩) hHeld (by simp only [Act.put, List.setIfInBounds_toArray, List.set_cons_zero, List.set_cons_succ, i64_w, i32_w]; rfl) ?_
          refine take_ (i := 22) (N := some 68) (v := undef) (a' := ?_) #[true, true, true, true, true, true, true, true, true, true, true, true, true, true, true, true, true, true, true, true, true, true, true, false, false, false, false, false, false, false, false] rfl rfl (by kernel_rfl) (fun _ _ _ h => h) (Or.inr ⟨by rfl, rfl⟩) hHeld (by simp only [Act.put, List.setIfInBounds_toArray, List.set_cons_zero, List.set_cons_succ, i64_w, i32_w]; rfl) ?_
          refine take_ (i := 23) (N := some 69) (v := undef) (a' := ?_) #[true, true, true, true, true, true, true, true, true, true, true, true, true, true, true, true, true, true, true, true, true, true, true, true, false, false, false, false, false, false, false] rfl rfl (by kernel_rfl) (fun _ _ _ h => h) (Or.inr ⟨by rfl, rfl⟩) hHeld (by simp only [Act.put, List.setIfInBounds_toArray, List.set_cons_zero, List.set_cons_succ, i64_w, i32_w]; rfl) ?_
          refine take_ (i := 24) (N := some 70) (v := undef) (a' := ?_) #[true, true, true, true, true, true, true, true, true, true, true, true, true, true, true, true, true, true, true, true, true, true, true, true, true, false, false, false, false, false, false] rfl rfl (by kernel_rfl) (fun _ _ _ h => h) (Or.inr ⟨by rfl, rfl⟩) hHeld (by simp only [Act.put, List.setIfInBounds_toArray, List.set_cons_zero, List.set_cons_succ, i64_w, i32_w]; rfl) ?_
          refine take_ (i := 25) (N := some 71) (v := undef) (a' := ?_) #[true, true, true, true, true, true, true, true, true, true, true, true, true, true, true, true, true, true, true, true, true, true, true, true, true, true, false, false, false, false, false] rfl rfl (by kernel_rfl) (fun _ _ _ h => h) (Or.inr ⟨by rfl, rfl⟩) hHeld (by simp only [Act.put, List.setIfInBounds_toArray, List.set_cons_zero, List.set_cons_succ, i64_w, i32_w]; rfl) ?_
          refine take_ (i := 26) (N := some 72) (v := undef) (a' := ?_) #[true, true, true, true, true, true, true, true, true, true, true, true, true, true, true, true, true, true, true, true, true, true, true, true, true, true, true, false, false, false, false] rfl rfl (by kernel_rfl) (fun _ _ _ h => h) (Or.inr ⟨by rfl, rfl⟩) hHeld (by simp only [Act.put, List.setIfInBounds_toArray, List.set_cons_zero, List.set_cons_succ, i64_w, i32_w]; rfl) ?_
          refine take_ (i := 27) (N := some 73) (v := undef) (a' := ?_) #[true, true, true, true, true, true, true, true, true, true, true, true, true, true, true, true, true, true, true, true, true, true, true, true, true, true, true, true, false, false, false] rfl rfl (by kernel_rfl) (fun _ _ _ h => h) (Or.inr ⟨by rfl, rfl⟩) hHeld (by simp only [Act.put, List.setIfInBounds_toArray, List.set_cons_zero, List.set_cons_succ, i64_w, i32_w]; rfl) ?_
          refine take_ (i := 28) (N := some 74) (v := undef) (a' := ?_) #[true, true, true, true, true, true, true, true, true, true, true, true, true, true, true, true, true, true, true, true, true, true, true, true, true, true, true, true, true, false, false] rfl rfl (by kernel_rfl) (fun _ _ _ h => h) (Or.inr ⟨by rfl, rfl⟩) hHeld (by simp only [Act.put, List.setIfInBounds_toArray, List.set_cons_zero, List.set_cons_succ, i64_w, i32_w]; rfl) ?_
          refine take_ (i := 29) (N := some 75) (v := undef) (a' := ?_) #[true, true, true, true, true, true, true, true, true, true, true, true, true, true, true, true, true, true, true, true, true, true, true, true, true, true, true, true, true, true, false] rfl rfl (by kernel_rfl) (fun _ _ _ h => h) (Or.inr ⟨by rfl, rfl⟩) hHeld (by simp only [Act.put, List.setIfInBounds_toArray, List.set_cons_zero, List.set_cons_succ, i64_w, i32_w]; rfl) ?_
          refine take_ (i := 30) (N := some 76) (v := ?_) (a' := ?_) #[true, true, true, true, true, true, true, true, true, true, true, true, true, true, true, true, true, true, true, true, true, true, true, true, true, true, true, true, true, true, true] rfl rfl (by kernel_rfl) (fun _ _ _ h => h) (Or.inl ⟨by rfl, ?_⟩) hHeld ?_ ?_
          rotate_left
          · rintro w' ⟨s0, s1⟩
            (try simp only [n1, n2]); go_simp; (try simp only [n1, n2])
            with_reducible rfl
          rotate_left
          · simp only [Act.put, List.setIfInBounds_toArray, List.set_cons_zero, List.set_cons_succ, i64_w, i32_w]
            rfl
          refine done_ (by kernel_rfl) ?_
          try go_wp2
          go_roundg k1
          case measure => have := HK.out; omega
          case rel => exact ⟨i + 1, (by first | rfl | rw [wrap_up2 (by omega)]), ⟨by have := HK.out; omega⟩, ⟨by omega⟩, HB, E, F, G2, H⟩
      · have c2b : decide ((i : Int) < (l.length : Int)) = false := decide_eq_false (by omega)
        go_wp2_with (first | ((with_reducible refine gate_dst (N := 79) rfl ?_); refine goesL_ (some 79) rfl rfl Try.func9 (by kernel_rfl) rfl #[.agg #[.float .f64 s1, .float .f64 t1], .agg #[.float .f64 s1, .float .f64 t1]] rfl (by (try simp only [List.map_toArray, List.map_cons, List.map_nil]); first | done | rfl) ?_; refine (q1 ▸ Same_calls s1 t1 s1 t1 _).mono ?_; rintro e_ w3 ⟨rfl, hb⟩; refine ⟨_, rfl, ?_⟩; have m_E := Aside0.mk (blk_below E.out hb); have m_F := Aside0.mk (blk_below F.out hb); have m_G2 := Aside0.mk (blk_below G2.out hb); have m_H := Aside0.mk (blk_below H.out hb); have m_HB := Aside0.mk (below_step HB.out hb); clear HB hb E F G2 H; have HB := m_HB; have E := m_E; have F := m_F; have G2 := m_G2; have H := m_H; clear m_HB m_E m_F m_G2 m_H; obtain ⟨hcE0, hcE1, hfE0, hfE1⟩ := blk2 E.out; obtain ⟨hcF0, hcF1, hfF0, hfF1⟩ := blk2 F.out; obtain ⟨hcG20, hcG21, hfG20, hfG21⟩ := blk2 G2.out; obtain ⟨hcH0, hcH1, hfH0, hfH1⟩ := blk2 H.out) | ((with_reducible refine gate_calls (f := 9) ?_); refine (q2 ▸ Same_calls s2 t2 s2 t2 _).mono ?_; rintro e_ w3 ⟨rfl, hb⟩; (try dsimp only); have m_E := Aside0.mk (blk_below E.out hb); have m_F := Aside0.mk (blk_below F.out hb); have m_G2 := Aside0.mk (blk_below G2.out hb); have m_H := Aside0.mk (blk_below H.out hb); have m_HB := Aside0.mk (below_step HB.out hb); clear HB hb E F G2 H; have HB := m_HB; have E := m_E; have F := m_F; have G2 := m_G2; have H := m_H; clear m_HB m_E m_F m_G2 m_H; obtain ⟨hcE0, hcE1, hfE0, hfE1⟩ := blk2 E.out; obtain ⟨hcF0, hcF1, hfF0, hfF1⟩ := blk2 F.out; obtain ⟨hcG20, hcG21, hfG20, hfG21⟩ := blk2 G2.out; obtain ⟨hcH0, hcH1, hfH0, hfH1⟩ := blk2 H.out) | ((with_reducible refine gate_calls (f := 7) ?_); refine (begins_calls _).mono ?_; rintro e_ w3 ⟨rfl, hb⟩; (try dsimp only); have m_E := Aside0.mk (blk_below E.out hb); have m_F := Aside0.mk (blk_below F.out hb); have m_G2 := Aside0.mk (blk_below G2.out hb); have m_H := Aside0.mk (blk_below H.out hb); have m_HB := Aside0.mk (below_step HB.out hb); clear HB hb E F G2 H; have HB := m_HB; have E := m_E; have F := m_F; have G2 := m_G2; have H := m_H; clear m_HB m_E m_F m_G2 m_H; obtain ⟨hcE0, hcE1, hfE0, hfE1⟩ := blk2 E.out; obtain ⟨hcF0, hcF1, hfF0, hfF1⟩ := blk2 F.out; obtain ⟨hcG20, hcG21, hfG20, hfG21⟩ := blk2 G2.out; obtain ⟨hcH0, hcH1, hfH0, hfH1⟩ := blk2 H.out))
        go_ret
        exact ⟨rfl, below_step hbA HB.out⟩
end Go.Proofs.Yteaghcchalfgmaa.PAll
