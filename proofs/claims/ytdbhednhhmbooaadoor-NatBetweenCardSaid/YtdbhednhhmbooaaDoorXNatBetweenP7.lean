/- Printed functions, merged by a program of this session. -/
import Derived.Test.YtdbhednhhmbooaaDoorXNatBetweenP5
import Derived.Laws.StructEq
namespace Go.Proofs.YtdbhednhhmbooaaDoor.PAll
open Go.RowKit Go.Proofs.YtdbhednhhmbooaaDoorW.PrintWords Go.Proofs.YtdbhednhhmbooaaDoorW.PrintLast Go.Proofs.YtdbhednhhmbooaaDoorW.PrintMore
attribute [local go_sem] max2_int min2_int max_two min_two max_three min_three max_four min_four   -- for this text's walks alone
set_option linter.unusedVariables false
set_option linter.unusedSimpArgs false
attribute [local go_sem] ext44 ext54
theorem view_rd {A xs B : List Int} {off : Nat} (hA : A.length = off) (i : Int) (h0 : 0 ≤ i) (h1 : i < xs.length) : rd (A ++ xs ++ B) ((off : Int) + i) = rd xs i := by
 have e : ((off : Int) + i).toNat = off + i.toNat := by omega
 unfold rd
 rw [e, List.append_assoc, ← hA]
 simp only [List.getD_eq_getElem?_getD]
 rw [List.getElem?_append_right (by omega), Nat.add_sub_cancel_left, List.getElem?_append_left (by omega)]
theorem view_cell {k : IntKind} {e : TypeId} {w : World} {base : Nat} {ok : Nat → Prop} {g N C off : Nat} {A xs B : List Int} (h : Kd.R (Kd.int k) e w base ok (.slice (some ⟨g, 0, none⟩) N C) (A ++ xs ++ B)) (hA : A.length = off) (i : Int) (h0 : 0 ≤ i) (h1 : i < xs.length) :
  w.cell? ⟨g, off + i.toNat, none⟩ = some (.int k (rd xs i)) ∧ w.frozen? ⟨g, off + i.toNat, none⟩ = false := by
 have hN := (Kd.R_reads' h).1
 have hl : (A ++ xs ++ B).length = off + xs.length + B.length := by simp [hA]; omega
 have q := Kd.R_celln 0 h ((off : Int) + i) (by omega) (by omega)
 have e : ((off : Int) + i).toNat = off + i.toNat := by omega
 rw [e] at q
 have r := view_rd (B := B) hA i h0 h1
 refine ⟨?_, q.2⟩
 exact q.1.trans (congrArg (fun z => some (Value.int k z)) r)
theorem view_put {k : IntKind} {e : TypeId} {w : World} {base : Nat} {ok : Nat → Prop} {g N C off : Nat} {A xs B : List Int} (h : Kd.R (Kd.int k) e w base ok (.slice (some ⟨g, 0, none⟩) N C) (A ++ xs ++ B)) (hA : A.length = off) (i : Int) (h0 : 0 ≤ i) (h1 : i < xs.length) (x : Int) :
  Kd.R (Kd.int k) e (w.setCell ⟨g, off + i.toNat, none⟩ (.int k x)) base ok (.slice (some ⟨g, 0, none⟩) N C) (A ++ xs.set i.toNat x ++ B) ∧ w.grownBy (w.setCell ⟨g, off + i.toNat, none⟩ (.int k x)) (some g) := by
 have q := Kd.R_putg h ((off : Int) + i) x
 have e : ((off : Int) + i).toNat = off + i.toNat := by omega
 rw [e] at q
 have r : (A ++ xs ++ B).set (off + i.toNat) x = A ++ xs.set i.toNat x ++ B := by
  rw [List.append_assoc, ← hA, List.set_append_right _ _ (by omega), Nat.add_sub_cancel_left, List.set_append_left _ _ (by omega), List.append_assoc]
 rw [r] at q
 exact q
set_option maxHeartbeats 8000000 in
set_option maxRecDepth 100000 in
theorem nat_number_back.callsAt (w0 : World) (k : Nat) (P0_ : Nat → Prop) (g_ N_ C_ off_ m_ cw_ : Nat) (A_ B_ : List Int) (hA_ : A_.length = off_) (hcw_ : m_ ≤ cw_) (hg_ : w0.heap.size ≤ g_) (l0 : List Int) (A1 : Option Addr) (c1 : Nat) (l1 : List Int) (r : List Int) (w : World) (hB : Below w0.heap.size w0 w) (ho0 : Kd.R (Kd.int .u64) 24 w w0.heap.size P0_ (.slice (some ⟨g_, 0, none⟩) N_ C_) (A_ ++ l0 ++ B_)) (hl0 : l0.length = m_) (hr1 : ∀ W_, Kept w W_ (fun k_ => P0_ k_) → Kd.C (Kd.int .u64) W_ A1 l1.length l1) (hc1 : l1.length ≤ c1) (h : nat_number_back.f k l0 l1 = some r) :
  Calls Tryd.prog 52 #[.slice (some ⟨g_, off_, none⟩) m_ cw_, .slice A1 l1.length c1] w fun e w' => e = .returned (.tuple #[]) ∧ (Kd.R (Kd.int .u64) 24 w' w0.heap.size (fun k_ => (P0_ k_ ∨ w.heap.size ≤ k_)) (.slice (some ⟨g_, 0, none⟩) N_ C_) (A_ ++ r ++ B_) ∧ r.length = m_) ∧ Below w0.heap.size w0 w' ∧ Kept w w' (fun k_ => P0_ k_) := by
 have HO0 := Aside0.mk (show Kd.R (Kd.int .u64) 24 w w0.heap.size (fun k_ => (P0_ k_ ∨ w.heap.size ≤ k_)) (.slice (some ⟨g_, 0, none⟩) N_ C_) (A_ ++ l0 ++ B_) from Kd.R_mono ho0 (fun k_ hk => (.inl hk)))
 have HR1 := Aside0.mk hr1
 have HC1 := Aside0.mk hc1
 clear hr1 hc1
 have HK := Aside0.mk (Kept.refl w (fun k_ => P0_ k_))
 have HW0 := Aside0.mk hB.size
 have HB := Aside0.mk hB
 clear hB
 have H : (nat_number_back.l0 k l0 l1 0 l1 (l1.length : Int) 0) = some r := h
 clear h
 have H' := Aside0.mk H
 clear H
 go_enter Tryd.func52, Tryd.ntmps52
 go_wp2
 go_loopg [4, 9] k (fun kq v4 v9 w' => ∃ (x0_1 : List Int) (x4_1 : Int) (x9_1 : Int), v4 = .int .u64 x4_1 ∧ v9 = .int .i64 x9_1 ∧ Aside0 (nat_number_back.l0 kq x0_1 l1 x4_1 l1 (l1.length : Int) x9_1 = some r) ∧ Aside0 (kq ≤ k) ∧ Aside0 (Kd.R (Kd.int .u64) 24 w' w0.heap.size (fun k_ => (P0_ k_ ∨ w.heap.size ≤ k_)) (.slice (some ⟨g_, 0, none⟩) N_ C_) (A_ ++ x0_1 ++ B_)) ∧ Aside0 (x0_1.length = m_) ∧ Aside0 (Kept w w' (fun k_ => P0_ k_)) ∧ Aside0 (Below w0.heap.size w0 w'))
 case atStart => exact ⟨(l0), (0), (0), (by first | rfl | (simp; done) | (simp [*]; done)), (by first | rfl | (simp; done) | (simp [*]; done)), H', ⟨Nat.le_refl _⟩, ⟨by (with_reducible repeat (first | apply Kd.R_alloc | apply Kd.R_drewN | apply Kd.R_drew)); exact HO0.out⟩, ⟨hl0⟩, ⟨by repeat (first | (with_reducible first | exact HK.out | apply Kept.alloc | apply Kept.drewN | apply Kept.drew) | exact HK.out)⟩, ⟨by repeat (first | (with_reducible first | exact HB.out | apply below_alloc | apply pw_below_drewN | apply below_drew1) | exact HB.out)⟩⟩
 case round =>
  clear H'
  try clear c1
  try clear p2
  obtain ⟨x0_1, x4_1, x9_1, rfl, rfl, HA, HK1, HO_0, HL_, HK, HB⟩ := hrel
  cases gk with
  | zero => exact absurd HA.out (by simp [nat_number_back.l0])
  | succ k1 =>
   have H := HA.out
   clear HA
   simp only [nat_number_back.l0] at H
   by_cases c3 : x9_1 < (l1.length : Int)
   ·rw [if_pos c3] at H
    have c3b0 : decide (x9_1 < (l1.length : Int)) = true := decide_eq_true c3
    clear c3
    by_cases c4 : 0 ≤ x9_1
    ·rw [if_pos c4] at H
     have c4b0 : decide (0 ≤ x9_1) = true := decide_eq_true c4
     clear c4
     by_cases c5 : x9_1 < (l1.length : Int)
     ·rw [if_pos c5] at H
      have c5b0 : decide (x9_1 < (l1.length : Int)) = true := decide_eq_true c5
      clear c5
      by_cases c6 : x9_1 < (x0_1.length : Int)
      ·rw [if_pos c6] at H
       have c6b0 : decide (x9_1 < (x0_1.length : Int)) = true := decide_eq_true c6
       have c6m0 : decide (x9_1 < (m_ : Int)) = true := by rw [← HL_.out]; exact c6b0
       have c6mq := eq_true (show x9_1 < (m_ : Int) from of_decide_eq_true c6m0)
       clear c6
       by_cases c7 : x4_1 ≤ 1
       ·rw [if_pos c7] at H
        have c7b0 := eq_true c7
        have c7b1 : decide (x4_1 ≤ 1) = true := decide_eq_true c7
        clear c7
        obtain ⟨y262, hy262⟩ : ∃ y_ : List Int, y_ = (x0_1.set (x9_1 : Int).toNat (add64s (rd x0_1 x9_1) (rd l1 x9_1) x4_1)) := ⟨_, rfl⟩
        replace H : (nat_number_back.l0 k1 y262 l1 (add64c (rd x0_1 x9_1) (rd l1 x9_1) x4_1) l1 (l1.length : Int) (wrap64 (x9_1 + 1))) = some r := by first | (rw [hy262]; with_reducible exact H) | (have H2_ := (Option.bind_some _ _).symm.trans H; rw [hy262]; with_reducible exact H2_) | (have H2_ := (Option.bind_some _ _).symm.trans H; with_reducible exact H2_) | with_reducible exact H | (rw [hy262]; exact H) | exact H
        have Ny262 := Aside0.mk hy262
        clear hy262
        have H' := Aside0.mk H
        clear H
        have p260 : 0 ≤ (x9_1 : Int) := of_decide_eq_true (by first | (with_reducible assumption) | assumption)
        have q260 : x9_1 < (l1.length : Int) := of_decide_eq_true (by first | (with_reducible assumption) | assumption)
        obtain ⟨ad260, e260, hx260_0⟩ := Kd.at_int (Kd.C_kept_now HR1.out HK.out) x9_1 p260 q260
        cases e260
        replace p260 := eq_true p260
        replace q260 := eq_true q260
        have p261 : 0 ≤ (x9_1 : Int) := of_decide_eq_true (by first | (with_reducible assumption) | assumption)
        have q261 : x9_1 < (x0_1.length : Int) := of_decide_eq_true (by first | (with_reducible assumption) | assumption)
        have hx261_0 := (view_cell HO_0.out hA_ x9_1 p261 q261).1
        replace p261 := eq_true p261
        replace q261 := eq_true q261
        have p8 : 0 ≤ (x9_1 : Int) := of_decide_eq_true (by first | (with_reducible assumption) | assumption)
        have q8 : (x9_1 : Int) < ((x0_1.length : Int) : Int) := of_decide_eq_true (by first | (with_reducible assumption) | assumption)
        obtain ⟨hx8_0, hf8_0⟩ := view_cell HO_0.out hA_ (x9_1 : Int) p8 q8
        replace p8 := eq_true p8
        replace q8 := eq_true q8
        have HP10 := view_put HO_0.out hA_ (x9_1 : Int) (by first | exact of_eq_true (by assumption) | omega) (by first | exact of_eq_true (by assumption) | omega) (add64s (rd x0_1 x9_1) (rd l1 x9_1) x4_1)
        go_wp2_with (first | ((with_reducible refine gate_store (t := 24) (p := 26) rfl ?_); refine store_event (t := 24) (p := 26) (v := ?vo_w11) (w1 := (wr.setCell ⟨g_, off_ + (x9_1 : Int).toNat, none⟩ (.int .u64 (add64s (rd x0_1 x9_1) (rd l1 x9_1) x4_1)))) ?hg ?ho ?hn ?hr ?_; (case ho => rfl); (case hg => rfl); (case hn => rfl); (case hr => first | (go_simp; done) | (go_simp; rfl)); intro w11 hw; have hg : wr.grownBy w11 (some g_) := (by rw [hw]; exact HP10.2); have hp_ : Kd.R (Kd.int .u64) 24 w11 w0.heap.size (fun k_ => (P0_ k_ ∨ w.heap.size ≤ k_)) (.slice (some ⟨g_, 0, none⟩) N_ C_) (A_ ++ y262 ++ B_) := (by rw [hw, Ny262.out]; exact HP10.1); clear HP10; have n0_ := Aside0.mk (hp_); have n1_ := Aside0.mk ((by rw [hw]; exact below_set (HB.out) hg_ : Below w0.heap.size w0 w11)); have n2_ := Aside0.mk (Kept.of_grown (S := (fun k_ => P0_ k_)) hg (by repeat (first | (with_reducible first | exact HK.out | apply Kept.alloc | apply Kept.drewN | apply Kept.drew) | exact HK.out)) (fun k_ e_ => (HO_0.out.1 k_ e_))); have n9_ : Aside0 (y262.length = m_) := ⟨by first | (rw [Ny262.out, List.length_set]; exact HL_.out)⟩; clear HL_; clear HO_0; clear HB; clear HK; have HL_ := n9_; have HO_0 := n0_; have HB := n1_; have HK := n2_; clear n0_ n1_ n2_ n9_; clear hg hw hp_))
        go_roundg k1
        case measure => have := HK1.out; omega
        case rel => exact ⟨(y262), (add64c (rd x0_1 x9_1) (rd l1 x9_1) x4_1), (wrap64 (x9_1 + 1)), (by first | rfl | (simp; done) | (simp [*]; done)), (by first | rfl | (simp; done) | (simp [*]; done)), H', ⟨by have := HK1.out; omega⟩, ⟨by (with_reducible repeat (first | apply Kd.R_alloc | apply Kd.R_drewN | apply Kd.R_drew)); exact HO_0.out⟩, HL_, ⟨by repeat (first | (with_reducible first | exact HK.out | apply Kept.alloc | apply Kept.drewN | apply Kept.drew) | exact HK.out)⟩, ⟨by repeat (first | (with_reducible first | exact HB.out | apply below_alloc | apply pw_below_drewN | apply below_drew1) | exact HB.out)⟩⟩
       ·rw [if_neg c7] at H
        exact absurd H (by simp)
      ·rw [if_neg c6] at H
       exact absurd H (by simp)
     ·rw [if_neg c5] at H
      exact absurd H (by simp)
    ·rw [if_neg c4] at H
     exact absurd H (by simp)
   ·rw [if_neg c3] at H
    have c3b0 : decide (x9_1 < (l1.length : Int)) = false := decide_eq_false c3
    clear c3
    by_cases c12 : 0 ≤ (l1.length : Int)
    ·rw [if_pos c12] at H
     have c12b0 : decide (0 ≤ (l1.length : Int)) = true := decide_eq_true c12
     have c12b1 : decide (0 ≤ l1.length) = true := decide_eq_true (by omega)
     clear c12
     by_cases c13 : (l1.length : Int) < (x0_1.length : Int)
     ·rw [if_pos c13] at H
      have c13b0 : decide ((l1.length : Int) < (x0_1.length : Int)) = true := decide_eq_true c13
      have c13m0 : decide ((l1.length : Int) < (m_ : Int)) = true := by rw [← HL_.out]; exact c13b0
      have c13mq := eq_true (show (l1.length : Int) < (m_ : Int) from of_decide_eq_true c13m0)
      have c13b1 : decide (l1.length < x0_1.length) = true := decide_eq_true (Int.ofNat_lt.mp c13)
      have c13m1 : decide (l1.length < m_) = true := by rw [← HL_.out]; exact c13b1
      clear c13
      obtain ⟨y264, hy264⟩ : ∃ y_ : List Int, y_ = (x0_1.set ((l1.length : Int) : Int).toNat (IntKind.u64.wrap ((rd x0_1 (l1.length : Int)) + x4_1))) := ⟨_, rfl⟩
      replace H : (some y264) = some r := by first | (rw [hy264]; with_reducible exact H) | (have H2_ := (Option.bind_some _ _).symm.trans H; rw [hy264]; with_reducible exact H2_) | (have H2_ := (Option.bind_some _ _).symm.trans H; with_reducible exact H2_) | with_reducible exact H | (rw [hy264]; exact H) | exact H
      have Ny264 := Aside0.mk hy264
      clear hy264
      obtain rfl := Option.some.inj H
      have p263 : 0 ≤ ((l1.length : Int) : Int) := of_decide_eq_true (by first | (with_reducible assumption) | assumption)
      have q263 : (l1.length : Int) < (x0_1.length : Int) := of_decide_eq_true (by first | (with_reducible assumption) | assumption)
      have hx263_0 := (view_cell HO_0.out hA_ (l1.length : Int) p263 q263).1
      (try simp only [Go.IntWalk.toNatUp] at hx263_0)
      replace p263 := eq_true p263
      replace q263 := eq_true q263
      have p14 : 0 ≤ ((l1.length : Int) : Int) := of_decide_eq_true (by first | (with_reducible assumption) | assumption)
      have q14 : ((l1.length : Int) : Int) < ((x0_1.length : Int) : Int) := of_decide_eq_true (by first | (with_reducible assumption) | assumption)
      obtain ⟨hx14_0, hf14_0⟩ := view_cell HO_0.out hA_ ((l1.length : Int) : Int) p14 q14
      (try simp only [Int.toNat_natCast] at hx14_0 hf14_0)
      replace p14 := eq_true p14
      replace q14 := eq_true q14
      have HP16 := view_put HO_0.out hA_ ((l1.length : Int) : Int) (by first | exact of_eq_true (by assumption) | omega) (by first | exact of_eq_true (by assumption) | omega) (IntKind.u64.wrap ((rd x0_1 (l1.length : Int)) + x4_1))
      go_wp2_with (first | ((with_reducible refine gate_store (t := 24) (p := 35) rfl ?_); refine store_event (t := 24) (p := 35) (v := ?vo_w17) (w1 := (wr.setCell ⟨g_, off_ + ((l1.length : Int) : Int).toNat, none⟩ (.int .u64 (IntKind.u64.wrap ((rd x0_1 (l1.length : Int)) + x4_1))))) ?hg ?ho ?hn ?hr ?_; (case ho => rfl); (case hg => rfl); (case hn => rfl); (case hr => first | (go_simp; done) | (go_simp; rfl)); intro w17 hw; have hg : wr.grownBy w17 (some g_) := (by rw [hw]; exact HP16.2); have hp_ : Kd.R (Kd.int .u64) 24 w17 w0.heap.size (fun k_ => (P0_ k_ ∨ w.heap.size ≤ k_)) (.slice (some ⟨g_, 0, none⟩) N_ C_) (A_ ++ y264 ++ B_) := (by rw [hw, Ny264.out]; exact HP16.1); clear HP16; have n0_ := Aside0.mk (hp_); have n1_ := Aside0.mk ((by rw [hw]; exact below_set (HB.out) hg_ : Below w0.heap.size w0 w17)); have n2_ := Aside0.mk (Kept.of_grown (S := (fun k_ => P0_ k_)) hg (by repeat (first | (with_reducible first | exact HK.out | apply Kept.alloc | apply Kept.drewN | apply Kept.drew) | exact HK.out)) (fun k_ e_ => (HO_0.out.1 k_ e_))); have n9_ : Aside0 (y264.length = m_) := ⟨by first | (rw [Ny264.out, List.length_set]; exact HL_.out)⟩; clear HL_; clear HO_0; clear HB; clear HK; have HL_ := n9_; have HO_0 := n0_; have HB := n1_; have HK := n2_; clear n0_ n1_ n2_ n9_; clear hg hw hp_))
      first | go_end0 | ((try simp only [Exit.inBlock, Exit.then]); refine bodyPost_ret (results_none rfl _ _ _) rfl ?_)
      exact ⟨by first | rfl | (simp [errW_none, errW_some] <;> rfl) | (simp [*, errW_none, errW_some] <;> rfl), ⟨by first | ((with_reducible repeat (first | apply Kd.R_alloc | apply Kd.R_drewN | apply Kd.R_drew)); exact HO_0.out) | (simpa [List.append_assoc] using HO_0.out), HL_.out⟩, by repeat (first | (with_reducible first | exact HB.out | apply below_alloc | apply pw_below_drewN | apply below_drew1) | exact HB.out), by repeat (first | (with_reducible first | exact HK.out | apply Kept.alloc | apply Kept.drewN | apply Kept.drew) | exact HK.out)⟩
     ·rw [if_neg c13] at H
      exact absurd H (by simp)
    ·rw [if_neg c12] at H
     exact absurd H (by simp)
set_option maxHeartbeats 8000000 in
set_option maxRecDepth 100000 in
theorem nat_number_less.callsAt (w0 : World) (k : Nat) (P0_ : Nat → Prop) (g_ N_ C_ off_ m_ cw_ : Nat) (A_ B_ : List Int) (hA_ : A_.length = off_) (hcw_ : m_ ≤ cw_) (hg_ : w0.heap.size ≤ g_) (l0 : List Int) (A1 : Option Addr) (c1 : Nat) (l1 : List Int) (a2 : Int) (r1 : Bool) (r2 : List Int) (w : World) (hB : Below w0.heap.size w0 w) (ho0 : Kd.R (Kd.int .u64) 24 w w0.heap.size P0_ (.slice (some ⟨g_, 0, none⟩) N_ C_) (A_ ++ l0 ++ B_)) (hl0 : l0.length = m_) (hr1 : ∀ W_, Kept w W_ (fun k_ => P0_ k_) → Kd.C (Kd.int .u64) W_ A1 l1.length l1) (hc1 : l1.length ≤ c1) (h : nat_number_less.f k l0 l1 a2 = some (r1, r2)) :
  Calls Tryd.prog 51 #[.slice (some ⟨g_, off_, none⟩) m_ cw_, .slice A1 l1.length c1, .int .u64 a2] w fun e w' => e = .returned (.bool r1) ∧ (Kd.R (Kd.int .u64) 24 w' w0.heap.size (fun k_ => (P0_ k_ ∨ w.heap.size ≤ k_)) (.slice (some ⟨g_, 0, none⟩) N_ C_) (A_ ++ r2 ++ B_) ∧ r2.length = m_) ∧ Below w0.heap.size w0 w' ∧ Kept w w' (fun k_ => P0_ k_) := by
 have HO0 := Aside0.mk (show Kd.R (Kd.int .u64) 24 w w0.heap.size (fun k_ => (P0_ k_ ∨ w.heap.size ≤ k_)) (.slice (some ⟨g_, 0, none⟩) N_ C_) (A_ ++ l0 ++ B_) from Kd.R_mono ho0 (fun k_ hk => (.inl hk)))
 have HR1 := Aside0.mk hr1
 have HC1 := Aside0.mk hc1
 clear hr1 hc1
 have HK := Aside0.mk (Kept.refl w (fun k_ => P0_ k_))
 have HW0 := Aside0.mk hB.size
 have HB := Aside0.mk hB
 clear hB
 have H : (nat_number_less.l0 k l0 l1 a2 0 0 l1 (l1.length : Int) 0) = some (r1, r2) := h
 clear h
 have H' := Aside0.mk H
 clear H
 go_enter Tryd.func51, Tryd.ntmps51
 go_wp2
 go_loopg [7, 8, 16] k (fun kq v7 v8 v16 w' => ∃ (x0_1 : List Int) (x7_1 : Int) (x8_1 : Int) (x16_1 : Int), v7 = .int .u64 x7_1 ∧ v8 = .int .u64 x8_1 ∧ v16 = .int .i64 x16_1 ∧ Aside0 (nat_number_less.l0 kq x0_1 l1 a2 x7_1 x8_1 l1 (l1.length : Int) x16_1 = some (r1, r2)) ∧ Aside0 (kq ≤ k) ∧ Aside0 (Kd.R (Kd.int .u64) 24 w' w0.heap.size (fun k_ => (P0_ k_ ∨ w.heap.size ≤ k_)) (.slice (some ⟨g_, 0, none⟩) N_ C_) (A_ ++ x0_1 ++ B_)) ∧ Aside0 (x0_1.length = m_) ∧ Aside0 (Kept w w' (fun k_ => P0_ k_)) ∧ Aside0 (Below w0.heap.size w0 w'))
 case atStart => exact ⟨(l0), (0), (0), (0), (by first | rfl | (simp; done) | (simp [*]; done)), (by first | rfl | (simp; done) | (simp [*]; done)), (by first | rfl | (simp; done) | (simp [*]; done)), H', ⟨Nat.le_refl _⟩, ⟨by (with_reducible repeat (first | apply Kd.R_alloc | apply Kd.R_drewN | apply Kd.R_drew)); exact HO0.out⟩, ⟨hl0⟩, ⟨by repeat (first | (with_reducible first | exact HK.out | apply Kept.alloc | apply Kept.drewN | apply Kept.drew) | exact HK.out)⟩, ⟨by repeat (first | (with_reducible first | exact HB.out | apply below_alloc | apply pw_below_drewN | apply below_drew1) | exact HB.out)⟩⟩
 case round =>
  clear H'
  try clear c1
  try clear p2
  obtain ⟨x0_1, x7_1, x8_1, x16_1, rfl, rfl, rfl, HA, HK1, HO_0, HL_, HK, HB⟩ := hrel
  cases gk with
  | zero => exact absurd HA.out (by simp [nat_number_less.l0])
  | succ k1 =>
   have H := HA.out
   clear HA
   simp only [nat_number_less.l0] at H
   by_cases c4 : x16_1 < (l1.length : Int)
   ·rw [if_pos c4] at H
    have c4b0 : decide (x16_1 < (l1.length : Int)) = true := decide_eq_true c4
    clear c4
    by_cases c5 : 0 ≤ x16_1
    ·rw [if_pos c5] at H
     have c5b0 : decide (0 ≤ x16_1) = true := decide_eq_true c5
     clear c5
     by_cases c6 : x16_1 < (l1.length : Int)
     ·rw [if_pos c6] at H
      have c6b0 : decide (x16_1 < (l1.length : Int)) = true := decide_eq_true c6
      clear c6
      replace H := Option.bind_eq_some_iff.mp H
      obtain ⟨⟨t254, t255⟩, A70, H⟩ := H
      (try dsimp only at H)
      have A7 := Aside0.mk A70
      clear A70
      by_cases c8 : x16_1 < (x0_1.length : Int)
      ·rw [if_pos c8] at H
       have c8b0 : decide (x16_1 < (x0_1.length : Int)) = true := decide_eq_true c8
       have c8m0 : decide (x16_1 < (m_ : Int)) = true := by rw [← HL_.out]; exact c8b0
       have c8mq := eq_true (show x16_1 < (m_ : Int) from of_decide_eq_true c8m0)
       clear c8
       by_cases c9 : x8_1 ≤ 1
       ·rw [if_pos c9] at H
        have c9b0 := eq_true c9
        have c9b1 : decide (x8_1 ≤ 1) = true := decide_eq_true c9
        clear c9
        obtain ⟨y257, hy257⟩ : ∃ y_ : List Int, y_ = (x0_1.set (x16_1 : Int).toNat (sub64s (rd x0_1 x16_1) (add64s t255 x7_1 0) x8_1)) := ⟨_, rfl⟩
        replace H : (nat_number_less.l0 k1 y257 l1 a2 (IntKind.u64.wrap (t254 + (add64c t255 x7_1 0))) (sub64c (rd x0_1 x16_1) (add64s t255 x7_1 0) x8_1) l1 (l1.length : Int) (wrap64 (x16_1 + 1))) = some (r1, r2) := by first | (rw [hy257]; with_reducible exact H) | (have H2_ := (Option.bind_some _ _).symm.trans H; rw [hy257]; with_reducible exact H2_) | (have H2_ := (Option.bind_some _ _).symm.trans H; with_reducible exact H2_) | with_reducible exact H | (rw [hy257]; exact H) | exact H
        have Ny257 := Aside0.mk hy257
        clear hy257
        have H' := Aside0.mk H
        clear H
        have p253 : 0 ≤ (x16_1 : Int) := of_decide_eq_true (by first | (with_reducible assumption) | assumption)
        have q253 : x16_1 < (l1.length : Int) := of_decide_eq_true (by first | (with_reducible assumption) | assumption)
        obtain ⟨ad253, e253, hx253_0⟩ := Kd.at_int (Kd.C_kept_now HR1.out HK.out) x16_1 p253 q253
        cases e253
        replace p253 := eq_true p253
        replace q253 := eq_true q253
        go_wp2_with (first | ((with_reducible refine gate_callee (f := 45) rfl ?_); refine goesL_ (some 24) rfl rfl Tryd.func45 (by kernel_rfl) rfl #[.int .u64 (rd l1 x16_1), .int .u64 a2] rfl (by (try simp only [List.map_toArray, List.map_cons, List.map_nil]); first | done | rfl | (simp only [List.length_drop, List.length_take]; rfl)) ?_; (with_reducible refine (bits_Mul64.calls (rd l1 x16_1) a2 t254 t255 _ A7.out).mono ?_); rintro e w' ⟨rfl, ⟨nd, rfl⟩⟩; refine ⟨_, rfl, ?_⟩; (try (rw [drewN_self wr]; generalize hq_ : World.drewN wr _ = wr; have n0_ : Aside0 (Kd.R (Kd.int .u64) 24 wr w0.heap.size (fun k_ => (P0_ k_ ∨ w.heap.size ≤ k_)) (.slice (some ⟨g_, 0, none⟩) N_ C_) (A_ ++ x0_1 ++ B_)) := ⟨by rw [← hq_]; exact (by (with_reducible repeat (first | apply Kd.R_alloc | apply Kd.R_drewN | apply Kd.R_drew)); exact HO_0.out)⟩; have n1_ : Aside0 (Kept w wr (fun k_ => P0_ k_)) := ⟨by rw [← hq_]; exact (by repeat (first | (with_reducible first | exact HK.out | apply Kept.alloc | apply Kept.drewN | apply Kept.drew) | exact HK.out))⟩; have n2_ : Aside0 (Below w0.heap.size w0 wr) := ⟨by rw [← hq_]; exact (by repeat (first | (with_reducible first | exact HB.out | apply below_alloc | apply pw_below_drewN | apply below_drew1) | exact HB.out))⟩; clear HO_0 HK HB hq_; have HO_0 := n0_; have HK := n1_; have HB := n2_; clear n0_ n1_ n2_)); have p256 : 0 ≤ (x16_1 : Int) := of_decide_eq_true (by first | (with_reducible assumption) | assumption); have q256 : x16_1 < (x0_1.length : Int) := of_decide_eq_true (by first | (with_reducible assumption) | assumption); have hx256_0 := (view_cell HO_0.out hA_ x16_1 p256 q256).1; replace p256 := eq_true p256; replace q256 := eq_true q256; have p10 : 0 ≤ (x16_1 : Int) := of_decide_eq_true (by first | (with_reducible assumption) | assumption); have q10 : (x16_1 : Int) < ((x0_1.length : Int) : Int) := of_decide_eq_true (by first | (with_reducible assumption) | assumption); obtain ⟨hx10_0, hf10_0⟩ := view_cell HO_0.out hA_ (x16_1 : Int) p10 q10; replace p10 := eq_true p10; replace q10 := eq_true q10; obtain ⟨hy12_, hz12_⟩ := view_cell HO_0.out hA_ (x16_1 : Int) (of_decide_eq_true (by first | (with_reducible assumption) | assumption)) (of_decide_eq_true (by first | (with_reducible assumption) | assumption)); have HP12 := view_put HO_0.out hA_ (x16_1 : Int) (by first | exact of_eq_true (by assumption) | omega) (by first | exact of_eq_true (by assumption) | omega) (sub64s (rd x0_1 x16_1) (add64s t255 x7_1 0) x8_1)) | ((with_reducible refine gate_store (t := 24) (p := 48) rfl ?_); refine store_event (t := 24) (p := 48) (v := ?vo_w13) (w1 := (wr.setCell ⟨g_, off_ + (x16_1 : Int).toNat, none⟩ (.int .u64 (sub64s (rd x0_1 x16_1) (add64s t255 x7_1 0) x8_1)))) ?hg ?ho ?hn ?hr ?_; (case ho => rfl); (case hg => rfl); (case hn => rfl); (case hr => first | (go_simp; done) | (go_simp; rfl)); intro w13 hw; have hg : wr.grownBy w13 (some g_) := (by rw [hw]; exact HP12.2); have hp_ : Kd.R (Kd.int .u64) 24 w13 w0.heap.size (fun k_ => (P0_ k_ ∨ w.heap.size ≤ k_)) (.slice (some ⟨g_, 0, none⟩) N_ C_) (A_ ++ y257 ++ B_) := (by rw [hw, Ny257.out]; exact HP12.1); clear HP12; have n0_ := Aside0.mk (hp_); have n1_ := Aside0.mk ((by rw [hw]; exact below_set (HB.out) hg_ : Below w0.heap.size w0 w13)); have n2_ := Aside0.mk (Kept.of_grown (S := (fun k_ => P0_ k_)) hg (by repeat (first | (with_reducible first | exact HK.out | apply Kept.alloc | apply Kept.drewN | apply Kept.drew) | exact HK.out)) (fun k_ e_ => (HO_0.out.1 k_ e_))); have n9_ : Aside0 (y257.length = m_) := ⟨by first | (rw [Ny257.out, List.length_set]; exact HL_.out)⟩; clear HL_; clear HO_0; clear HB; clear HK; have HL_ := n9_; have HO_0 := n0_; have HB := n1_; have HK := n2_; clear n0_ n1_ n2_ n9_; clear hg hw hp_))
        go_roundg k1
        case measure => have := HK1.out; omega
        case rel => exact ⟨(y257), (IntKind.u64.wrap (t254 + (add64c t255 x7_1 0))), (sub64c (rd x0_1 x16_1) (add64s t255 x7_1 0) x8_1), (wrap64 (x16_1 + 1)), (by first | rfl | (simp; done) | (simp [*]; done)), (by first | rfl | (simp; done) | (simp [*]; done)), (by first | rfl | (simp; done) | (simp [*]; done)), H', ⟨by have := HK1.out; omega⟩, ⟨by (with_reducible repeat (first | apply Kd.R_alloc | apply Kd.R_drewN | apply Kd.R_drew)); exact HO_0.out⟩, HL_, ⟨by repeat (first | (with_reducible first | exact HK.out | apply Kept.alloc | apply Kept.drewN | apply Kept.drew) | exact HK.out)⟩, ⟨by repeat (first | (with_reducible first | exact HB.out | apply below_alloc | apply pw_below_drewN | apply below_drew1) | exact HB.out)⟩⟩
       ·rw [if_neg c9] at H
        exact absurd H (by simp)
      ·rw [if_neg c8] at H
       exact absurd H (by simp)
     ·rw [if_neg c6] at H
      exact absurd H (by simp)
    ·rw [if_neg c5] at H
     exact absurd H (by simp)
   ·rw [if_neg c4] at H
    have c4b0 : decide (x16_1 < (l1.length : Int)) = false := decide_eq_false c4
    clear c4
    by_cases c14 : 0 ≤ (l1.length : Int)
    ·rw [if_pos c14] at H
     have c14b0 : decide (0 ≤ (l1.length : Int)) = true := decide_eq_true c14
     have c14b1 : decide (0 ≤ l1.length) = true := decide_eq_true (by omega)
     clear c14
     by_cases c15 : (l1.length : Int) < (x0_1.length : Int)
     ·rw [if_pos c15] at H
      have c15b0 : decide ((l1.length : Int) < (x0_1.length : Int)) = true := decide_eq_true c15
      have c15m0 : decide ((l1.length : Int) < (m_ : Int)) = true := by rw [← HL_.out]; exact c15b0
      have c15mq := eq_true (show (l1.length : Int) < (m_ : Int) from of_decide_eq_true c15m0)
      have c15b1 : decide (l1.length < x0_1.length) = true := decide_eq_true (Int.ofNat_lt.mp c15)
      have c15m1 : decide (l1.length < m_) = true := by rw [← HL_.out]; exact c15b1
      clear c15
      by_cases c16 : x8_1 ≤ 1
      ·rw [if_pos c16] at H
       have c16b0 := eq_true c16
       have c16b1 : decide (x8_1 ≤ 1) = true := decide_eq_true c16
       clear c16
       obtain ⟨y259, hy259⟩ : ∃ y_ : List Int, y_ = (x0_1.set ((l1.length : Int) : Int).toNat (sub64s (rd x0_1 (l1.length : Int)) x7_1 x8_1)) := ⟨_, rfl⟩
       replace H : (some (decide ((sub64c (rd x0_1 (l1.length : Int)) x7_1 x8_1) > 0), y259)) = some (r1, r2) := by first | (rw [hy259]; with_reducible exact H) | (have H2_ := (Option.bind_some _ _).symm.trans H; rw [hy259]; with_reducible exact H2_) | (have H2_ := (Option.bind_some _ _).symm.trans H; with_reducible exact H2_) | with_reducible exact H | (rw [hy259]; exact H) | exact H
       have Ny259 := Aside0.mk hy259
       clear hy259
       simp only [Option.some.injEq, Prod.mk.injEq] at H
       obtain ⟨rfl, rfl⟩ := H
       have p258 : 0 ≤ ((l1.length : Int) : Int) := of_decide_eq_true (by first | (with_reducible assumption) | assumption)
       have q258 : (l1.length : Int) < (x0_1.length : Int) := of_decide_eq_true (by first | (with_reducible assumption) | assumption)
       have hx258_0 := (view_cell HO_0.out hA_ (l1.length : Int) p258 q258).1
       (try simp only [Go.IntWalk.toNatUp] at hx258_0)
       replace p258 := eq_true p258
       replace q258 := eq_true q258
       have p17 : 0 ≤ ((l1.length : Int) : Int) := of_decide_eq_true (by first | (with_reducible assumption) | assumption)
       have q17 : ((l1.length : Int) : Int) < ((x0_1.length : Int) : Int) := of_decide_eq_true (by first | (with_reducible assumption) | assumption)
       obtain ⟨hx17_0, hf17_0⟩ := view_cell HO_0.out hA_ ((l1.length : Int) : Int) p17 q17
       (try simp only [Int.toNat_natCast] at hx17_0 hf17_0)
       replace p17 := eq_true p17
       replace q17 := eq_true q17
       have HP19 := view_put HO_0.out hA_ ((l1.length : Int) : Int) (by first | exact of_eq_true (by assumption) | omega) (by first | exact of_eq_true (by assumption) | omega) (sub64s (rd x0_1 (l1.length : Int)) x7_1 x8_1)
       go_wp2_with (first | ((with_reducible refine gate_store (t := 24) (p := 64) rfl ?_); refine store_event (t := 24) (p := 64) (v := ?vo_w20) (w1 := (wr.setCell ⟨g_, off_ + ((l1.length : Int) : Int).toNat, none⟩ (.int .u64 (sub64s (rd x0_1 (l1.length : Int)) x7_1 x8_1)))) ?hg ?ho ?hn ?hr ?_; (case ho => rfl); (case hg => rfl); (case hn => rfl); (case hr => first | (go_simp; done) | (go_simp; rfl)); intro w20 hw; have hg : wr.grownBy w20 (some g_) := (by rw [hw]; exact HP19.2); have hp_ : Kd.R (Kd.int .u64) 24 w20 w0.heap.size (fun k_ => (P0_ k_ ∨ w.heap.size ≤ k_)) (.slice (some ⟨g_, 0, none⟩) N_ C_) (A_ ++ y259 ++ B_) := (by rw [hw, Ny259.out]; exact HP19.1); clear HP19; have n0_ := Aside0.mk (hp_); have n1_ := Aside0.mk ((by rw [hw]; exact below_set (HB.out) hg_ : Below w0.heap.size w0 w20)); have n2_ := Aside0.mk (Kept.of_grown (S := (fun k_ => P0_ k_)) hg (by repeat (first | (with_reducible first | exact HK.out | apply Kept.alloc | apply Kept.drewN | apply Kept.drew) | exact HK.out)) (fun k_ e_ => (HO_0.out.1 k_ e_))); have n9_ : Aside0 (y259.length = m_) := ⟨by first | (rw [Ny259.out, List.length_set]; exact HL_.out)⟩; clear HL_; clear HO_0; clear HB; clear HK; have HL_ := n9_; have HO_0 := n0_; have HB := n1_; have HK := n2_; clear n0_ n1_ n2_ n9_; clear hg hw hp_))
       go_ret
       exact ⟨by first | rfl | (simp [errW_none, errW_some] <;> rfl) | (simp [*, errW_none, errW_some] <;> rfl), ⟨by first | ((with_reducible repeat (first | apply Kd.R_alloc | apply Kd.R_drewN | apply Kd.R_drew)); exact HO_0.out) | (simpa [List.append_assoc] using HO_0.out), HL_.out⟩, by repeat (first | (with_reducible first | exact HB.out | apply below_alloc | apply pw_below_drewN | apply below_drew1) | exact HB.out), by repeat (first | (with_reducible first | exact HK.out | apply Kept.alloc | apply Kept.drewN | apply Kept.drew) | exact HK.out)⟩
      ·rw [if_neg c16] at H
       exact absurd H (by simp)
     ·rw [if_neg c15] at H
      exact absurd H (by simp)
    ·rw [if_neg c14] at H
     exact absurd H (by simp)
/-- A cut xs[L:H] of a slice, as a value. -/
def viewOf : Value → Int → Int → Value
 | .slice A N C, L, H => .slice (if C = L.toNat then A else A.map (·.add (L.toNat * 1))) (H.toNat - L.toNat) (C - L.toNat)
 | v, _, _ => v
theorem view_parts {U : List Int} {L H : Int} (h0 : 0 ≤ L) (h1 : L ≤ H) (h2 : H ≤ (U.length : Int)) : U.take L.toNat ++ (U.take H.toNat).drop L.toNat ++ U.drop H.toNat = U ∧ (U.take L.toNat).length = L.toNat ∧ ((U.take H.toNat).drop L.toNat).length = H.toNat - L.toNat := by
 refine ⟨?_, by rw [List.length_take]; omega, by rw [List.length_drop, List.length_take]; omega⟩
 have e : U.take L.toNat = (U.take H.toNat).take L.toNat := by rw [List.take_take]; congr 1; omega
 rw [e, List.take_append_drop, List.take_append_drop]
theorem view_value {e : TypeId} {w : World} {base : Nat} {ok : Nat → Prop} {v : Value} {U : List Int} {L H : Int} {Aq : Option Addr} {nq cq : Nat} (h : Kd.R (Kd.int .u64) e w base ok v U) (h0 : 0 ≤ L) (h1 : L < H) (h2 : H ≤ (U.length : Int)) (hq : Value.slice Aq nq cq = viewOf v L H) :
  ∃ g N C, v = .slice (some ⟨g, 0, none⟩) N C ∧ base ≤ g ∧ Aq = some ⟨g, L.toNat, none⟩ ∧ nq = H.toNat - L.toNat ∧ H.toNat - L.toNat ≤ cq := by
 obtain ⟨g, cap, he, hb, _, _⟩ := Kd.R_form h (by omega)
 have hc := (Kd.R_reads' (A := some ⟨g, 0, none⟩) (n := U.length) (c := cap) (by rw [← he]; exact h)).2.1
 rw [he] at hq
 simp only [viewOf] at hq
 injection hq with q1 q2 q3
 rw [if_neg (by omega)] at q1
 refine ⟨g, _, _, he, hb, ?_, q2, by omega⟩
 rw [q1, Nat.mul_one]; simp only [Option.map_some, add_plain]
def nat_number_backAt.f (k : Nat) (U : List Int) (L H : Int) (d : List Int) : Option (List Int) := if 0 ≤ L then (if L < H then (if H ≤ (U.length : Int) then ((nat_number_back.f k ((U.take H.toNat).drop L.toNat) d).bind fun r => (some (U.take L.toNat ++ r ++ U.drop H.toNat))) else (none)) else (none)) else (none)
theorem nat_number_backAt.calls {Aq : Option Addr} {nq cq : Nat} (k : Nat) (P0_ : Nat → Prop) (u9000_ : Value) (l0 : List Int) (L H : Int) (A1 : Option Addr) (c1 : Nat) (l1 : List Int) (r : List Int) (w0 w : World) (hq : Value.slice Aq nq cq = viewOf u9000_ L H) (hB : Below w0.heap.size w0 w) (ho0 : Kd.R (Kd.int .u64) 24 w w0.heap.size P0_ u9000_ l0) (hr1 : ∀ W_, Kept w W_ (fun k_ => P0_ k_) → Kd.C (Kd.int .u64) W_ A1 l1.length l1) (hc1 : l1.length ≤ c1) (h : nat_number_backAt.f k l0 L H l1 = some r) :
  Calls Tryd.prog 52 #[.slice Aq nq cq, .slice A1 l1.length c1] w fun e w' => e = .returned (.tuple #[]) ∧ Kd.R (Kd.int .u64) 24 w' w0.heap.size (fun k_ => (P0_ k_ ∨ w.heap.size ≤ k_)) u9000_ r ∧ Below w0.heap.size w0 w' ∧ Kept w w' (fun k_ => P0_ k_) := by
 unfold nat_number_backAt.f at h
 by_cases h0 : 0 ≤ L
 ·rw [if_pos h0] at h
  by_cases h1 : L < H
  ·rw [if_pos h1] at h
   by_cases h2 : H ≤ (l0.length : Int)
   ·rw [if_pos h2] at h
    obtain ⟨r0, hr0, h⟩ := Option.bind_eq_some_iff.mp h
    obtain rfl := Option.some.inj h
    obtain ⟨p1, p2, p3⟩ := view_parts h0 (Int.le_of_lt h1) h2
    obtain ⟨g, N, C, rfl, hb, rfl, rfl, hc⟩ := view_value ho0 h0 h1 h2 hq
    rw [← p1] at ho0
    refine (nat_number_back.callsAt w0 k P0_ g N C L.toNat (H.toNat - L.toNat) cq (l0.take L.toNat) (l0.drop H.toNat) p2 hc hb _ A1 c1 l1 r0 w hB ho0 p3 hr1 hc1 hr0).mono ?_
    rintro e w' ⟨rfl, ⟨ho, _⟩, hb2, hk⟩
    exact ⟨rfl, ho, hb2, hk⟩
   ·rw [if_neg h2] at h; cases h
  ·rw [if_neg h1] at h; cases h
 ·rw [if_neg h0] at h; cases h
def nat_number_lessAt.f (k : Nat) (U : List Int) (L H : Int) (d : List Int) (n : Int) : Option (Bool × List Int) := if 0 ≤ L then (if L < H then (if H ≤ (U.length : Int) then ((nat_number_less.f k ((U.take H.toNat).drop L.toNat) d n).bind fun r => (some (r.1, U.take L.toNat ++ r.2 ++ U.drop H.toNat))) else (none)) else (none)) else (none)
theorem nat_number_lessAt.calls {Aq : Option Addr} {nq cq : Nat} (k : Nat) (P0_ : Nat → Prop) (u9000_ : Value) (l0 : List Int) (L H : Int) (A1 : Option Addr) (c1 : Nat) (l1 : List Int) (a2 : Int) (r1 : Bool) (r2 : List Int) (w0 w : World) (hq : Value.slice Aq nq cq = viewOf u9000_ L H) (hB : Below w0.heap.size w0 w) (ho0 : Kd.R (Kd.int .u64) 24 w w0.heap.size P0_ u9000_ l0) (hr1 : ∀ W_, Kept w W_ (fun k_ => P0_ k_) → Kd.C (Kd.int .u64) W_ A1 l1.length l1) (hc1 : l1.length ≤ c1) (h : nat_number_lessAt.f k l0 L H l1 a2 = some (r1, r2)) :
  Calls Tryd.prog 51 #[.slice Aq nq cq, .slice A1 l1.length c1, .int .u64 a2] w fun e w' => e = .returned (.bool r1) ∧ Kd.R (Kd.int .u64) 24 w' w0.heap.size (fun k_ => (P0_ k_ ∨ w.heap.size ≤ k_)) u9000_ r2 ∧ Below w0.heap.size w0 w' ∧ Kept w w' (fun k_ => P0_ k_) := by
 unfold nat_number_lessAt.f at h
 by_cases h0 : 0 ≤ L
 ·rw [if_pos h0] at h
  by_cases h1 : L < H
  ·rw [if_pos h1] at h
   by_cases h2 : H ≤ (l0.length : Int)
   ·rw [if_pos h2] at h
    obtain ⟨⟨s1, s2⟩, hr0, h⟩ := Option.bind_eq_some_iff.mp h
    have h' := Option.some.inj h
    injection h' with e1 e2
    dsimp only at e1 e2
    subst e1 e2
    obtain ⟨p1, p2, p3⟩ := view_parts h0 (Int.le_of_lt h1) h2
    obtain ⟨g, N, C, rfl, hb, rfl, rfl, hc⟩ := view_value ho0 h0 h1 h2 hq
    rw [← p1] at ho0
    refine (nat_number_less.callsAt w0 k P0_ g N C L.toNat (H.toNat - L.toNat) cq (l0.take L.toNat) (l0.drop H.toNat) p2 hc hb _ A1 c1 l1 a2 s1 s2 w hB ho0 p3 hr1 hc1 hr0).mono ?_
    rintro e w' ⟨rfl, ⟨ho, _⟩, hb2, hk⟩
    exact ⟨rfl, ho, hb2, hk⟩
   ·rw [if_neg h2] at h; cases h
  ·rw [if_neg h1] at h; cases h
 ·rw [if_neg h0] at h; cases h
end Go.Proofs.YtdbhednhhmbooaaDoor.PAll
