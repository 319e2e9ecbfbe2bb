/- Printed functions, merged by a program of this session. -/
import Derived.Test.YtnjfckadjklmfaaDoorXRoundPointsP0
import Derived.Test.YtnjfckadjklmfaaDoorXRoundPointsP4
import Derived.Test.YtnjfckadjklmfaaDoorXRoundPointsSh
namespace Go.Proofs.YtnjfckadjklmfaaDoor.PAll
open Go.RowKit Go.Proofs.YtnjfckadjklmfaaDoorW.PrintWords Go.Proofs.YtnjfckadjklmfaaDoorW.PrintLast Go.Proofs.YtnjfckadjklmfaaDoorW.PrintMore Go.Proofs.YtnjfckadjklmfaaDoorW.PrintWords.Kd
attribute [local go_sem] max2_int min2_int max_two min_two max_three min_three max_four min_four   -- for this text's walks alone
set_option linter.unusedVariables false
set_option linter.unusedSimpArgs false
attribute [local go_sem] fld75_0 fld75_1 fld75_2 ext118 ext119
def ulplaw05_power.f (a0 : Int) : Option (Bool × List Int × Int) := some (false, (([1] : List Int)), a0)
set_option maxHeartbeats 8000000 in
set_option maxRecDepth 100000 in
theorem ulplaw05_power.calls (a0 : Int) (r1 : Bool) (r2 : List Int) (r3 : Int) (w : World) (h : ulplaw05_power.f a0 = some (r1, r2, r3)) :
  Calls Tryd.prog 30 #[.int .i64 a0] w fun e w' => ∃ v1_ : Value, e = .returned (.agg #[.bool r1, v1_, .int .i64 r3]) ∧ Kd.R (Kd.int .u64) 26 w' w.heap.size (fun _ => True) v1_ r2 ∧ Below w.heap.size w w' := by
 have hu25 := Tryd.underlying25;have HB := zA (Below.refl w.heap.size w);have H : (some (false, (([1] : List Int)), a0)) = some (r1, r2, r3) := h;clear h;obtain ⟨a7, a2⟩ : ∃ y_ : List Int, y_ = (([1] : List Int)) := ⟨_, rfl⟩;replace H : (some (false, a7, a0)) = some (r1, r2, r3) := zR a2 H;have a4 := zA a2;clear a2;simp only [Option.some.injEq, Prod.mk.injEq] at H;obtain ⟨rfl, rfl, rfl⟩ := H;go_enter Tryd.func30, Tryd.ntmps30
 go_wp2_with (first | ((with_reducible refine zD 2 rfl ?_); refine zn (N := 2) (cs := #[.bool false, .slice none 0 0, .int .i64 0]) (t := 25) rfl rfl ?_; intro a5 hg w2 hbox hb; have a1 := zA (hbox); have ab := zw hg; replace HB := ze hb; clear hb hbox hg) | ((with_reducible refine zD 3 rfl ?_); refine R_lit (Kd.int .u64) _ 26 ?hg (N := 3) ?hd (xs := ([1] : List Int)) (inner := [.int .u64 1]) (ok := fun _ => True) (okp := fun _ => True) ?hr ?hp (fun _ hk => hk) trivial (Below.refl _ _) (Nat.le_refl _) (by simp) ?_; (case hd => rfl); (case hg => rfl); (case hr => first | (go_simp; done) | (go_simp; rfl)); (case hp => exact (Reps.one (show Kd.M (Kd.int .u64) _ _ _ 1 [.int .u64 1] from rfl) (Reps.none _ _))); intro v554 w3 a3 hb hg_ hnew_; clear hg_ hnew_; (first | rw [← a4.out] at a3 | (simp only [Int.reduceToNat] at a3; rw [← a4.out] at a3)); have a6 := zA (R_lower a3 (below_size zs)); replace a1 := zb a1 hb; replace HB := zf hb; clear hb a3; obtain ⟨a8, a9, aa⟩ := R_slice a6.out; subst aa; obtain ⟨_, _, _, _, _, _⟩ := zc a1))
 refine bodyPost_ret (results_cell_row rfl _ _ a5 25 #[.bool false, .slice a8 a7.length a9, .int .i64 a0] (0, 0) _ rfl (zy a1) Tryd.underlying25 rfl (by kernel_rfl)) rfl ?_;exact ⟨_, er, ru (R_mono (zr a5 (R_types a6.out a1.out (by decide)) (fun _ hk => hk.2) _ _ _) (fun _ hk => trivial)), zs⟩
theorem eqA29 (d : Nat) (w : World) (x0 y0 : Int) (x1 y1 : Int) :
  (Op.equalIn (d + 2) 29 (.agg #[.int .u64 x0, .int .u8 x1]) (.agg #[.int .u64 y0, .int .u8 y1])).run Tryd.prog w = .ok (x0 == y0 && (x1 == y1)) w := by
 refine eqA_of Tryd.underlying29 (by kernel_rfl) ?_;refine eqf_cons (by rfl) (by go_simp; rfl) (by go_simp; rfl) (by go_simp) ?_;exact eqf_last (by rfl) (by go_simp; rfl) (by go_simp; rfl) (by go_simp)
def limbs_Low.l0 : Nat → List Int → Int → Int → Option (Int)
 | 0, _, _, _ => none
 | k + 1, x5, x6, x7 => if x7 < x6 then (if 0 ≤ x7 then (if x7 < (x5.length : Int) then (if (rd x5 x7) = 0 then (limbs_Low.l0 k x5 x6 (wrap64 (x7 + 1))) else ((bits_TrailingZeros64.f (rd x5 x7)).bind fun a1 => (some (wrap64 ((wrap64 (64 * x7)) + a1))))) else (none)) else (none)) else (some 0)
def limbs_Low.f (k : Nat) (l0 : List Int) : Option (Int) := limbs_Low.l0 k l0 (l0.length : Int) 0
theorem limbs_Low.mono_l : ∀ k, (∀ y0 y1 y2, LeO (limbs_Low.l0 k y0 y1 y2) (limbs_Low.l0 (k + 1) y0 y1 y2))
 | 0 => fun _ _ _ r h => by simp [limbs_Low.l0] at h
 | k + 1 => by
  have ih0 := limbs_Low.mono_l k;intro y0 y1 y2
  unfold limbs_Low.l0
  repeat' first
  | (with_reducible exact ih0 _ _ _)
  | (with_reducible exact LeO.refl _)
  | (with_reducible exact LeO.none _)
  | (with_reducible refine LeO.ite ?_ ?_)
  | (with_reducible refine LeO.bind ?_ (fun _ => ?_))
  | exact ih0 _ _ _
  | exact LeO.none _
  | refine LeO.ite ?_ ?_
  | refine LeO.bind ?_ (fun _ => ?_)
theorem limbs_Low.mono : ∀ a0 k, LeO (limbs_Low.f k a0) (limbs_Low.f (k + 1) a0) := by
 intro a0 k;have ih0 := limbs_Low.mono_l k
 unfold limbs_Low.f
 repeat' first
   | (with_reducible exact ih0 _ _ _)
   | (with_reducible exact LeO.refl _)
   | (with_reducible exact LeO.none _)
   | (with_reducible refine LeO.ite ?_ ?_)
   | (with_reducible refine LeO.bind ?_ (fun _ => ?_))
   | exact ih0 _ _ _
   | exact LeO.none _
   | refine LeO.ite ?_ ?_
   | refine LeO.bind ?_ (fun _ => ?_)
set_option maxHeartbeats 8000000 in
set_option maxRecDepth 100000 in
theorem limbs_Low.calls (k : Nat) (A0 : Option Addr) (c0 : Nat) (l0 : List Int) (r : Int) (w : World) (hr0 : Kd.C (Kd.int .u64) w A0 l0.length l0) (hc0 : l0.length ≤ c0) (hT : Laid w) (h : limbs_Low.f k l0 = some r) :
  Calls Tryd.prog 85 #[.slice A0 l0.length c0] w fun e w' => e = .returned (.int .i64 r) ∧ Drawn0 w w' := by
 have a3 := zA hr0;have aa := zA hc0;clear hr0 hc0;have H : (limbs_Low.l0 k l0 (l0.length : Int) 0) = some r := h;clear h;have H' := zA H;clear H;go_enter Tryd.func85, Tryd.ntmps85
 go_wp2
 go_loopg [7] k (fun kq v7 w' => ∃ (a1 : Int), v7 = .int .i64 a1 ∧ Aside0 (limbs_Low.l0 kq l0 (l0.length : Int) a1 = some r) ∧ Aside0 (kq ≤ k) ∧ Drawn0 w w')
 case atStart => exact ⟨(0), zi, H', ⟨Nat.le_refl _⟩, by repeat (first | exact Drawn0.refl _ | apply Drawn0.step)⟩
 case round =>
  clear H';obtain ⟨a1, rfl, HA, HK1, ⟨m1, rfl⟩⟩ := hrel
  cases gk with
  | zero => exact absurd HA.out (by simp [limbs_Low.l0])
  | succ k1 =>
   have H := HA.out;clear HA;simp only [limbs_Low.l0] at H
   by_cases c2 : a1 < (l0.length : Int)
   ·rw [if_pos c2] at H;have a4 := decide_eq_true c2;clear c2;replace H := dn H;obtain ⟨c3, H⟩ := H;have a8 := decide_eq_true c3;clear c3;replace H := dn H;obtain ⟨c4, H⟩ := H;have a9 := decide_eq_true c4;clear c4
    by_cases c5 : (rd l0 a1) = 0
    ·rw [if_pos c5] at H;have a5 := beq_iff_eq.mpr c5;have a6 := bne_eq_false_iff_eq.mpr c5;clear c5;have H' := zA H;clear H;have p412 : 0 ≤ (a1 : Int) := od;have q412 : a1 < (l0.length : Int) := od;obtain ⟨ad412, e412, a2⟩ := Kd.at_int a3.out a1 p412 q412;cases e412;replace p412 := eq_true p412;replace q412 := eq_true q412
     go_wp2
     go_roundg k1
     case measure => have := HK1.out; omega
     case rel => exact ⟨(wrap64 (a1 + 1)), zi, H', ⟨by have := HK1.out; omega⟩, by repeat (first | exact Drawn0.refl _ | apply Drawn0.step)⟩
    rw [if_neg c5] at H;have a5 := beq_eq_false_iff_ne.mpr c5;have a6 := bne_iff_ne.mpr c5;obtain ⟨a7, A6, H⟩ := zh H;obtain rfl := Option.some.inj H;have p412 : 0 ≤ (a1 : Int) := od;have q412 : a1 < (l0.length : Int) := od;obtain ⟨ad412, e412, a2⟩ := Kd.at_int a3.out a1 p412 q412;cases e412;replace p412 := eq_true p412;replace q412 := eq_true q412
    go_wp2_with (first | ((with_reducible refine zG 116 rfl ?_); refine zL (some 17) rfl rfl Tryd.func116 #[.int .u64 (rd l0 a1)] rfl ?_; (with_reducible refine (bits_TrailingZeros64.calls (rd l0 a1) a7 _ (by repeat (first | (with_reducible first | exact hT | apply laid_drewN | apply laid_drew) | exact hT)) A6.out).mono ?_); rintro e w' ⟨rfl, ⟨nd, rfl⟩⟩; refine ⟨_, rfl, ?_⟩))
    go_ret;exact ⟨by first | rfl | (simp; done) | (simp [*]; done), by repeat (first | exact Drawn0.refl _ | apply Drawn0.step)⟩
   rw [if_neg c2] at H;have a4 := decide_eq_false c2;clear c2;obtain rfl := Option.some.inj H
   go_wp2
   go_ret;exact ⟨by first | rfl | (simp; done) | (simp [*]; done), by repeat (first | exact Drawn0.refl _ | apply Drawn0.step)⟩
def limbs_Shr.l0 : Nat → List Int → Bool → List Int → Int → List Int → Int → Int → Option (List Int × Bool)
 | 0, _, _, _, _, _, _, _ => none
 | k + 1, x0, x6, x7, x8, x35, x36, x37 => if x37 < x36 then (if 0 ≤ x37 then (if x37 < (x35.length : Int) then (if 0 ≤ x8 then (if x37 < (x7.length : Int) then ((some (x7.set (x37 : Int).toNat (shr .u64 (rd x35 x37) x8) : List Int)).bind fun a1 => (if x8 > 0 then (if (wrap64 (x37 + 1)) < (x0.length : Int) then (if 0 ≤ (wrap64 (x37 + 1)) then (if 0 ≤ (wrap64 (64 - x8)) then (limbs_Shr.l0 k x0 x6 (a1.set (x37 : Int).toNat (Go.bits .or .u64 (rd a1 x37) (shl .u64 (rd x0 (wrap64 (x37 + 1))) (wrap64 (64 - x8))))) x8 x35 x36 (wrap64 (x37 + 1))) else (none)) else (none)) else (limbs_Shr.l0 k x0 x6 a1 x8 x35 x36 (wrap64 (x37 + 1)))) else (limbs_Shr.l0 k x0 x6 a1 x8 x35 x36 (wrap64 (x37 + 1))))) else (none)) else (none)) else (none)) else (none)) else ((limbs_Trim.f k x7).bind fun a2 => (some (a2, x6)))
def limbs_Shr.f (k : Nat) (l0 : List Int) (a1 : Int) : Option (List Int × Bool) := (limbs_Trim.f k l0).bind fun a3 => (if (a3.length : Int) = 0 then (some (([] : List Int), false)) else ((limbs_Low.f k a3).bind fun a4 => (if (wrap64 (Int.tdiv a1 64)) ≥ (a3.length : Int) then (some (([] : List Int), decide (a4 < a1))) else (if 0 ≤ (wrap64 (Int.tdiv a1 64)) then (if (wrap64 (Int.tdiv a1 64)) ≤ (a3.length : Int) then ((some (a3.drop ((wrap64 (Int.tdiv a1 64)) : Int).toNat : List Int)).bind fun a2 => (if 0 ≤ (a2.length : Int) then (if ((a2.length : Int) : Int).toNat ≤ 35184372088832 then (limbs_Shr.l0 k a2 (decide (a4 < a1)) (List.replicate ((a2.length : Int) : Int).toNat 0) (Int.tmod a1 64) a2 (a2.length : Int) 0) else (none)) else (none))) else (none)) else (none)))))
theorem limbs_Shr.mono_l : ∀ k, (∀ y0 y1 y2 y3 y4 y5 y6, LeO (limbs_Shr.l0 k y0 y1 y2 y3 y4 y5 y6) (limbs_Shr.l0 (k + 1) y0 y1 y2 y3 y4 y5 y6))
 | 0 => fun _ _ _ _ _ _ _ r h => by simp [limbs_Shr.l0] at h
 | k + 1 => by
  have ih0 := limbs_Shr.mono_l k;intro y0 y1 y2 y3 y4 y5 y6
  unfold limbs_Shr.l0
  repeat' first
  | (with_reducible exact ih0 _ _ _ _ _ _ _)
  | (with_reducible exact limbs_Low.mono _ _)
  | (with_reducible exact limbs_Trim.mono _ _)
  | (with_reducible exact LeO.refl _)
  | (with_reducible exact LeO.none _)
  | (with_reducible refine LeO.ite ?_ ?_)
  | (with_reducible refine LeO.bind ?_ (fun _ => ?_))
  | exact ih0 _ _ _ _ _ _ _
  | exact limbs_Low.mono _ _
  | exact limbs_Trim.mono _ _
  | exact LeO.none _
  | refine LeO.ite ?_ ?_
  | refine LeO.bind ?_ (fun _ => ?_)
theorem limbs_Shr.mono : ∀ a0 a1 k, LeO (limbs_Shr.f k a0 a1) (limbs_Shr.f (k + 1) a0 a1) := by
 intro a0 a1 k;have ih0 := limbs_Shr.mono_l k
 unfold limbs_Shr.f
 repeat' first
   | (with_reducible exact ih0 _ _ _ _ _ _ _)
   | (with_reducible exact limbs_Low.mono _ _)
   | (with_reducible exact limbs_Trim.mono _ _)
   | (with_reducible exact LeO.refl _)
   | (with_reducible exact LeO.none _)
   | (with_reducible refine LeO.ite ?_ ?_)
   | (with_reducible refine LeO.bind ?_ (fun _ => ?_))
   | exact ih0 _ _ _ _ _ _ _
   | exact limbs_Low.mono _ _
   | exact limbs_Trim.mono _ _
   | exact LeO.none _
   | refine LeO.ite ?_ ?_
   | refine LeO.bind ?_ (fun _ => ?_)
def limbs_Shr.T15 : Bool × List (List Nat × List Nat) := (true, [([], []), ([], []), ([0, 1], [0, 1]), ([2], [2]), ([], []), ([], []), ([5], [5]), ([4, 6], [4, 6]), ([7], [7]), ([], []), ([9], [9]), ([8, 10], [8, 10]), ([3, 11], [3, 11]), ([0, 1, 0, 1, 2, 3, 4, 5, 6, 7, 8, 9, 10, 11, 12], [0, 1]), ([13, 12, 0, 1, 2, 3, 4, 5, 6, 7, 8, 9, 10, 11, 12], [12, 13])])
def limbs_Shr.B15 : List Nat := [0, 0, 3, 7, 0, 0, 32, 112, 240, 0, 512, 2032, 4095, 8191, 16383]
theorem limbs_Shr.tab15 : rtab .any (opsOf Tryd.f86 15) = limbs_Shr.T15 := by kernel_rfl
theorem limbs_Shr.bits15 : waitsOk limbs_Shr.T15.2 limbs_Shr.B15 = true := by kernel_rfl
set_option maxHeartbeats 8000000 in
set_option maxRecDepth 100000 in
theorem limbs_Shr.calls (k : Nat) (P0_ : Nat → Prop) (A0 : Option Addr) (c0 : Nat) (l0 : List Int) (a1 : Int) (r1 : List Int) (r2 : Bool) (w : World) (hs0 : Kd.V (Kd.int .u64) 26 w w.heap.size (fun k_ => P0_ k_) (.slice A0 l0.length c0) l0) (hT : Laid w) (h : limbs_Shr.f k l0 a1 = some (r1, r2)) :
  Calls Tryd.prog 86 #[.slice A0 l0.length c0, .int .i64 a1] w fun e w' => ∃ v0_ : Value, e = .returned (.tuple #[v0_, .bool r2]) ∧ Kd.V (Kd.int .u64) 26 w' w.heap.size (fun k_ => (P0_ k_ ∨ w.heap.size ≤ k_)) v0_ r1 ∧ Below w.heap.size w w' := by
 have am := zA (show Kd.V (Kd.int .u64) 26 w w.heap.size (fun k_ => (P0_ k_ ∨ w.heap.size ≤ k_)) (.slice A0 l0.length c0) l0 from V_mono hs0 (fun k_ hk => .inl hk));have HB := zA (Below.refl w.heap.size w);have H : ((limbs_Trim.f k l0).bind fun a7 => (if (a7.length : Int) = 0 then (some (([] : List Int), false)) else ((limbs_Low.f k a7).bind fun a9 => (if (wrap64 (Int.tdiv a1 64)) ≥ (a7.length : Int) then (some (([] : List Int), decide (a9 < a1))) else (if 0 ≤ (wrap64 (Int.tdiv a1 64)) then (if (wrap64 (Int.tdiv a1 64)) ≤ (a7.length : Int) then ((some (a7.drop ((wrap64 (Int.tdiv a1 64)) : Int).toNat : List Int)).bind fun a3 => (if 0 ≤ (a3.length : Int) then (if ((a3.length : Int) : Int).toNat ≤ 35184372088832 then (limbs_Shr.l0 k a3 (decide (a9 < a1)) (List.replicate ((a3.length : Int) : Int).toNat 0) (Int.tmod a1 64) a3 (a3.length : Int) 0) else (none)) else (none))) else (none)) else (none)))))) = some (r1, r2) := h;clear h;obtain ⟨a7, A3, H⟩ := zh H
 by_cases c4 : (a7.length : Int) = 0
 ·rw [if_pos c4] at H;have aR := beq_iff_eq.mpr c4;have aS := bne_eq_false_iff_eq.mpr c4;clear c4;simp only [Option.some.injEq, Prod.mk.injEq] at H;obtain ⟨rfl, rfl⟩ := H;go_enter Tryd.func86, Tryd.ntmps86
  go_wp2_with (first | ((with_reducible refine zG 84 rfl ?_); refine zL (some 12) rfl rfl Tryd.func84 #[.slice A0 l0.length c0] rfl ?_; (with_reducible refine (limbs_Trim.calls k (fun k_ => (P0_ k_ ∨ w.heap.size ≤ k_)) _ _ l0 a7 _ ?ag A3.out).mono ?_); (case ag => exact am.out); rintro e w5 ⟨v415, rfl, an, hb⟩; refine ⟨_, rfl, ?_⟩; replace am := zA (V_below (vu am.out) hb); have ad := zA (V_lower (V_mono (ok' := fun k_ => (P0_ k_ ∨ w.heap.size ≤ k_)) an (fun k_ hk_ => Or.elim hk_ (fun hs_ => hs_) (fun hn_ => (.inr (Nat.le_trans (below_size bq) hn_))))) (below_size bq)); replace HB := ze hb; (try clear an); obtain ⟨bu, bv, bi⟩ := V_slice ad.out; subst bi))
  go_ret2
  exact ⟨_, er, V_nil _ _ _ _ _, bq⟩
 rw [if_neg c4] at H;have aR := beq_eq_false_iff_ne.mpr c4;have aS := bne_iff_ne.mpr c4
 have bb : ¬ (a7 = []) := fun h_ => c4 (by rw [h_]; rfl)
 obtain ⟨a9, A7, H⟩ := zh H
 by_cases c8 : (wrap64 (Int.tdiv a1 64)) ≥ (a7.length : Int)
 ·rw [if_pos c8] at H;have aM := decide_eq_true c8;clear c8;simp only [Option.some.injEq, Prod.mk.injEq] at H;obtain ⟨rfl, rfl⟩ := H;go_enter Tryd.func86, Tryd.ntmps86
  go_wp2_with (first | ((with_reducible refine zG 84 rfl ?_); refine zL (some 12) rfl rfl Tryd.func84 #[.slice A0 l0.length c0] rfl ?_; (with_reducible refine (limbs_Trim.calls k (fun k_ => (P0_ k_ ∨ w.heap.size ≤ k_)) _ _ l0 a7 _ ?ag A3.out).mono ?_); (case ag => exact am.out); rintro e w9 ⟨v415, rfl, an, hb⟩; refine ⟨_, rfl, ?_⟩; replace am := zA (V_below (vu am.out) hb); have ad := zA (V_lower (V_mono (ok' := fun k_ => (P0_ k_ ∨ w.heap.size ≤ k_)) an (fun k_ hk_ => Or.elim hk_ (fun hs_ => hs_) (fun hn_ => (.inr (Nat.le_trans (below_size bq) hn_))))) (below_size bq)); replace HB := ze hb; (try clear an); obtain ⟨bc, bd, be⟩ := V_slice ad.out; subst be) | ((with_reducible refine zG 85 rfl ?_); refine zL (some 17) rfl rfl Tryd.func85 #[.slice bc a7.length bd] rfl ?_; (with_reducible refine (limbs_Low.calls k _ _ a7 a9 _ ?ag ?aG (laid_below hT bq) A7.out).mono ?_); (case ag => exact zk (V_reads' ad.out).2.2); (case aG => exact (V_reads' ad.out).2.1); rintro e w' ⟨rfl, ⟨nd, rfl⟩⟩; refine ⟨_, rfl, ?_⟩))
  go_ret2
  exact ⟨_, er, V_nil _ _ _ _ _, bq⟩
 rw [if_neg c8] at H;have aM := decide_eq_false c8;clear c8;obtain ⟨ah, ae⟩ : ∃ j_ : Int, (wrap64 (Int.tdiv a1 64)) = j_ := ⟨_, rfl⟩;replace H : (if 0 ≤ (ah) then (if (ah) ≤ (a7.length : Int) then ((some (a7.drop ((ah) : Int).toNat : List Int)).bind fun a3 => (if 0 ≤ (a3.length : Int) then (if ((a3.length : Int) : Int).toNat ≤ 35184372088832 then (limbs_Shr.l0 k a3 (decide (a9 < a1)) (List.replicate ((a3.length : Int) : Int).toNat 0) (Int.tmod a1 64) a3 (a3.length : Int) 0) else (none)) else (none))) else (none)) else (none)) = some (r1, r2) := zQ ae H;(try rw [ae] at aM);(try rw [ae] at A3);(try rw [ae] at A7);have hji11w : (IntKind.i64.wrap (Int.tdiv a1 64)) = ah := (i64_w _).trans ae;replace H := dn H;obtain ⟨c12, H⟩ := H;have aY := eq_true c12;have az := decide_eq_true c12;clear c12;replace H := dn H;obtain ⟨c13, H⟩ := H;have aZ := eq_true c13;have b1 := decide_eq_true c13;clear c13;obtain ⟨a3, aH⟩ : ∃ y_ : List Int, y_ = (a7.drop ((ah) : Int).toNat) := ⟨_, rfl⟩;replace H : (if 0 ≤ (a3.length : Int) then (if ((a3.length : Int) : Int).toNat ≤ 35184372088832 then (limbs_Shr.l0 k a3 (decide (a9 < a1)) (List.replicate ((a3.length : Int) : Int).toNat 0) (Int.tmod a1 64) a3 (a3.length : Int) 0) else (none)) else (none)) = some (r1, r2) := zR aH H;have aN := zA aH;clear aH;replace H := dn H;obtain ⟨c14, H⟩ := H;have b2 := eq_true c14;have b3 := decide_eq_true c14;clear c14;replace H := dn H;obtain ⟨c15, H⟩ := H;have b4 := eq_true c15;have b5 := decide_eq_true c15;clear c15;obtain ⟨aT, aI⟩ : ∃ y_ : List Int, y_ = (List.replicate ((a3.length : Int) : Int).toNat 0) := ⟨_, rfl⟩;replace H : (limbs_Shr.l0 k a3 (decide (a9 < a1)) aT (Int.tmod a1 64) a3 (a3.length : Int) 0) = some (r1, r2) := zR aI H;have aO := zA aI;clear aI;have H' := zA H;clear H;go_enter Tryd.func86, Tryd.ntmps86
 go_wp2_with (first | ((with_reducible refine zG 84 rfl ?_); refine zL (some 12) rfl rfl Tryd.func84 #[.slice A0 l0.length c0] rfl ?_; (with_reducible refine (limbs_Trim.calls k (fun k_ => (P0_ k_ ∨ w.heap.size ≤ k_)) _ _ l0 a7 _ ?ag A3.out).mono ?_); (case ag => exact am.out); rintro e w16 ⟨v415, rfl, an, hb⟩; refine ⟨_, rfl, ?_⟩; replace am := zA (V_below (vu am.out) hb); have ad := zA (V_lower (V_mono (ok' := fun k_ => (P0_ k_ ∨ w.heap.size ≤ k_)) an (fun k_ hk_ => Or.elim hk_ (fun hs_ => hs_) (fun hn_ => (.inr (Nat.le_trans (below_size bq) hn_))))) (below_size bq)); replace HB := ze hb; (try clear an); obtain ⟨aC, ay, bf⟩ := V_slice ad.out; subst bf) | ((with_reducible refine zG 85 rfl ?_); refine zL (some 17) rfl rfl Tryd.func85 #[.slice aC a7.length ay] rfl ?_; (with_reducible refine (limbs_Low.calls k _ _ a7 a9 _ ?ag ?aG (laid_below hT bq) A7.out).mono ?_); (case ag => exact zk (V_reads' ad.out).2.2); (case aG => exact (V_reads' ad.out).2.1); rintro e w' ⟨rfl, ⟨nd, rfl⟩⟩; refine ⟨_, rfl, ?_⟩; have q18 : ((ah) : Int) ≤ ((a7.length : Int) : Int) := od; obtain ⟨i018, hi018, _, hsz18, _⟩ := info_parts info26; have hroom18 : a7.length ≤ ay := (V_reads' ad.out).2.1; have hC18 : Kd.F (Kd.int .u64) _ _ aC a7.length a7 := (V_at (base := w.heap.size) ad.out).2.2; have q018 : (0 : Int) ≤ ((ah) : Int) := od; have hcut18 := cut_from (P := Tryd.prog) 22 26 .i64 Tryd.underlying22 hi018 1 hsz18 aC a7.length ay (ah) q018 q18; have hr18 := Kd.F_cut (m := ((ah) : Int).toNat) (c := ay) hC18 (by omega) hroom18; obtain ⟨aP, hA18⟩ : ∃ A1, A1 = (if ay = ((ah) : Int).toNat then aC else (aC : Option Addr).map (·.add (((ah) : Int).toNat * 1))) := ⟨_, rfl⟩; obtain ⟨c18, hc18⟩ : ∃ c1, c1 = ay - ((ah) : Int).toNat := ⟨_, rfl⟩; have aD : a3.length = a7.length - ((ah) : Int).toNat := (by rw [aN.out, List.length_drop] <;> omega); rw [show (a7).drop ((ah) : Int).toNat = a3 from aN.out.symm] at hr18; replace hr18 : Kd.F (Kd.int .u64) _ _ aP a3.length a3 := (by rw [hA18]; exact hr18); rw [← aD, ← hA18, ← hc18] at hcut18; have aA := zA (show Kd.V (Kd.int .u64) 26 _ w.heap.size _ (.slice aP a3.length c18) a3 from V_mk (by rw [aD, hc18]; exact Nat.sub_le_sub_right hroom18 _) hr18); have bk := zA (show a3.length ≤ c18 from by rw [aD, hc18]; exact Nat.sub_le_sub_right hroom18 _); have KC18 := zA hc18; clear hr18 hC18 hroom18 hi018 hsz18 hc18; have KY18 := zA aD; have KA18 := zA hA18; clear aD hA18; replace q18 := eq_true q18) | ((with_reducible refine zD 32 rfl ?_); (try (refine gate_guard (by rfl) ?_; dsimp only)); refine R_make (Kd.int .u64) _ 26 rfl (N := 32) rfl 22 _ _ rfl (a3.length : Int) rfl rfl Tryd.underlying22 (.int .u64 0) 8 info26 rfl (by decide) (by omega) 0 (ok := fun _ => True) (okp := fun _ => True) rfl (fun _ hk => hk) trivial (od) (Nat.le_trans (Nat.mul_le_mul_right _ (od : (a3.length : Int).toNat ≤ 35184372088832)) (by omega)) (Below.refl _ _) (Nat.le_refl _) ?_; intro v424 w19 ao hb hg_ hnew_; clear hg_ hnew_; (first | rw [← aO.out] at ao | (simp only [Int.reduceToNat] at ao; rw [← aO.out] at ao)); replace am := zA (V_elder' (vu am.out) (R_base ao) hb); replace ad := zA (V_elder' (vu ad.out) (R_base ao) hb); replace aA := zA (V_elder' (vu aA.out) (R_base ao) hb); have b6 := zA (R_lower (R_newM (M := fun k_ => (w.heap.size ≤ k_)) ao (below_size bq) (fun k_ h_ => h_)) (below_size bq)); replace HB := ze hb; clear hb ao))
 go_loopg [37] k (fun kq v37 w' => ∃ (a5 : List Int) (a2 : Int), v37 = .int .i64 a2 ∧ Aside0 (limbs_Shr.l0 kq a3 (decide (a9 < a1)) a5 (Int.tmod a1 64) a3 (a3.length : Int) a2 = some (r1, r2)) ∧ Aside0 (kq ≤ k) ∧ Aside0 (Kd.V (Kd.int .u64) 26 w' w.heap.size (fun k_ => (P0_ k_ ∨ w.heap.size ≤ k_) ∧ some k_ ≠ (v424 : Value).ownBlock) (.slice aP a3.length c18) a3) ∧ Aside0 (Kd.R (Kd.int .u64) 26 w' w.heap.size (fun k_ => (w.heap.size ≤ k_)) v424 a5) ∧ Aside0 (Kd.V (Kd.int .u64) 26 w' w.heap.size (fun k_ => (P0_ k_ ∨ w.heap.size ≤ k_) ∧ some k_ ≠ (v424 : Value).ownBlock) (.slice aP a3.length c18) a3) ∧ Aside0 (Below w.heap.size w w'))
 case atStart => exact ⟨(aT), (0), zi, H', ⟨Nat.le_refl _⟩, ⟨vu aA.out⟩, ⟨ru (R_mono b6.out (fun _ hk => hk.1))⟩, ⟨vu aA.out⟩, ⟨bq⟩⟩
 case round =>
  clear H'
  try clear c1
  try clear c4
  try clear aR
  try clear aS
  try clear bb
  try clear c8
  try clear aM
  try clear c12
  try clear aY
  try clear az
  try clear c13
  try clear aZ
  try clear b1
  try clear c14
  try clear b2
  try clear b3
  try clear c15
  try clear b4
  try clear b5
  try clear c18
  try clear q18
  try clear q018
  try clear q18
  obtain ⟨a5, a2, rfl, HA, HK1, af, a8, aa, HB⟩ := hrel
  cases gk with
  | zero => exact absurd HA.out (by simp [limbs_Shr.l0])
  | succ k1 =>
   have H := HA.out;clear HA;simp only [limbs_Shr.l0] at H
   by_cases c21 : a2 < (a3.length : Int)
   ·rw [if_pos c21] at H;have b7 := decide_eq_true c21;clear c21;replace H := dn H;obtain ⟨c22, H⟩ := H;have bl := decide_eq_true c22;clear c22;replace H := dn H;obtain ⟨c23, H⟩ := H;have bm := decide_eq_true c23;clear c23;obtain ⟨a4, ai⟩ : ∃ j_ : Int, (Int.tmod a1 64) = j_ := ⟨_, rfl⟩;replace H : (if 0 ≤ (a4) then (if a2 < (a5.length : Int) then ((some (a5.set (a2 : Int).toNat (shr .u64 (rd a3 a2) (a4)) : List Int)).bind fun a6 => (if (a4) > 0 then (if (wrap64 (a2 + 1)) < (a3.length : Int) then (if 0 ≤ (wrap64 (a2 + 1)) then (if 0 ≤ (wrap64 (64 - (a4))) then (limbs_Shr.l0 k1 a3 (decide (a9 < a1)) (a6.set (a2 : Int).toNat (Go.bits .or .u64 (rd a6 a2) (shl .u64 (rd a3 (wrap64 (a2 + 1))) (wrap64 (64 - (a4)))))) (a4) a3 (a3.length : Int) (wrap64 (a2 + 1))) else (none)) else (none)) else (limbs_Shr.l0 k1 a3 (decide (a9 < a1)) a6 (a4) a3 (a3.length : Int) (wrap64 (a2 + 1)))) else (limbs_Shr.l0 k1 a3 (decide (a9 < a1)) a6 (a4) a3 (a3.length : Int) (wrap64 (a2 + 1))))) else (none)) else (none)) = some (r1, r2) := zQ ai H;replace H := dn H;obtain ⟨c25, H⟩ := H;have bn := eq_true c25;have bo := decide_eq_true c25;clear c25;obtain ⟨ak, aj⟩ : ∃ j_ : Int, (shr .u64 (rd a3 a2) (a4)) = j_ := ⟨_, rfl⟩;replace H : (if a2 < (a5.length : Int) then ((some (a5.set (a2 : Int).toNat (ak) : List Int)).bind fun a6 => (if (a4) > 0 then (if (wrap64 (a2 + 1)) < (a3.length : Int) then (if 0 ≤ (wrap64 (a2 + 1)) then (if 0 ≤ (wrap64 (64 - (a4))) then (limbs_Shr.l0 k1 a3 (decide (a9 < a1)) (a6.set (a2 : Int).toNat (Go.bits .or .u64 (rd a6 a2) (shl .u64 (rd a3 (wrap64 (a2 + 1))) (wrap64 (64 - (a4)))))) (a4) a3 (a3.length : Int) (wrap64 (a2 + 1))) else (none)) else (none)) else (limbs_Shr.l0 k1 a3 (decide (a9 < a1)) a6 (a4) a3 (a3.length : Int) (wrap64 (a2 + 1)))) else (limbs_Shr.l0 k1 a3 (decide (a9 < a1)) a6 (a4) a3 (a3.length : Int) (wrap64 (a2 + 1))))) else (none)) = some (r1, r2) := zQ aj H;have hji26_ : ((rd a3 a2) / 2 ^ min (a4).toNat 64) = ak := aj;have hji26z : (a4) ≤ 64 → ((rd a3 a2) / 2 ^ (a4).toNat) = ak := shr_small aj;replace H := dn H;obtain ⟨c27, H⟩ := H;have bp := decide_eq_true c27;clear c27;obtain ⟨a6, aJ⟩ : ∃ y_ : List Int, y_ = (a5.set (a2 : Int).toNat (ak)) := ⟨_, rfl⟩;replace H : (if (a4) > 0 then (if (wrap64 (a2 + 1)) < (a3.length : Int) then (if 0 ≤ (wrap64 (a2 + 1)) then (if 0 ≤ (wrap64 (64 - (a4))) then (limbs_Shr.l0 k1 a3 (decide (a9 < a1)) (a6.set (a2 : Int).toNat (Go.bits .or .u64 (rd a6 a2) (shl .u64 (rd a3 (wrap64 (a2 + 1))) (wrap64 (64 - (a4)))))) (a4) a3 (a3.length : Int) (wrap64 (a2 + 1))) else (none)) else (none)) else (limbs_Shr.l0 k1 a3 (decide (a9 < a1)) a6 (a4) a3 (a3.length : Int) (wrap64 (a2 + 1)))) else (limbs_Shr.l0 k1 a3 (decide (a9 < a1)) a6 (a4) a3 (a3.length : Int) (wrap64 (a2 + 1)))) = some (r1, r2) := zR aJ H;have aB := zA aJ;clear aJ
    by_cases c29 : (a4) > 0
    ·rw [if_pos c29] at H;have b8 := decide_eq_true c29;clear c29
     by_cases c30 : (wrap64 (a2 + 1)) < (a3.length : Int)
     ·rw [if_pos c30] at H;have aQ := decide_eq_true c30;clear c30;obtain ⟨ab, ar⟩ : ∃ j_ : Int, (wrap64 (a2 + 1)) = j_ := ⟨_, rfl⟩;replace H : (if 0 ≤ (ab) then (if 0 ≤ (wrap64 (64 - (a4))) then (limbs_Shr.l0 k1 a3 (decide (a9 < a1)) (a6.set (a2 : Int).toNat (Go.bits .or .u64 (rd a6 a2) (shl .u64 (rd a3 (ab)) (wrap64 (64 - (a4)))))) (a4) a3 (a3.length : Int) ab) else (none)) else (none)) = some (r1, r2) := zQ ar H;(try rw [ar] at aQ);have hji31w : (IntKind.i64.wrap (a2 + 1)) = ab := (i64_w _).trans ar;replace H := dn H;obtain ⟨c32, H⟩ := H;have br := decide_eq_true c32;clear c32;obtain ⟨au, aw⟩ : ∃ j_ : Int, (wrap64 (64 - (a4))) = j_ := ⟨_, rfl⟩;replace H : (if 0 ≤ (au) then (limbs_Shr.l0 k1 a3 (decide (a9 < a1)) (a6.set (a2 : Int).toNat (Go.bits .or .u64 (rd a6 a2) (shl .u64 (rd a3 (ab)) (au)))) (a4) a3 (a3.length : Int) ab) else (none)) = some (r1, r2) := zQ aw H;have hji33w : (IntKind.i64.wrap (64 - (a4))) = au := (i64_w _).trans aw;replace H := dn H;obtain ⟨c34, H⟩ := H;have bs := eq_true c34;have bt := decide_eq_true c34;clear c34;obtain ⟨av, ax⟩ : ∃ j_ : Int, (shl .u64 (rd a3 (ab)) (au)) = j_ := ⟨_, rfl⟩;replace H : (limbs_Shr.l0 k1 a3 (decide (a9 < a1)) (a6.set (a2 : Int).toNat (Go.bits .or .u64 (rd a6 a2) (av))) (a4) a3 (a3.length : Int) ab) = some (r1, r2) := zQ ax H;have hji35_ : (IntKind.u64.wrap ((rd a3 (ab)) * 2 ^ min (au).toNat 64)) = av := ax;have hji35z : (au) ≤ 64 → (IntKind.u64.wrap ((rd a3 (ab)) * 2 ^ (au).toNat)) = av := shl_small ax;obtain ⟨aU, aK⟩ : ∃ y_ : List Int, y_ = (a6.set (a2 : Int).toNat (Go.bits .or .u64 (rd a6 a2) (av))) := ⟨_, rfl⟩;replace H : (limbs_Shr.l0 k1 a3 (decide (a9 < a1)) aU (a4) a3 (a3.length : Int) ab) = some (r1, r2) := zR aK H;have b9 := zA aK;clear aK;have H' := zA H;clear H;have p426 : 0 ≤ (a2 : Int) := od;have q426 : a2 < (a3.length : Int) := od;obtain ⟨ad426, e426, aE⟩ := Kd.at_int (V_reads' aa.out).2.2 a2 p426 q426;cases e426;replace p426 := eq_true p426;replace q426 := eq_true q426;have p28 : 0 ≤ (a2 : Int) := od;have q28 : (a2 : Int) < ((a5.length : Int) : Int) := od;obtain ⟨go28, ac, ap, aq, gl28, cl28, HG28⟩ := R_form a8.out (by omega)
      (first | cases ap | (injection ap with ea_ en_ ec_; (first | subst ea_ | (injection ea_ with ea_; subst ea_)); subst ec_; clear en_))
      have GB28 := zA aq;have GG28 := zA HG28;clear aq gl28 HG28;obtain ⟨aL, hf28_0⟩ := R_celln 0 a8.out (a2 : Int) p28 q28;replace p28 := eq_true p28;replace q28 := eq_true q28;have HP37 := R_putg a8.out (a2 : Int) ak
      try go_wp2_with (first | ((with_reducible refine gate_store (t := 26) (p := 47) rfl ?_); refine store_event (t := 26) (p := 47) (v := ?vo_w38) (w1 := (wr.setCell ⟨go28, (a2 : Int).toNat, none⟩ (.int .u64 ak))) ?hg ?ho ?hn ?hr ?_; (case ho => rfl); (case hg => rfl); (case hn => rfl); (case hr => first | (go_simp; done) | (go_simp; rfl)); intro w38 hw; have hg : wr.grownBy w38 (some go28) := (by rw [hw]; exact HP37.2); have hp_ : Kd.R (Kd.int .u64) 26 w38 w.heap.size (fun k_ => (w.heap.size ≤ k_)) (.slice (some ⟨go28, 0, none⟩) a5.length ac) a6 := (by rw [hw, aB.out]; exact HP37.1); clear HP37; replace af := zA (V_afterv (v := (.slice (some ⟨go28, 0, none⟩) a5.length ac)) (v1 := (.slice (some ⟨go28, 0, none⟩) a5.length ac)) (ok := (fun k_ => (P0_ k_ ∨ w.heap.size ≤ k_))) (vu af.out) hg (.inl rfl)); replace a8 := zA (hp_); replace aa := zA (V_afterv (v := (.slice (some ⟨go28, 0, none⟩) a5.length ac)) (v1 := (.slice (some ⟨go28, 0, none⟩) a5.length ac)) (ok := (fun k_ => (P0_ k_ ∨ w.heap.size ≤ k_))) (vu aa.out) hg (.inl rfl)); replace HB := zA ((by rw [hw]; exact below_set (HB.out) GB28.out : Below w.heap.size w w38)); clear hg hw hp_))
      replace af := zA (V_drew af.out);replace a8 := zA (R_drew a8.out);replace aa := zA (V_drew aa.out);replace HB := zA (below_drew1 HB.out);have p428 : 0 ≤ (a2 : Int) := od;have q428 : a2 < (a6.length : Int) := (by have h_ : (a2 : Int) < ((a5.length : Int) : Int) := od; first | (have e_ := (R_reads' a8.out).1; omega) | simpa only [aB.out, List.length_set] using h_);have ql428 : ((a2 : Int) < ((a5.length : Int) : Int)) = True := eq_true (od);obtain ⟨ad428, e428, al⟩ := Kd.at_int (R_reads' a8.out).2.2 a2 p428 q428;obtain rfl : (⟨go28, 0, none⟩ : Addr) = ad428 := (by injection e428)
      (first | simp only [add_plain] at al | simp only [add_at] at al | simp only [Addr.add, Nat.zero_add] at al | skip)
      replace p428 := eq_true p428;replace q428 := eq_true q428;have p429 : 0 ≤ ((ab) : Int) := od;have q429 : (ab) < (a3.length : Int) := od;obtain ⟨ad429, e429, aF⟩ := Kd.at_int (V_reads' af.out).2.2 (ab) p429 q429;obtain rfl : ad426 = ad429 := (by injection e429);replace p429 := eq_true p429;replace q429 := eq_true q429;have p36 : 0 ≤ (a2 : Int) := od;have q36 : (a2 : Int) < ((a5.length : Int) : Int) := od;obtain ⟨aV, hf36_0⟩ := R_celln 0 a8.out (a2 : Int) p36 q36;replace p36 := eq_true p36;replace q36 := eq_true q36;have HP40 := R_putn a8.out (a2 : Int) (Go.bits .or .u64 (rd a6 a2) (av));rw [← b9.out] at HP40;have HQ40 := zA HP40;clear HP40;refine start_ (n := 15) (S := fun w' => w'.cell? ⟨go28, (a2).toNat, none⟩ = some (.int .u64 (rd a6 a2)) ∧ w'.cell? (ad426.add ((ab)).toNat) = some (.int .u64 (rd a3 (ab)))) (ds := [14]) #[false, false, false, false, false, false, false, false, false, false, false, false, false, false, false] (by kernel_rfl) rfl rfl ⟨al, aF⟩ (fun hHeld => ?_); refine with_tabW limbs_Shr.tab15 limbs_Shr.bits15 (fun HT_ HW_ => ?_);generalize w38.drew = w39 at af a8 aa HB HQ40 hf36_0 aV al aF hHeld ⊢;refine pure_ (i := 0) (N := some 57) (v := ?_) (a' := ?_) #[true, false, false, false, false, false, false, false, false, false, false, false, false, false, false] rfl rfl (any_of HT_.out (by kernel_rfl)) (fun _ _ _ h => h) (Or.inl ⟨by rfl, ?_⟩) ?_ ?_;rotate_left;·intro w';go_simp;with_reducible rfl
      rotate_left;·exact zq
      refine pure_ (i := 1) (N := some 58) (v := ?_) (a' := ?_) #[true, true, false, false, false, false, false, false, false, false, false, false, false, false, false] rfl rfl (any_of HT_.out (by kernel_rfl)) (fun _ _ _ h => h) (Or.inl ⟨by rfl, ?_⟩) ?_ ?_;rotate_left;·intro w';go_simp;with_reducible rfl
      rotate_left;·exact zq
      refine pure_ (i := 2) (N := some 59) (v := ?_) (a' := ?_) #[true, true, true, false, false, false, false, false, false, false, false, false, false, false, false] rfl rfl (any_of HT_.out (by kernel_rfl)) (fun _ _ _ h => h) (Or.inl ⟨by rfl, ?_⟩) ?_ ?_;rotate_left;·intro w';go_simp;with_reducible rfl
      rotate_left;·exact zq
      refine pure_ (i := 4) (N := some 61) (v := ?_) (a' := ?_) #[true, true, true, false, true, false, false, false, false, false, false, false, false, false, false] rfl rfl (any_of HT_.out (by kernel_rfl)) (fun _ _ _ h => h) (Or.inl ⟨by rfl, ?_⟩) ?_ ?_;rotate_left;·intro w';go_simp;with_reducible rfl
      rotate_left;·exact zq
      refine pure_ (i := 5) (N := some 62) (v := ?_) (a' := ?_) #[true, true, true, false, true, true, false, false, false, false, false, false, false, false, false] rfl rfl (any_of HT_.out (by kernel_rfl)) (fun _ _ _ h => h) (Or.inl ⟨by rfl, ?_⟩) ?_ ?_;rotate_left;·intro w';go_simp;with_reducible rfl
      rotate_left;·exact zq
      refine pure_ (i := 6) (N := some 63) (v := ?_) (a' := ?_) #[true, true, true, false, true, true, true, false, false, false, false, false, false, false, false] rfl rfl (any_of HT_.out (by kernel_rfl)) (fun _ _ _ h => h) (Or.inl ⟨by rfl, ?_⟩) ?_ ?_;rotate_left;·intro w';go_simp;with_reducible rfl
      rotate_left;·exact zq
      refine pure_ (i := 7) (N := some 64) (v := ?_) (a' := ?_) #[true, true, true, false, true, true, true, true, false, false, false, false, false, false, false] rfl rfl (any_of HT_.out (by kernel_rfl)) (fun _ _ _ h => h) (Or.inl ⟨by rfl, ?_⟩) ?_ ?_;rotate_left;·intro w';go_simp;with_reducible rfl
      rotate_left;·exact zq
      refine pure_ (i := 9) (N := some 66) (v := ?_) (a' := ?_) #[true, true, true, false, true, true, true, true, false, true, false, false, false, false, false] rfl rfl (any_of HT_.out (by kernel_rfl)) (fun _ _ _ h => h) (Or.inl ⟨by rfl, ?_⟩) ?_ ?_;rotate_left;·intro w';go_simp;with_reducible rfl
      rotate_left;·exact zq
      refine pure_ (i := 10) (N := some 67) (v := ?_) (a' := ?_) #[true, true, true, false, true, true, true, true, false, true, true, false, false, false, false] rfl rfl (any_of HT_.out (by kernel_rfl)) (fun _ _ _ h => h) (Or.inl ⟨by rfl, ?_⟩) ?_ ?_;rotate_left;·intro w';go_simp;with_reducible rfl
      rotate_left;·exact zq
      refine take_ (i := 3) (N := some 60) (v := ?_) (a' := ?_) #[true, true, true, true, true, true, true, true, false, true, true, false, false, false, false] rfl rfl (take_ofW HT_.out HW_.out (by kernel_rfl)) (fun _ _ _ h => h) (Or.inl ⟨by rfl, ?_⟩) hHeld ?_ ?_;rotate_left;·rintro w' ⟨s0, s1⟩;go_simp;with_reducible rfl
      rotate_left;·exact zq
      refine take_ (i := 8) (N := some 65) (v := ?_) (a' := ?_) #[true, true, true, true, true, true, true, true, true, true, true, false, false, false, false] rfl rfl (take_ofW HT_.out HW_.out (by kernel_rfl)) (fun _ _ _ h => h) (Or.inl ⟨by rfl, ?_⟩) hHeld ?_ ?_;rotate_left;·rintro w' ⟨s0, s1⟩;go_simp;with_reducible rfl
      rotate_left;·exact zq
      refine pure_ (i := 11) (N := some 68) (v := ?_) (a' := ?_) #[true, true, true, true, true, true, true, true, true, true, true, true, false, false, false] rfl rfl (any_of HT_.out (by kernel_rfl)) (fun _ _ _ h => h) (Or.inl ⟨by rfl, ?_⟩) ?_ ?_;rotate_left;·intro w';go_simp;with_reducible rfl
      rotate_left;·exact zq
      refine pure_ (i := 12) (N := some 69) (v := ?_) (a' := ?_) #[true, true, true, true, true, true, true, true, true, true, true, true, true, false, false] rfl rfl (any_of HT_.out (by kernel_rfl)) (fun _ _ _ h => h) (Or.inl ⟨by rfl, ?_⟩) ?_ ?_;rotate_left;·intro w';go_simp;with_reducible rfl
      rotate_left;·exact zq
      refine pure_ (i := 13) (N := some 70) (v := ?_) (a' := ?_) #[true, true, true, true, true, true, true, true, true, true, true, true, true, true, false] rfl rfl (any_of HT_.out (by kernel_rfl)) (fun _ _ _ h => h) (Or.inl ⟨by rfl, ?_⟩) ?_ ?_;rotate_left;·intro w';go_simp;with_reducible rfl
      rotate_left;·exact zq
      refine last_ (i := 14) (N := none) #[true, true, true, true, true, true, true, true, true, true, true, true, true, true, true] rfl rfl (one_of HT_.out (by kernel_rfl)) (by decide) (fun K hK => ?_);refine skip_ (w1 := ?_) (by rfl) rfl ?_ ?_;rotate_left;·go_simp;rfl
      refine hK.out _ _ ?_;clear hK K;refine done_ (done_of HT_.out (by kernel_rfl)) ?_
      try go_wp2
      (try simp only [← ai, ← aw])
      go_roundg k1
      case measure => have := HK1.out; omega
      case rel => exact ⟨(aU), (ab), (by first | rfl | (simp; done) | (simp only [← ar] <;> (first | rfl | simp)) | (simp [*]; done)), (by first | exact H' | (simp only [ae, ai, aj, ar, aw, ax]; exact H') | (simp only [ae, ai, aj, ar, aw, ax] at H' ⊢; exact H')), ⟨by have := HK1.out; omega⟩, ⟨vu (V_mono (V_far (p := ⟨go28, (a2 : Int).toNat, none⟩) (V_mono af.out (fun k_ hk => (⟨hk, fun e_ => hk.2 (by rw [e_]; rfl)⟩ : _ ∧ k_ ≠ go28))) (fun _ hk => hk.2) (.int .u64 (Go.bits .or .u64 (rd a6 a2) (av)))) (fun _ hk => ⟨hk.1.1, hk.1.2⟩))⟩, ⟨ru HQ40.out⟩, ⟨vu (V_mono (V_far (p := ⟨go28, (a2 : Int).toNat, none⟩) (V_mono aa.out (fun k_ hk => (⟨hk, fun e_ => hk.2 (by rw [e_]; rfl)⟩ : _ ∧ k_ ≠ go28))) (fun _ hk => hk.2) (.int .u64 (Go.bits .or .u64 (rd a6 a2) (av)))) (fun _ hk => ⟨hk.1.1, hk.1.2⟩))⟩, ⟨by repeat (first | (with_reducible first | exact HB.out | apply below_alloc | apply pw_below_drewN | apply below_drew1 | refine below_set ?_ GB28.out) | exact HB.out)⟩⟩
     rw [if_neg c30] at H;have aQ := decide_eq_false c30;clear c30;have H' := zA H;clear H;have p426 : 0 ≤ (a2 : Int) := od;have q426 : a2 < (a3.length : Int) := od;obtain ⟨ad426, e426, aE⟩ := Kd.at_int (V_reads' aa.out).2.2 a2 p426 q426;cases e426;replace p426 := eq_true p426;replace q426 := eq_true q426;have p28 : 0 ≤ (a2 : Int) := od;have q28 : (a2 : Int) < ((a5.length : Int) : Int) := od;obtain ⟨go28, ac, ap, aq, gl28, cl28, HG28⟩ := R_form a8.out (by omega)
     (first | cases ap | (injection ap with ea_ en_ ec_; (first | subst ea_ | (injection ea_ with ea_; subst ea_)); subst ec_; clear en_))
     have GB28 := zA aq;have GG28 := zA HG28;clear aq gl28 HG28;obtain ⟨aL, hf28_0⟩ := R_celln 0 a8.out (a2 : Int) p28 q28;replace p28 := eq_true p28;replace q28 := eq_true q28;have HP41 := R_putg a8.out (a2 : Int) ak
     go_wp2_with (first | ((with_reducible refine gate_store (t := 26) (p := 47) rfl ?_); refine store_event (t := 26) (p := 47) (v := ?vo_w42) (w1 := (wr.setCell ⟨go28, (a2 : Int).toNat, none⟩ (.int .u64 ak))) ?hg ?ho ?hn ?hr ?_; (case ho => rfl); (case hg => rfl); (case hn => rfl); (case hr => first | (go_simp; done) | (go_simp; rfl)); intro w42 hw; have hg : wr.grownBy w42 (some go28) := (by rw [hw]; exact HP41.2); have hp_ : Kd.R (Kd.int .u64) 26 w42 w.heap.size (fun k_ => (w.heap.size ≤ k_)) (.slice (some ⟨go28, 0, none⟩) a5.length ac) a6 := (by rw [hw, aB.out]; exact HP41.1); clear HP41; replace af := zA (V_afterv (v := (.slice (some ⟨go28, 0, none⟩) a5.length ac)) (v1 := (.slice (some ⟨go28, 0, none⟩) a5.length ac)) (ok := (fun k_ => (P0_ k_ ∨ w.heap.size ≤ k_))) (vu af.out) hg (.inl rfl)); replace a8 := zA (hp_); replace aa := zA (V_afterv (v := (.slice (some ⟨go28, 0, none⟩) a5.length ac)) (v1 := (.slice (some ⟨go28, 0, none⟩) a5.length ac)) (ok := (fun k_ => (P0_ k_ ∨ w.heap.size ≤ k_))) (vu aa.out) hg (.inl rfl)); replace HB := zA ((by rw [hw]; exact below_set (HB.out) GB28.out : Below w.heap.size w w42)); clear hg hw hp_))
     (try simp only [← ai])
     go_roundg k1
     case measure => have := HK1.out; omega
     case rel => exact ⟨(a6), (wrap64 (a2 + 1)), zi, (by first | exact H' | (simp only [ae, ai, aj]; exact H') | (simp only [ae, ai, aj] at H' ⊢; exact H')), ⟨by have := HK1.out; omega⟩, ⟨vu af.out⟩, ⟨ru a8.out⟩, ⟨vu aa.out⟩, ⟨bq⟩⟩
    rw [if_neg c29] at H;have b8 := decide_eq_false c29;clear c29;have H' := zA H;clear H;have p426 : 0 ≤ (a2 : Int) := od;have q426 : a2 < (a3.length : Int) := od;obtain ⟨ad426, e426, aE⟩ := Kd.at_int (V_reads' aa.out).2.2 a2 p426 q426;cases e426;replace p426 := eq_true p426;replace q426 := eq_true q426;have p28 : 0 ≤ (a2 : Int) := od;have q28 : (a2 : Int) < ((a5.length : Int) : Int) := od;obtain ⟨go28, ac, ap, aq, gl28, cl28, HG28⟩ := R_form a8.out (by omega)
    (first | cases ap | (injection ap with ea_ en_ ec_; (first | subst ea_ | (injection ea_ with ea_; subst ea_)); subst ec_; clear en_))
    have GB28 := zA aq;have GG28 := zA HG28;clear aq gl28 HG28;obtain ⟨aL, hf28_0⟩ := R_celln 0 a8.out (a2 : Int) p28 q28;replace p28 := eq_true p28;replace q28 := eq_true q28;have HP43 := R_putg a8.out (a2 : Int) ak
    go_wp2_with (first | ((with_reducible refine gate_store (t := 26) (p := 47) rfl ?_); refine store_event (t := 26) (p := 47) (v := ?vo_w44) (w1 := (wr.setCell ⟨go28, (a2 : Int).toNat, none⟩ (.int .u64 ak))) ?hg ?ho ?hn ?hr ?_; (case ho => rfl); (case hg => rfl); (case hn => rfl); (case hr => first | (go_simp; done) | (go_simp; rfl)); intro w44 hw; have hg : wr.grownBy w44 (some go28) := (by rw [hw]; exact HP43.2); have hp_ : Kd.R (Kd.int .u64) 26 w44 w.heap.size (fun k_ => (w.heap.size ≤ k_)) (.slice (some ⟨go28, 0, none⟩) a5.length ac) a6 := (by rw [hw, aB.out]; exact HP43.1); clear HP43; replace af := zA (V_afterv (v := (.slice (some ⟨go28, 0, none⟩) a5.length ac)) (v1 := (.slice (some ⟨go28, 0, none⟩) a5.length ac)) (ok := (fun k_ => (P0_ k_ ∨ w.heap.size ≤ k_))) (vu af.out) hg (.inl rfl)); replace a8 := zA (hp_); replace aa := zA (V_afterv (v := (.slice (some ⟨go28, 0, none⟩) a5.length ac)) (v1 := (.slice (some ⟨go28, 0, none⟩) a5.length ac)) (ok := (fun k_ => (P0_ k_ ∨ w.heap.size ≤ k_))) (vu aa.out) hg (.inl rfl)); replace HB := zA ((by rw [hw]; exact below_set (HB.out) GB28.out : Below w.heap.size w w44)); clear hg hw hp_))
    (try simp only [← ai])
    go_roundg k1
    case measure => have := HK1.out; omega
    case rel => exact ⟨(a6), (wrap64 (a2 + 1)), zi, (by first | exact H' | (simp only [ae, ai, aj]; exact H') | (simp only [ae, ai, aj] at H' ⊢; exact H')), ⟨by have := HK1.out; omega⟩, ⟨vu af.out⟩, ⟨ru a8.out⟩, ⟨vu aa.out⟩, ⟨bq⟩⟩
   rw [if_neg c21] at H;have b7 := decide_eq_false c21;clear c21;obtain ⟨bg, bj, H⟩ := zh H;simp only [Option.some.injEq, Prod.mk.injEq] at H;obtain ⟨rfl, rfl⟩ := H;obtain ⟨aW, aX, bh⟩ := R_slice a8.out;subst bh
   go_wp2_with (first | ((with_reducible refine zG 84 rfl ?_); refine zL (some 73) rfl rfl Tryd.func84 #[.slice aW a5.length aX] rfl ?_; (with_reducible refine (limbs_Trim.calls k1 (fun k_ => some k_ = (.slice aW a5.length aX : Value).ownBlock) _ _ a5 bg _ ?ag bj.out).mono ?_); (case ag => exact R_V (R_tight rfl (a8.out))); rintro e w47 ⟨v432, rfl, an, hb⟩; refine ⟨_, rfl, ?_⟩; replace af := zA (V_below (vu af.out) hb); replace aa := zA (V_below (vu aa.out) hb); have ba := zA (V_lower (V_mono (ok' := fun k_ => (P0_ k_ ∨ w.heap.size ≤ k_)) an (fun k_ hk_ => Or.elim hk_ (fun hs_ => (.inr (((a8.out).1 k_ hs_.symm)))) (fun hn_ => (.inr (Nat.le_trans (below_size bq) hn_))))) (below_size bq)); replace a8 := zA (R_below (ru a8.out) hb); replace HB := ze hb; (try clear an)))
   go_ret2
   exact ⟨_, by first | rfl | (simp [errW_none, errW_some] <;> rfl) | (simp only [← ae]; first | rfl | (simp [errW_none, errW_some] <;> rfl)) | (simp [*, errW_none, errW_some] <;> rfl), vu ba.out, bq⟩
end Go.Proofs.YtnjfckadjklmfaaDoor.PAll
