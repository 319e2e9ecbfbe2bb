/- Printed functions, merged by a program of this session. -/
import Derived.Test.YtnjfckadjklmfaaDoorXRoundPointsP0
import Derived.Test.YtnjfckadjklmfaaDoorXRoundPointsP14
import Derived.Test.YtnjfckadjklmfaaDoorXRoundPointsP12
import Derived.Test.YtnjfckadjklmfaaDoorXRoundPointsP8
import Derived.Test.YtnjfckadjklmfaaDoorXRoundPointsSh
namespace Go.Proofs.YtnjfckadjklmfaaDoor.PAll
open Go.RowKit Go.Proofs.YtnjfckadjklmfaaDoorW.PrintWords Go.Proofs.YtnjfckadjklmfaaDoorW.PrintLast Go.Proofs.YtnjfckadjklmfaaDoorW.PrintMore Go.Proofs.YtnjfckadjklmfaaDoorW.PrintWords.Kd
attribute [local go_sem] max2_int min2_int max_two min_two max_three min_three max_four min_four   -- for this text's walks alone
set_option linter.unusedVariables false
set_option linter.unusedSimpArgs false
attribute [local go_sem] fld75_0 fld75_1 fld75_2 ext118 ext119
def bits_Less.f (a0 : Int) (a1 : Int) : Option (Bool) := (bits_number.f a0).bind fun a2 => (if a2 = true then ((bits_number.f a1).bind fun a3 => (if a3 = true then ((bits_place.f a0).bind fun a4 => ((bits_place.f a1).bind fun a5 => (some (decide (a4 < a5))))) else (some false))) else (some false))
set_option maxHeartbeats 8000000 in
set_option maxRecDepth 100000 in
theorem bits_Less.calls (a0 : Int) (a1 : Int) (r : Bool) (w : World) (h : bits_Less.f a0 a1 = some r) :
  Calls Tryd.prog 14 #[.int .u64 a0, .int .u64 a1] w fun e w' => e = .returned (.bool r) ∧ Drawn0 w w' := by
 have H : ((bits_number.f a0).bind fun a2 => (if a2 = true then ((bits_number.f a1).bind fun a3 => (if a3 = true then ((bits_place.f a0).bind fun a4 => ((bits_place.f a1).bind fun a5 => (some (decide (a4 < a5))))) else (some false))) else (some false))) = some r := h;clear h;obtain ⟨a2, A3, H⟩ := zh H
 by_cases c4 : a2 = true
 ·subst c4;rw [if_pos rfl] at H;obtain ⟨a3, A5, H⟩ := zh H
  by_cases c6 : a3 = true
  ·subst c6;rw [if_pos rfl] at H;obtain ⟨a4, A7, H⟩ := zh H;obtain ⟨a5, A8, H⟩ := zh H;obtain rfl := Option.some.inj H;go_enter Tryd.func14, Tryd.ntmps14
   go_wp2_with (first | ((with_reducible refine zG 41 rfl ?_); refine zL (some 6) rfl rfl Tryd.func41 #[.int .u64 a0] rfl ?_; (with_reducible refine (bits_number.calls a0 true _ A3.out).mono ?_); rintro e w' ⟨rfl, ⟨nd, rfl⟩⟩; refine ⟨_, rfl, ?_⟩) | (go_at_call 41; (with_reducible refine (bits_number.calls a1 true _ A5.out).mono ?_); rintro e w' ⟨rfl, ⟨nd, rfl⟩⟩) | (go_at_call 42; (with_reducible refine (bits_place.calls a0 a4 _ A7.out).mono ?_); rintro e w' ⟨rfl, ⟨nd, rfl⟩⟩) | (go_at_call 42; (with_reducible refine (bits_place.calls a1 a5 _ A8.out).mono ?_); rintro e w' ⟨rfl, ⟨nd, rfl⟩⟩))
   go_ret;exact ⟨by first | rfl | (simp; done) | (simp [*]; done), by repeat (first | exact Drawn0.refl _ | apply Drawn0.step)⟩
  replace c6 := Bool.eq_false_iff.mpr c6;subst c6;rw [if_neg (show ¬ (false = true) by decide)] at H;obtain rfl := Option.some.inj H;go_enter Tryd.func14, Tryd.ntmps14
  go_wp2_with (first | ((with_reducible refine zG 41 rfl ?_); refine zL (some 6) rfl rfl Tryd.func41 #[.int .u64 a0] rfl ?_; (with_reducible refine (bits_number.calls a0 true _ A3.out).mono ?_); rintro e w' ⟨rfl, ⟨nd, rfl⟩⟩; refine ⟨_, rfl, ?_⟩) | (go_at_call 41; (with_reducible refine (bits_number.calls a1 false _ A5.out).mono ?_); rintro e w' ⟨rfl, ⟨nd, rfl⟩⟩))
  go_ret;exact ⟨by first | rfl | (simp; done) | (simp [*]; done), by repeat (first | exact Drawn0.refl _ | apply Drawn0.step)⟩
 replace c4 := Bool.eq_false_iff.mpr c4;subst c4;rw [if_neg (show ¬ (false = true) by decide)] at H;obtain rfl := Option.some.inj H;go_enter Tryd.func14, Tryd.ntmps14
 go_wp2_with (first | ((with_reducible refine zG 41 rfl ?_); refine zL (some 6) rfl rfl Tryd.func41 #[.int .u64 a0] rfl ?_; (with_reducible refine (bits_number.calls a0 false _ A3.out).mono ?_); rintro e w' ⟨rfl, ⟨nd, rfl⟩⟩; refine ⟨_, rfl, ?_⟩))
 go_ret;exact ⟨by first | rfl | (simp; done) | (simp [*]; done), by repeat (first | exact Drawn0.refl _ | apply Drawn0.step)⟩
def bits_finite.f (a0 : Int) : Option (Bool) := (bits_amount.f a0).bind fun a1 => (some (decide (a1 < 9218868437227405312)))
set_option maxHeartbeats 8000000 in
set_option maxRecDepth 100000 in
theorem bits_finite.calls (a0 : Int) (r : Bool) (w : World) (h : bits_finite.f a0 = some r) :
  Calls Tryd.prog 94 #[.int .u64 a0] w fun e w' => e = .returned (.bool r) ∧ Drawn0 w w' := by
 have H : ((bits_amount.f a0).bind fun a1 => (some (decide (a1 < 9218868437227405312)))) = some r := h;clear h;obtain ⟨a1, A2, H⟩ := zh H;obtain rfl := Option.some.inj H;go_enter Tryd.func94, Tryd.ntmps94
 go_wp2_with (first | ((with_reducible refine zG 48 rfl ?_); refine zL (some 4) rfl rfl Tryd.func48 #[.int .u64 a0] rfl ?_; (with_reducible refine (bits_amount.calls a0 a1 _ A2.out).mono ?_); rintro e w' ⟨rfl, ⟨nd, rfl⟩⟩; refine ⟨_, rfl, ?_⟩))
 go_ret;exact ⟨by first | rfl | (simp; done) | (simp [*]; done), by repeat (first | exact Drawn0.refl _ | apply Drawn0.step)⟩
def bits_Last.f (a0 : Int) : Option (Int × Int) := (bits_finite.f a0).bind fun a2 => (if a2 = true then ((bits_Split.f a0).bind fun a1 => (some (wrap64 ((mx a1.2.1 1) - 1075), 0))) else (some (0, 5)))
set_option maxHeartbeats 8000000 in
set_option maxRecDepth 100000 in
theorem bits_Last.calls (a0 : Int) (r1 : Int) (r2 : Int) (w : World) (h : bits_Last.f a0 = some (r1, r2)) :
  Calls Tryd.prog 64 #[.int .u64 a0] w fun e w' => e = .returned (.tuple #[.int .i64 r1, .int .i64 r2]) ∧ Below w.heap.size w w' := by
 have HB := zA (Below.refl w.heap.size w);have H : ((bits_finite.f a0).bind fun a3 => (if a3 = true then ((bits_Split.f a0).bind fun a5 => (some (wrap64 ((mx a5.2.1 1) - 1075), 0))) else (some (0, 5)))) = some (r1, r2) := h;clear h;obtain ⟨a3, A2, H⟩ := zh H
 by_cases c3 : a3 = true
 ·subst c3;rw [if_pos rfl] at H;obtain ⟨⟨a6, a2, a7⟩, A4, H⟩ := zh H;(try dsimp only at H);obtain ⟨a4, a1⟩ : ∃ j_ : Int, (mx a2 1) = j_ := ⟨_, rfl⟩;replace H : (some (wrap64 ((a4) - 1075), 0)) = some (r1, r2) := zQ a1 H;(try rw [a1] at A2);(try rw [a1] at A4);(try (have hji5l : 1 ≤ a4 := by (rw [← a1]; unfold mx; (repeat' split) <;> omega)));(try (have hji5m : 0 ≤ a4 := by omega));have hji5_ : (if a2 < 1 then 1 else a2) = a4 := a1;simp only [Option.some.injEq, Prod.mk.injEq] at H;obtain ⟨rfl, rfl⟩ := H;go_enter Tryd.func64, Tryd.ntmps64
  go_wp2_with (first | ((with_reducible refine zG 94 rfl ?_); refine zL (some 5) rfl rfl Tryd.func94 #[.int .u64 a0] rfl ?_; (with_reducible refine (bits_finite.calls a0 true _ A2.out).mono ?_); rintro e w' ⟨rfl, ⟨nd, rfl⟩⟩; refine ⟨_, rfl, ?_⟩) | ((with_reducible refine zG 47 rfl ?_); refine zL (some 8) rfl rfl Tryd.func47 #[.int .u64 a0] rfl ?_; (with_reducible refine (bits_Split.calls a0 a6 a2 a7 _ A4.out).mono ?_); rintro e w6 ⟨rfl, hb⟩; refine ⟨_, rfl, ?_⟩; replace HB := ze hb))
  go_ret2
  exact ⟨by first | rfl | (simp [errW_none, errW_some] <;> rfl) | (simp only [← a1]; first | rfl | (simp [errW_none, errW_some] <;> rfl)) | (simp [*, errW_none, errW_some] <;> rfl), bq⟩
 replace c3 := Bool.eq_false_iff.mpr c3;subst c3;rw [if_neg (show ¬ (false = true) by decide)] at H;simp only [Option.some.injEq, Prod.mk.injEq] at H;obtain ⟨rfl, rfl⟩ := H;go_enter Tryd.func64, Tryd.ntmps64
 go_wp2_with (first | ((with_reducible refine zG 94 rfl ?_); refine zL (some 5) rfl rfl Tryd.func94 #[.int .u64 a0] rfl ?_; (with_reducible refine (bits_finite.calls a0 false _ A2.out).mono ?_); rintro e w' ⟨rfl, ⟨nd, rfl⟩⟩; refine ⟨_, rfl, ?_⟩))
 go_ret2
 exact ⟨er, bq⟩
def nat_Of.f (k : Nat) (a0 : Int) : Option (List Int) := (nat_norm.f k (([a0] : List Int))).bind fun a1 => ((nat_number_own.f a1).bind fun a2 => (some a2))
set_option maxHeartbeats 8000000 in
set_option maxRecDepth 100000 in
theorem nat_Of.calls (k : Nat) (a0 : Int) (r : List Int) (w : World) (h : nat_Of.f k a0 = some r) :
  Calls Tryd.prog 65 #[.int .u64 a0] w fun e w' => ∃ v0_ : Value, e = .returned (v0_) ∧ Kd.R (Kd.int .u64) 26 w' w.heap.size (fun _ => True) v0_ r ∧ Below w.heap.size w w' := by
 have HB := zA (Below.refl w.heap.size w);have H : ((nat_norm.f k (([a0] : List Int))).bind fun a2 => ((nat_number_own.f a2).bind fun a4 => (some a4))) = some r := h;clear h;obtain ⟨a5, a6⟩ : ∃ y_ : List Int, y_ = (([a0] : List Int)) := ⟨_, rfl⟩;replace H : ((nat_norm.f k a5).bind fun a2 => ((nat_number_own.f a2).bind fun a4 => (some a4))) = some r := zR a6 H;have a9 := zA a6;clear a6;obtain ⟨a2, A2, H⟩ := zh H;obtain ⟨a4, A3, H⟩ := zh H;obtain rfl := Option.some.inj H;go_enter Tryd.func65, Tryd.ntmps65
 go_wp2_with (first | ((with_reducible refine zD 4 rfl ?_); refine R_lit (Kd.int .u64) _ 26 ?hg (N := 4) ?hd (xs := ([a0] : List Int)) (inner := [.int .u64 a0]) (ok := fun _ => True) (okp := fun _ => True) ?hr ?hp (fun _ hk => hk) trivial (Below.refl _ _) (Nat.le_refl _) (by simp) ?_; (case hd => rfl); (case hg => rfl); (case hr => first | (go_simp; done) | (go_simp; rfl)); (case hp => exact (Reps.one (show Kd.M (Kd.int .u64) _ _ _ a0 [.int .u64 a0] from rfl) (Reps.none _ _))); intro v1085 w4 aa hb hg_ hnew_; clear hg_ hnew_; (first | rw [← a9.out] at aa | (simp only [Int.reduceToNat] at aa; rw [← a9.out] at aa)); have a1 := zA (R_lower aa (below_size bq)); replace HB := ze hb; clear hb aa; obtain ⟨ad, ae, af⟩ := R_slice a1.out; subst af) | ((with_reducible refine zG 95 rfl ?_); refine zL (some 5) rfl rfl Tryd.func95 #[.slice ad a5.length ae] rfl ?_; (with_reducible refine (nat_norm.calls k (fun k_ => some k_ = (.slice ad a5.length ae : Value).ownBlock) _ _ a5 a2 _ ?a8 A2.out).mono ?_); (case a8 => exact R_V (R_tight rfl (a1.out))); rintro e w7 ⟨v1088, rfl, a7, hb⟩; refine ⟨_, rfl, ?_⟩; replace a1 := zA (R_below (ru a1.out) hb); have a3 := zA (V_lower (V_mono (ok' := fun k_ => True) a7 (fun k_ hk_ => trivial)) (below_size bq)); replace HB := ze hb; (try clear a7); obtain ⟨ag, ah, ai⟩ := V_slice a3.out; subst ai) | ((with_reducible refine zG 96 rfl ?_); refine zL (some 6) rfl rfl Tryd.func96 #[.slice ag a2.length ah] rfl ?_; (with_reducible refine (nat_number_own.calls _ _ a2 a4 _ ?a8 ?ac A3.out).mono ?_); (case a8 => exact zk (V_reads' a3.out).2.2); (case ac => exact (V_reads' a3.out).2.1); rintro e w9 ⟨v1091, rfl, a7, hb⟩; refine ⟨_, rfl, ?_⟩; replace a3 := zA (V_elder' (vu a3.out) (R_base a7) hb); have ab := zA (R_lower (R_new' a7 (R_lt (ru a1.out))) (below_size bq)); replace a1 := zA (R_elder' (ru a1.out) (R_base a7) hb); replace HB := ze hb; (try clear a7)))
 go_ret;exact ⟨_, er, ru (R_mono ab.out (fun _ hk => trivial)), bq⟩
def round_Mid.j0 : Nat → Int → Bool → Option (Bool × List Int × Int × Int)
 | 0, _, _ => none
 | k + 1, x0, x6 => (bits_Last.f x0).bind fun a2 => ((bits_Split.f x0).bind fun a1 => (if a1.2.1 > 0 then ((nat_Of.f k (IntKind.u64.wrap ((IntKind.u64.wrap (2 * (Go.bits .or .u64 a1.2.2 4503599627370496))) + 1))).bind fun a3 => (some (x6, a3, wrap64 (a2.1 - 1), 0))) else ((nat_Of.f k (IntKind.u64.wrap ((IntKind.u64.wrap (2 * a1.2.2)) + 1))).bind fun a4 => (some (x6, a4, wrap64 (a2.1 - 1), 0)))))
def round_Mid.f (k : Nat) (a0 : Int) : Option (Bool × List Int × Int × Int) := (bits_Last.f a0).bind fun a2 => (if a2.2 = 0 then ((bits_Less.f a0 0).bind fun a1 => (if a1 = true then ((bits_Up.f k a0).bind fun a3 => (round_Mid.j0 k a3 a1)) else (round_Mid.j0 k a0 a1))) else (some (false, ([] : List Int), 0, a2.2)))
set_option maxHeartbeats 8000000 in
set_option maxRecDepth 100000 in
theorem round_Mid.calls (k : Nat) (a0 : Int) (r1 : Bool) (r2 : List Int) (r3 : Int) (r4 : Int) (w : World) (h : round_Mid.f k a0 = some (r1, r2, r3, r4)) :
  Calls Tryd.prog 27 #[.int .u64 a0] w fun e w' => ∃ v1_ : Value, e = .returned (.tuple #[.agg #[.bool r1, v1_, .int .i64 r3], .int .i64 r4]) ∧ Kd.R (Kd.int .u64) 26 w' w.heap.size (fun _ => True) v1_ r2 ∧ Below w.heap.size w w' := by
 have hu25 := Tryd.underlying25;have hu75 := Tryd.underlying75;have HB := zA (Below.refl w.heap.size w);have H : ((bits_Last.f a0).bind fun af => (if af.2 = 0 then ((bits_Less.f a0 0).bind fun a3 => (if a3 = true then ((bits_Up.f k a0).bind fun aa => (round_Mid.j0 k aa a3)) else (round_Mid.j0 k a0 a3))) else (some (false, ([] : List Int), 0, af.2)))) = some (r1, r2, r3, r4) := h;clear h;obtain ⟨⟨aj, ab⟩, A2, H⟩ := zh H;(try dsimp only at H)
 by_cases c3 : ab = 0
 ·rw [if_pos c3] at H;have am := beq_iff_eq.mpr c3;have an := bne_eq_false_iff_eq.mpr c3;clear c3;obtain ⟨a3, A4, H⟩ := zh H;have ao := zA H;clear H;go_enter Tryd.func27, Tryd.ntmps27
  go_upto_if 22 with (first | ((with_reducible refine zD 2 rfl ?_); refine zn (N := 2) (cs := #[.bool false, .slice none 0 0, .int .i64 0]) (t := 25) rfl rfl ?_; intro a2 hg w6 hbox hb; have a1 := zA (hbox); have ap := zw hg; replace HB := ze hb; clear hb hbox hg) | ((with_reducible refine zG 64 rfl ?_); refine zL (some 13) rfl rfl Tryd.func64 #[.int .u64 a0] rfl ?_; (with_reducible refine (bits_Last.calls a0 aj ab _ A2.out).mono ?_); rintro e w7 ⟨rfl, hb⟩; refine ⟨_, rfl, ?_⟩; replace a1 := zb a1 hb; replace HB := zf hb) | ((with_reducible refine zG 14 rfl ?_); refine zL (some 21) rfl rfl Tryd.func14 #[.int .u64 a0, .int .u64 0] rfl ?_; (with_reducible refine (bits_Less.calls a0 0 a3 _ A4.out).mono ?_); rintro e w' ⟨rfl, ⟨nd, rfl⟩⟩; refine ⟨_, rfl, ?_⟩))
  (try simp only [Act.put, List.setIfInBounds_toArray, List.set_cons_zero, List.set_cons_succ])
  go_cut [0] (fun v0 wc => ∃ (kq : Nat) (a4 : Int), v0 = .int .u64 a4 ∧ Aside0 (round_Mid.j0 kq a4 a3 = some (r1, r2, r3, r4)) ∧ Aside0 (kq ≤ k) ∧ Aside0 (wc.heap[a2]? = some (.cells #[.bool false, (.slice none 0 0), .int .i64 0] 25 (0, 0))) ∧ Aside0 (Below w.heap.size w wc))
  case first =>
   have H := ao.out;clear ao
   by_cases c8 : a3 = true
   ·subst c8;rw [if_pos rfl] at H;obtain ⟨aa, A9, H⟩ := zh H;have H' := zA H;clear H
    go_wp2_with (first | ((with_reducible refine zG 21 rfl ?_); refine zL (some 24) rfl rfl Tryd.func21 #[.int .u64 a0] rfl ?_; (with_reducible refine (bits_Up.calls k a0 aa _ A9.out).mono ?_); rintro e w' ⟨rfl, ⟨nd, rfl⟩⟩; refine ⟨_, rfl, ?_⟩))
    go_meet
    case rel => exact ⟨_, (aa), zi, H', ⟨by first | omega | exact Nat.le_refl _⟩, ⟨zu a1⟩, ⟨zs⟩⟩
   replace c8 := Bool.eq_false_iff.mpr c8;subst c8;rw [if_neg (show ¬ (false = true) by decide)] at H;have H' := zA H;clear H
   go_wp2
   go_meet
   case rel => exact ⟨_, (a0), zi, H', ⟨by first | omega | exact Nat.le_refl _⟩, ⟨zu a1⟩, ⟨zs⟩⟩
  case rest =>
   clear ao
   try clear c3
   try clear am
   try clear an
   try clear c6
   try clear c8
   obtain ⟨kq, a4, rfl, HA, bf, a1, HB⟩ := hcut
   cases kq with
   | zero => exact absurd HA.out (by simp [round_Mid.j0])
   | succ aA =>
    have H := HA.out;clear HA;simp only [round_Mid.j0] at H;obtain ⟨⟨a8, ak⟩, aB, H⟩ := zh H;(try dsimp only at H);obtain ⟨⟨al, ac, a9⟩, aC, H⟩ := zh H;(try dsimp only at H)
    by_cases c12 : ac > 0
    ·rw [if_pos c12] at H;have ay := decide_eq_true c12;clear c12;obtain ⟨ad, b9, H⟩ := zh H;simp only [Option.some.injEq, Prod.mk.injEq] at H;obtain ⟨rfl, rfl, rfl, rfl⟩ := H
     go_wp2_with (first | ((with_reducible refine zG 64 rfl ?_); refine zL (some 27) rfl rfl Tryd.func64 #[.int .u64 a4] rfl ?_; (with_reducible refine (bits_Last.calls a4 a8 ak _ aB.out).mono ?_); rintro e w14 ⟨rfl, hb⟩; refine ⟨_, rfl, ?_⟩; replace a1 := zb a1 hb; replace HB := zf hb) | ((with_reducible refine zG 47 rfl ?_); refine zL (some 31) rfl rfl Tryd.func47 #[.int .u64 a4] rfl ?_; (with_reducible refine (bits_Split.calls a4 al ac a9 _ aC.out).mono ?_); rintro e w15 ⟨rfl, hb⟩; refine ⟨_, rfl, ?_⟩; replace a1 := zb a1 hb; replace HB := zf hb) | ((with_reducible refine zD 9 rfl ?_); refine zn (N := 9) (cs := #[.bool false, .int .i64 0, .int .u64 0]) (t := 75) rfl rfl ?_; intro aq hg w16 hbox hb; have a5 := zA (hbox); have ar := zx hg; replace HB := zf hb; have a6 := zl a1 hg; have a7 := zg a1 hg; replace a1 := zb a1 hb; clear hb hbox hg; have bb := a7.out; have bc := a6.out; obtain ⟨aF, aG, aH, aI, aJ, aK⟩ := zc a5) | ((with_reducible refine zG 65 rfl ?_); refine zL (some 43) rfl rfl Tryd.func65 #[.int .u64 (IntKind.u64.wrap ((IntKind.u64.wrap (2 * (Go.bits .or .u64 a9 4503599627370496))) + 1))] rfl ?_; (with_reducible refine (nat_Of.calls aA (IntKind.u64.wrap ((IntKind.u64.wrap (2 * (Go.bits .or .u64 a9 4503599627370496))) + 1)) ad _ b9.out).mono ?_); rintro e w19 ⟨v1105, rfl, ag, hb⟩; refine ⟨_, rfl, ?_⟩; have ah := zA (R_lower ag (below_size zs)); replace a1 := zF a1 hb; replace a5 := zt a5 hb; replace HB := zf hb; (try clear ag); obtain ⟨au, av, aD⟩ := R_slice ah.out; subst aD; obtain ⟨aL, aM, aN, aO, aP, aQ⟩ := zc a1))
     refine bodyPost_ret (results_ct rfl _ _ a2 25 #[.bool a3, .slice au ad.length av, .int .i64 (wrap64 (a8 - 1))] (0, 0) _ rfl (zy a1) Tryd.underlying25 rfl (by kernel_rfl)) rfl ?_;exact ⟨_, er, ru (R_mono (R_far (p := ⟨a2, 2, none⟩) (R_far (p := ⟨a2, 1, none⟩) (R_far (p := ⟨a2, 0, none⟩) (R_types ah.out a1.out (by decide)) (fun _ hk => hk.2) (.bool a3)) (fun _ hk => hk.2) (.slice au ad.length av)) (fun _ hk => hk.2) (.int .i64 (wrap64 (a8 - 1)))) (fun _ hk => trivial)), zs⟩
    rw [if_neg c12] at H;have ay := decide_eq_false c12;clear c12;obtain ⟨ae, ba, H⟩ := zh H;simp only [Option.some.injEq, Prod.mk.injEq] at H;obtain ⟨rfl, rfl, rfl, rfl⟩ := H
    go_wp2_with (first | ((with_reducible refine zG 64 rfl ?_); refine zL (some 27) rfl rfl Tryd.func64 #[.int .u64 a4] rfl ?_; (with_reducible refine (bits_Last.calls a4 a8 ak _ aB.out).mono ?_); rintro e w23 ⟨rfl, hb⟩; refine ⟨_, rfl, ?_⟩; replace a1 := zb a1 hb; replace HB := zf hb) | ((with_reducible refine zG 47 rfl ?_); refine zL (some 31) rfl rfl Tryd.func47 #[.int .u64 a4] rfl ?_; (with_reducible refine (bits_Split.calls a4 al ac a9 _ aC.out).mono ?_); rintro e w24 ⟨rfl, hb⟩; refine ⟨_, rfl, ?_⟩; replace a1 := zb a1 hb; replace HB := zf hb) | ((with_reducible refine zD 9 rfl ?_); refine zn (N := 9) (cs := #[.bool false, .int .i64 0, .int .u64 0]) (t := 75) rfl rfl ?_; intro aq hg w25 hbox hb; have a5 := zA (hbox); have ar := zx hg; replace HB := zf hb; have a6 := zl a1 hg; have a7 := zg a1 hg; replace a1 := zb a1 hb; clear hb hbox hg; have bd := a7.out; have be := a6.out; obtain ⟨aR, aS, aT, aU, aV, aW⟩ := zc a5) | ((with_reducible refine zG 65 rfl ?_); refine zL (some 43) rfl rfl Tryd.func65 #[.int .u64 (IntKind.u64.wrap ((IntKind.u64.wrap (2 * a9)) + 1))] rfl ?_; (with_reducible refine (nat_Of.calls aA (IntKind.u64.wrap ((IntKind.u64.wrap (2 * a9)) + 1)) ae _ ba.out).mono ?_); rintro e w28 ⟨v1108, rfl, ag, hb⟩; refine ⟨_, rfl, ?_⟩; have ai := zA (R_lower ag (below_size zs)); replace a1 := zF a1 hb; replace a5 := zt a5 hb; replace HB := zf hb; (try clear ag); obtain ⟨aw, ax, aE⟩ := R_slice ai.out; subst aE; obtain ⟨aX, aY, az, aZ, b1, b2⟩ := zc a1))
    refine bodyPost_ret (results_ct rfl _ _ a2 25 #[.bool a3, .slice aw ae.length ax, .int .i64 (wrap64 (a8 - 1))] (0, 0) _ rfl (zy a1) Tryd.underlying25 rfl (by kernel_rfl)) rfl ?_;exact ⟨_, er, ru (R_mono (R_far (p := ⟨a2, 2, none⟩) (R_far (p := ⟨a2, 1, none⟩) (R_far (p := ⟨a2, 0, none⟩) (R_types ai.out a1.out (by decide)) (fun _ hk => hk.2) (.bool a3)) (fun _ hk => hk.2) (.slice aw ae.length ax)) (fun _ hk => hk.2) (.int .i64 (wrap64 (a8 - 1)))) (fun _ hk => trivial)), zs⟩
 rw [if_neg c3] at H;have am := beq_eq_false_iff_ne.mpr c3;have an := bne_iff_ne.mpr c3;simp only [Option.some.injEq, Prod.mk.injEq] at H;obtain ⟨rfl, rfl, rfl, rfl⟩ := H;go_enter Tryd.func27, Tryd.ntmps27
 go_wp2_with (first | ((with_reducible refine zD 2 rfl ?_); refine zn (N := 2) (cs := #[.bool false, .slice none 0 0, .int .i64 0]) (t := 25) rfl rfl ?_; intro a2 hg w31 hbox hb; have a1 := zA (hbox); have ap := zw hg; replace HB := ze hb; clear hb hbox hg) | ((with_reducible refine zG 64 rfl ?_); refine zL (some 13) rfl rfl Tryd.func64 #[.int .u64 a0] rfl ?_; (with_reducible refine (bits_Last.calls a0 aj ab _ A2.out).mono ?_); rintro e w32 ⟨rfl, hb⟩; refine ⟨_, rfl, ?_⟩; replace a1 := zb a1 hb; replace HB := zf hb; obtain ⟨b3, b4, b5, b6, b7, b8⟩ := zc a1))
 refine bodyPost_ret (results_ct rfl _ _ a2 25 #[.bool false, .slice none 0 0, .int .i64 0] (0, 0) _ rfl (zy a1) Tryd.underlying25 rfl (by kernel_rfl)) rfl ?_;exact ⟨_, er, by first | exact R_nil _ _ _ _ _ | exact Kd.N_nil _ _ _ _ _ | exact V_nil _ _ _ _ _ | exact Kd.Q_nil _ _ _ _ _ | exact Kd.S_nil _ _ _ _ _, zs⟩
def ulpref01_Finite.f (a0 : Int) : Option (Bool) := some (decide ((Int.tmod a0 9223372036854775808) < 9218868437227405312))
set_option maxHeartbeats 8000000 in
set_option maxRecDepth 100000 in
theorem ulpref01_Finite.calls (a0 : Int) (r : Bool) (w : World) (h : ulpref01_Finite.f a0 = some r) :
  Calls Tryd.prog 28 #[.int .u64 a0] w fun e w' => e = .returned (.bool r) ∧ Drawn0 w w' := by
 have H : (some (decide ((Int.tmod a0 9223372036854775808) < 9218868437227405312))) = some r := h;clear h;obtain rfl := Option.some.inj H;go_enter Tryd.func28, Tryd.ntmps28
 go_wp2
 go_ret;exact ⟨by first | rfl | (simp; done) | (simp [*]; done), by repeat (first | exact Drawn0.refl _ | apply Drawn0.step)⟩
def raw_Neg.f (k : Nat) (a2 : Bool) (a3 : List Int) (a4 : Int) : Option (Bool × List Int × Int) := (raw_Form.f k (!a2) a3 a4).bind fun a1 => (some (a1.1, a1.2.1, a1.2.2))
set_option maxHeartbeats 8000000 in
set_option maxRecDepth 100000 in
theorem raw_Neg.calls (k : Nat) (a6 : Bool) (P0_1_ : Nat → Prop) (a8 : Option Addr) (a9 : Nat) (a2 : List Int) (a7 : Int) (r1 : Bool) (r2 : List Int) (r3 : Int) (w : World) (hs0_1 : Kd.V (Kd.int .u64) 26 w w.heap.size (fun k_ => P0_1_ k_) (.slice a8 a2.length a9) a2) (hT : Laid w) (h : raw_Neg.f k a6 a2 a7 = some (r1, r2, r3)) :
  Calls Tryd.prog 83 #[.agg #[.bool a6, .slice a8 a2.length a9, .int .i64 a7]] w fun e w' => ∃ v1_ : Value, e = .returned (.agg #[.bool r1, v1_, .int .i64 r3]) ∧ Kd.V (Kd.int .u64) 26 w' w.heap.size (fun k_ => (P0_1_ k_ ∨ w.heap.size ≤ k_)) v1_ r2 ∧ Below w.heap.size w w' := by
 have hu25 := Tryd.underlying25;have a3 := zA (show Kd.V (Kd.int .u64) 26 w w.heap.size (fun k_ => (P0_1_ k_ ∨ w.heap.size ≤ k_)) (.slice a8 a2.length a9) a2 from V_mono hs0_1 (fun k_ hk => .inl hk));have HB := zA (Below.refl w.heap.size w);have H : ((raw_Form.f k (!a6) a2 a7).bind fun aa => (some (aa.1, aa.2.1, aa.2.2))) = some (r1, r2, r3) := h;clear h;obtain ⟨⟨af, ag, ah⟩, A2, H⟩ := zh H;(try dsimp only at H);simp only [Option.some.injEq, Prod.mk.injEq] at H;obtain ⟨rfl, rfl, rfl⟩ := H;go_enter Tryd.func83, Tryd.ntmps83
 go_wp2_with (first | ((with_reducible refine zD 1 rfl ?_); refine zn (N := 1) (cs := #[.bool a6, .slice a8 a2.length a9, .int .i64 a7]) (t := 25) rfl rfl ?_; intro ab hg w3 hbox hb; replace a3 := zA (V_below (V_elderB (vu a3.out) ab (Nat.le_of_eq hg.symm)) hb); have a1 := zA (hbox); have av := zw hg; replace HB := ze hb; clear hb hbox hg) | ((with_reducible refine zD 2 rfl ?_); refine zn (N := 2) (cs := #[.bool false, .slice none 0 0, .int .i64 0]) (t := 25) rfl rfl ?_; intro a4 hg w4 hbox hb; replace a3 := zA (V_below (V_elderB (vu a3.out) a4 (Nat.le_of_eq hg.symm)) hb); have a5 := zA (hbox); have aw := zx hg; replace HB := zf hb; have ac := zl a1 hg; have ad := zg a1 hg; replace a1 := zb a1 hb; clear hb hbox hg; have ax := ac.out; have ay := ad.out; obtain ⟨_, _, _, _, _, _⟩ := zc a1) | ((with_reducible refine zG 46 rfl ?_); refine zL (some 10) rfl rfl Tryd.func46 #[.bool (!a6), .slice a8 a2.length a9, .int .i64 a7] rfl ?_; (with_reducible refine (raw_Form.calls k (!a6) (fun k_ => (((P0_1_ k_ ∨ w.heap.size ≤ k_) ∧ k_ ≠ ab) ∧ k_ ≠ a4)) _ _ a2 a7 af ag ah _ ?ai (laid_below hT zs) A2.out).mono ?_); (case ai => exact a3.out); rintro e w7 ⟨v737, rfl, aj, hb⟩; refine ⟨_, rfl, ?_⟩; replace a3 := zA (V_below (vu a3.out) hb); have ae := zA (V_lower (V_mono (ok' := fun k_ => (P0_1_ k_ ∨ w.heap.size ≤ k_) ∧ k_ ≠ ab ∧ k_ ≠ a4) aj (fun k_ hk_ => ⟨Or.elim hk_ (fun hs_ => hs_.1.1) (fun hn_ => (.inr (Nat.le_trans (below_size zs) hn_))), Or.elim hk_ (fun hs_ => hs_.1.2) (fun hn_ => (zj a1 k_ hn_)), Or.elim hk_ (fun hs_ => hs_.2) (fun hn_ => (zj a5 k_ hn_))⟩)) (below_size zs)); replace a1 := zb a1 hb; replace a5 := zb a5 hb; replace HB := zf hb; (try clear aj); obtain ⟨ak, al, am, an, ao, ap⟩ := zc a5; obtain ⟨aq, ar, au⟩ := V_slice ae.out; subst au))
 refine bodyPost_ret (results_cell_row rfl _ _ a4 25 #[.bool af, .slice aq ag.length ar, .int .i64 ah] (0, 0) _ rfl (zy a5) Tryd.underlying25 rfl (by kernel_rfl)) rfl ?_;exact ⟨_, er, vu (V_mono (zv a4 (V_mono ae.out (fun k_ hk => (⟨hk, hk.2.2⟩ : _ ∧ k_ ≠ a4))) (fun _ hk => hk.2) _ _ _) (fun _ hk => hk.1.1)), zs⟩
end Go.Proofs.YtnjfckadjklmfaaDoor.PAll
