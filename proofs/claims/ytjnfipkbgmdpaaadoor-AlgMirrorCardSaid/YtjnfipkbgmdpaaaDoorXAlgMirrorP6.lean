/- Printed functions, merged by a program of this session. -/
import Derived.Test.YtjnfipkbgmdpaaaDoorXAlgMirrorP0
import Derived.Test.YtjnfipkbgmdpaaaDoorXAlgMirrorP1
import Derived.Test.YtjnfipkbgmdpaaaDoorXAlgMirrorP2
import Derived.Test.YtjnfipkbgmdpaaaDoorXAlgMirrorP5
import Derived.Test.YtjnfipkbgmdpaaaDoorXAlgMirrorP3
import Derived.Test.YtjnfipkbgmdpaaaDoorXAlgMirrorSh
namespace Go.Proofs.YtjnfipkbgmdpaaaDoor.PAll
open Go.RowKit Go.Proofs.YtjnfipkbgmdpaaaDoorW.PrintWords Go.Proofs.YtjnfipkbgmdpaaaDoorW.PrintLast Go.Proofs.YtjnfipkbgmdpaaaDoorW.PrintMore Go.Proofs.YtjnfipkbgmdpaaaDoorW.PrintWords.Kd
attribute [local go_sem] max2_int min2_int max_two min_two max_three min_three max_four min_four   -- for this text's walks alone
set_option linter.unusedVariables false
set_option linter.unusedSimpArgs false
attribute [local go_sem] ext75 ext76
def nat_Shl.f (k : Nat) (l0 : List Int) (a1 : Int) : Option (List Int × Int) := (nat_one.f k l0).bind fun a2 => (if a2.2 = 0 then (if a1 < 0 then (some (([] : List Int), 2)) else (if (a2.1.length : Int) = 0 then (some (([] : List Int), 0)) else (if a1 > 65536 then (some (([] : List Int), 3)) else ((nat_number_shl.f k a2.1 a1).bind fun a4 => ((nat_answer.f a4).bind fun a3 => (some (a3.1, a3.2))))))) else (some (([] : List Int), a2.2)))
set_option maxHeartbeats 8000000 in
set_option maxRecDepth 100000 in
theorem nat_Shl.calls (k : Nat) (A0 : Option Addr) (c0 : Nat) (l0 : List Int) (a1 : Int) (r1 : List Int) (r2 : Int) (w : World) (hr0 : Kd.C (Kd.int .u64) w A0 l0.length l0) (hc0 : l0.length ≤ c0) (h : nat_Shl.f k l0 a1 = some (r1, r2)) :
  Calls Tryd.prog 19 #[.slice A0 l0.length c0, .int .i64 a1] w fun e w' => ∃ v0_ : Value, e = .returned (.tuple #[v0_, .int .i64 r2]) ∧ Kd.R (Kd.int .u64) 22 w' w.heap.size (fun _ => True) v0_ r1 ∧ Below w.heap.size w w' := by
 have a9 := zA hr0;have aa := zA hc0;clear hr0 hc0;have HB := zA (Below.refl w.heap.size w);have H := h
 unfold nat_Shl.f at H
 clear h;obtain ⟨⟨a5, a7⟩, A3, H⟩ := zh H;(try dsimp only at H)
 by_cases c4 : a7 = 0
 ·rw [if_pos c4] at H;have ae := beq_iff_eq.mpr c4;have af := bne_eq_false_iff_eq.mpr c4;clear c4
  by_cases c5 : a1 < 0
  ·rw [if_pos c5] at H;have ag := decide_eq_true c5;clear c5;simp only [Option.some.injEq, Prod.mk.injEq] at H;obtain ⟨rfl, rfl⟩ := H;go_enter Tryd.func19, Tryd.ntmps19
   go_wp2_with (first | ((with_reducible refine zG 34 rfl ?_); refine zC (some 10) Tryd.func34 (nat_one.calls k (fun k_ => k_ < w.heap.size) _ _ l0 a5 a7 _ ?a2 A3.out) ?_; (case a2 => exact V_mk aa.out (Kd.F_below (C_F (Kd.heap_int .u64) a9.out) bq)); rintro e w6 ⟨v411, rfl, a4, hb⟩; refine ⟨_, rfl, ?_⟩; have a3 := zA (V_lower (V_mono (ok' := fun k_ => True) a4 (fun k_ hk_ => trivial)) (below_size bq)); replace HB := ze hb; (try clear a4)))
   go_ret2
   exact ⟨_, er, by first | exact R_nil _ _ _ _ _ | exact Kd.N_nil _ _ _ _ _ | exact V_nil _ _ _ _ _ | exact Kd.Q_nil _ _ _ _ _ | exact Kd.S_nil _ _ _ _ _, bq⟩
  rw [if_neg c5] at H;have ag := decide_eq_false c5;clear c5
  by_cases c7 : (a5.length : Int) = 0
  ·rw [if_pos c7] at H;have ah := beq_iff_eq.mpr c7;have ai := bne_eq_false_iff_eq.mpr c7;clear c7;simp only [Option.some.injEq, Prod.mk.injEq] at H;obtain ⟨rfl, rfl⟩ := H;go_enter Tryd.func19, Tryd.ntmps19
   go_wp2_with (first | ((with_reducible refine zG 34 rfl ?_); refine zC (some 10) Tryd.func34 (nat_one.calls k (fun k_ => k_ < w.heap.size) _ _ l0 a5 a7 _ ?a2 A3.out) ?_; (case a2 => exact V_mk aa.out (Kd.F_below (C_F (Kd.heap_int .u64) a9.out) bq)); rintro e w8 ⟨v411, rfl, a4, hb⟩; refine ⟨_, rfl, ?_⟩; have a3 := zA (V_lower (V_mono (ok' := fun k_ => True) a4 (fun k_ hk_ => trivial)) (below_size bq)); replace HB := ze hb; (try clear a4); obtain ⟨aB, aC, ao⟩ := V_slice a3.out; subst ao))
   go_ret2
   exact ⟨_, er, by first | exact R_nil _ _ _ _ _ | exact Kd.N_nil _ _ _ _ _ | exact V_nil _ _ _ _ _ | exact Kd.Q_nil _ _ _ _ _ | exact Kd.S_nil _ _ _ _ _, bq⟩
  rw [if_neg c7] at H;have ah := beq_eq_false_iff_ne.mpr c7;have ai := bne_iff_ne.mpr c7
  have ar : ¬ (a5 = []) := fun h_ => c7 (by rw [h_]; rfl)
  by_cases c10 : a1 > 65536
  ·rw [if_pos c10] at H;have ac := decide_eq_true c10;clear c10;simp only [Option.some.injEq, Prod.mk.injEq] at H;obtain ⟨rfl, rfl⟩ := H;go_enter Tryd.func19, Tryd.ntmps19
   go_wp2_with (first | ((with_reducible refine zG 34 rfl ?_); refine zC (some 10) Tryd.func34 (nat_one.calls k (fun k_ => k_ < w.heap.size) _ _ l0 a5 a7 _ ?a2 A3.out) ?_; (case a2 => exact V_mk aa.out (Kd.F_below (C_F (Kd.heap_int .u64) a9.out) bq)); rintro e w11 ⟨v411, rfl, a4, hb⟩; refine ⟨_, rfl, ?_⟩; have a3 := zA (V_lower (V_mono (ok' := fun k_ => True) a4 (fun k_ hk_ => trivial)) (below_size bq)); replace HB := ze hb; (try clear a4); obtain ⟨au, av, aj⟩ := V_slice a3.out; subst aj))
   go_ret2
   exact ⟨_, er, by first | exact R_nil _ _ _ _ _ | exact Kd.N_nil _ _ _ _ _ | exact V_nil _ _ _ _ _ | exact Kd.Q_nil _ _ _ _ _ | exact Kd.S_nil _ _ _ _ _, bq⟩
  rw [if_neg c10] at H;have ac := decide_eq_false c10;clear c10;obtain ⟨ab, ap, H⟩ := zh H;obtain ⟨⟨ak, al⟩, aq, H⟩ := zh H;(try dsimp only at H);simp only [Option.some.injEq, Prod.mk.injEq] at H;obtain ⟨rfl, rfl⟩ := H;go_enter Tryd.func19, Tryd.ntmps19
  go_wp2_with (first | ((with_reducible refine zG 34 rfl ?_); refine zC (some 10) Tryd.func34 (nat_one.calls k (fun k_ => k_ < w.heap.size) _ _ l0 a5 a7 _ ?a2 A3.out) ?_; (case a2 => exact V_mk aa.out (Kd.F_below (C_F (Kd.heap_int .u64) a9.out) bq)); rintro e w15 ⟨v411, rfl, a4, hb⟩; refine ⟨_, rfl, ?_⟩; have a3 := zA (V_lower (V_mono (ok' := fun k_ => True) a4 (fun k_ hk_ => trivial)) (below_size bq)); replace HB := ze hb; (try clear a4); obtain ⟨aw, ax, am⟩ := V_slice a3.out; subst am) | ((with_reducible refine zG 37 rfl ?_); refine zC (some 29) Tryd.func37 (nat_number_shl.calls k _ _ a5 a1 ab _ ?a2 ?a8 ap.out) ?_; (case a2 => exact zk (V_reads' a3.out).2.2); (case a8 => exact (V_reads' a3.out).2.1); rintro e w17 ⟨v415, rfl, a4, hb⟩; refine ⟨_, rfl, ?_⟩; replace a3 := zA (V_below (vu a3.out) hb); have a6 := zA (V_lower (V_mono (ok' := fun k_ => True) a4 (fun k_ hk_ => trivial)) (below_size bq)); replace HB := ze hb; (try clear a4); obtain ⟨ay, aA, an⟩ := V_slice a6.out; subst an) | ((with_reducible refine zG 36 rfl ?_); refine zC (some 30) Tryd.func36 (nat_answer.calls _ _ ab ak al _ ?a2 ?a8 aq.out) ?_; (case a2 => exact zk (V_reads' a6.out).2.2); (case a8 => exact (V_reads' a6.out).2.1); rintro e w19 ⟨v419, rfl, a4, hb⟩; refine ⟨_, rfl, ?_⟩; replace a3 := zA (V_elder' (vu a3.out) (R_base a4) hb); replace a6 := zA (V_elder' (vu a6.out) (R_base a4) hb); have ad := zA (R_lower a4 (below_size bq)); replace HB := ze hb; (try clear a4)))
  go_ret2
  exact ⟨_, er, ru ad.out, bq⟩
 rw [if_neg c4] at H;have ae := beq_eq_false_iff_ne.mpr c4;have af := bne_iff_ne.mpr c4;simp only [Option.some.injEq, Prod.mk.injEq] at H;obtain ⟨rfl, rfl⟩ := H;go_enter Tryd.func19, Tryd.ntmps19
 go_wp2_with (first | ((with_reducible refine zG 34 rfl ?_); refine zC (some 10) Tryd.func34 (nat_one.calls k (fun k_ => k_ < w.heap.size) _ _ l0 a5 a7 _ ?a2 A3.out) ?_; (case a2 => exact V_mk aa.out (Kd.F_below (C_F (Kd.heap_int .u64) a9.out) bq)); rintro e w20 ⟨v411, rfl, a4, hb⟩; refine ⟨_, rfl, ?_⟩; have a3 := zA (V_lower (V_mono (ok' := fun k_ => True) a4 (fun k_ hk_ => trivial)) (below_size bq)); replace HB := ze hb; (try clear a4)))
 go_ret2
 exact ⟨_, er, by first | exact R_nil _ _ _ _ _ | exact Kd.N_nil _ _ _ _ _ | exact V_nil _ _ _ _ _ | exact Kd.Q_nil _ _ _ _ _ | exact Kd.S_nil _ _ _ _ _, bq⟩
def nat_Of.f (k : Nat) (a0 : Int) : Option (List Int) := (nat_norm.f k (([a0] : List Int))).bind fun a1 => ((nat_number_own.f a1).bind fun a2 => (some a2))
set_option maxHeartbeats 8000000 in
set_option maxRecDepth 100000 in
theorem nat_Of.calls (k : Nat) (a0 : Int) (r : List Int) (w : World) (h : nat_Of.f k a0 = some r) :
  Calls Tryd.prog 20 #[.int .u64 a0] w fun e w' => ∃ v0_ : Value, e = .returned (v0_) ∧ Kd.R (Kd.int .u64) 22 w' w.heap.size (fun _ => True) v0_ r ∧ Below w.heap.size w w' := by
 have HB := zA (Below.refl w.heap.size w);have H := h
 unfold nat_Of.f at H
 clear h;obtain ⟨a8, a3⟩ : ∃ y_ : List Int, y_ = (([a0] : List Int)) := ⟨_, rfl⟩;(first | replace H := zRb a3 H | rw [← a3] at H | skip);have a7 := zA a3;clear a3;obtain ⟨a9, A2, H⟩ := zh H;obtain ⟨ac, A3, H⟩ := zh H;obtain rfl := Option.some.inj H;go_enter Tryd.func20, Tryd.ntmps20
 go_wp2_with (first | ((with_reducible refine zD 4 rfl ?_); refine R_lit (Kd.int .u64) _ 22 ?hg (N := 4) ?hd (xs := ([a0] : List Int)) (inner := [.int .u64 a0]) (ok := fun _ => True) (okp := fun _ => True) ?hr ?hp (fun _ hk => hk) trivial (Below.refl _ _) (Nat.le_refl _) (by simp) ?_; (case hd => rfl); (case hg => rfl); (case hr => first | (go_simp; done) | (go_simp; rfl)); (case hp => exact (Reps.one (show Kd.M (Kd.int .u64) _ _ _ a0 [.int .u64 a0] from rfl) (Reps.none _ _))); intro v422 w4 a6 hb hg_ hnew_; clear hg_ hnew_; (first | rw [← a7.out] at a6 | (simp only [Int.reduceToNat] at a6; rw [← a7.out] at a6)); have a1 := zA (R_lower a6 (below_size bq)); replace HB := ze hb; clear hb a6; obtain ⟨ad, ae, af⟩ := R_slice a1.out; subst af) | ((with_reducible refine zG 38 rfl ?_); refine zC (some 5) Tryd.func38 (nat_norm.calls k (fun k_ => some k_ = (.slice ad a8.length ae : Value).ownBlock) _ _ a8 a9 _ ?a5 A2.out) ?_; (case a5 => exact R_V (R_tight rfl (a1.out))); rintro e w7 ⟨v425, rfl, a4, hb⟩; refine ⟨_, rfl, ?_⟩; replace a1 := zA (R_below (ru a1.out) hb); have a2 := zA (V_lower (V_mono (ok' := fun k_ => True) a4 (fun k_ hk_ => trivial)) (below_size bq)); replace HB := ze hb; (try clear a4); obtain ⟨ah, ai, ag⟩ := V_slice a2.out; subst ag) | ((with_reducible refine zG 39 rfl ?_); refine zC (some 6) Tryd.func39 (nat_number_own.calls _ _ a9 ac _ ?a5 ?aa A3.out) ?_; (case a5 => exact zk (V_reads' a2.out).2.2); (case aa => exact (V_reads' a2.out).2.1); rintro e w9 ⟨v428, rfl, a4, hb⟩; refine ⟨_, rfl, ?_⟩; replace a2 := zA (V_elder' (vu a2.out) (R_base a4) hb); have ab := zA (R_lower (R_new' a4 (R_lt (ru a1.out))) (below_size bq)); replace a1 := zA (R_elder' (ru a1.out) (R_base a4) hb); replace HB := ze hb; (try clear a4)))
 go_ret;exact ⟨_, er, ru (R_mono ab.out (fun _ hk => trivial)), bq⟩
def nat_both.f (k : Nat) (l0 : List Int) (l1 : List Int) : Option (List Int × List Int × Int) := (nat_norm.f k l0).bind fun a1 => ((nat_norm.f k l1).bind fun a2 => ((nat_number_great.f a1).bind fun a3 => (if a3 = true then (some (([] : List Int), ([] : List Int), 3)) else ((nat_number_great.f a2).bind fun a4 => (if a4 = true then (some (([] : List Int), ([] : List Int), 3)) else (some (a1, a2, 0)))))))
set_option maxHeartbeats 8000000 in
set_option maxRecDepth 100000 in
theorem nat_both.calls (k : Nat) (P0_ : Nat → Prop) (A0 : Option Addr) (c0 : Nat) (l0 : List Int) (P1_ : Nat → Prop) (A1 : Option Addr) (c1 : Nat) (l1 : List Int) (r1 : List Int) (r2 : List Int) (r3 : Int) (w : World) (hs0 : Kd.V (Kd.int .u64) 22 w w.heap.size (fun k_ => P0_ k_) (.slice A0 l0.length c0) l0) (hs1 : Kd.V (Kd.int .u64) 22 w w.heap.size (fun k_ => P1_ k_) (.slice A1 l1.length c1) l1) (h : nat_both.f k l0 l1 = some (r1, r2, r3)) :
  Calls Tryd.prog 40 #[.slice A0 l0.length c0, .slice A1 l1.length c1] w fun e w' => ∃ v0_ v1_ : Value, e = .returned (.tuple #[v0_, v1_, .int .i64 r3]) ∧ Kd.V (Kd.int .u64) 22 w' w.heap.size (fun k_ => ((P0_ k_ ∨ P1_ k_) ∨ w.heap.size ≤ k_)) v0_ r1 ∧ Kd.V (Kd.int .u64) 22 w' w.heap.size (fun k_ => ((P0_ k_ ∨ P1_ k_) ∨ w.heap.size ≤ k_)) v1_ r2 ∧ Below w.heap.size w w' := by
 have a6 := zA (show Kd.V (Kd.int .u64) 22 w w.heap.size (fun k_ => ((P0_ k_ ∨ P1_ k_) ∨ w.heap.size ≤ k_)) (.slice A0 l0.length c0) l0 from V_mono hs0 (fun k_ hk => .inl (.inl hk)));have a7 := zA (show Kd.V (Kd.int .u64) 22 w w.heap.size (fun k_ => ((P0_ k_ ∨ P1_ k_) ∨ w.heap.size ≤ k_)) (.slice A1 l1.length c1) l1 from V_mono hs1 (fun k_ hk => .inl (.inr hk)));have HB := zA (Below.refl w.heap.size w);have H := h
 unfold nat_both.f at H
 clear h;obtain ⟨a8, A3, H⟩ := zh H;obtain ⟨a9, A4, H⟩ := zh H;obtain ⟨ab, A5, H⟩ := zh H
 by_cases c6 : ab = true
 ·subst c6;rw [if_pos rfl] at H;simp only [Option.some.injEq, Prod.mk.injEq] at H;obtain ⟨rfl, rfl, rfl⟩ := H;go_enter Tryd.func40, Tryd.ntmps40
  go_wp2_with (first | ((with_reducible refine zG 38 rfl ?_); refine zC (some 10) Tryd.func38 (nat_norm.calls k (fun k_ => ((P0_ k_ ∨ P1_ k_) ∨ w.heap.size ≤ k_)) _ _ l0 a8 _ ?a1 A3.out) ?_; (case a1 => exact a6.out); rintro e w7 ⟨v431, rfl, a3, hb⟩; refine ⟨_, rfl, ?_⟩; replace a6 := zA (V_below (vu a6.out) hb); replace a7 := zA (V_below (vu a7.out) hb); have a2 := zA (V_lower (V_mono (ok' := fun k_ => ((P0_ k_ ∨ P1_ k_) ∨ w.heap.size ≤ k_)) a3 (fun k_ hk_ => Or.elim hk_ (fun hs_ => hs_) (fun hn_ => (.inr (Nat.le_trans (below_size bq) hn_))))) (below_size bq)); replace HB := ze hb; (try clear a3)) | ((with_reducible refine zG 38 rfl ?_); refine zC (some 12) Tryd.func38 (nat_norm.calls k (fun k_ => ((P0_ k_ ∨ P1_ k_) ∨ w.heap.size ≤ k_)) _ _ l1 a9 _ ?a1 A4.out) ?_; (case a1 => exact a7.out); rintro e w8 ⟨v434, rfl, a3, hb⟩; refine ⟨_, rfl, ?_⟩; replace a6 := zA (V_below (vu a6.out) hb); replace a7 := zA (V_below (vu a7.out) hb); replace a2 := zA (V_below (vu a2.out) hb); have a4 := zA (V_lower (V_mono (ok' := fun k_ => ((P0_ k_ ∨ P1_ k_) ∨ w.heap.size ≤ k_)) a3 (fun k_ hk_ => Or.elim hk_ (fun hs_ => hs_) (fun hn_ => (.inr (Nat.le_trans (below_size bq) hn_))))) (below_size bq)); replace HB := ze hb; (try clear a3); obtain ⟨aq, ar, ah⟩ := V_slice a2.out; subst ah) | ((with_reducible refine zG 60 rfl ?_); refine zC (some 14) Tryd.func60 (nat_number_great.calls _ _ a8 true _ ?a1 ?a5 A5.out) ?_; (case a1 => exact zk (V_reads' a2.out).2.2); (case a5 => exact (V_reads' a2.out).2.1); rintro e w' ⟨rfl, ⟨nd, rfl⟩⟩; refine ⟨_, rfl, ?_⟩))
  go_ret3
  exact ⟨_, _, er, V_nil _ _ _ _ _, V_nil _ _ _ _ _, bq⟩
 replace c6 := Bool.eq_false_iff.mpr c6;subst c6;rw [if_neg (show ¬ (false = true) by decide)] at H;obtain ⟨ac, aa, H⟩ := zh H
 by_cases c11 : ac = true
 ·subst c11;rw [if_pos rfl] at H;simp only [Option.some.injEq, Prod.mk.injEq] at H;obtain ⟨rfl, rfl, rfl⟩ := H;go_enter Tryd.func40, Tryd.ntmps40
  go_wp2_with (first | ((with_reducible refine zG 38 rfl ?_); refine zC (some 10) Tryd.func38 (nat_norm.calls k (fun k_ => ((P0_ k_ ∨ P1_ k_) ∨ w.heap.size ≤ k_)) _ _ l0 a8 _ ?a1 A3.out) ?_; (case a1 => exact a6.out); rintro e w12 ⟨v431, rfl, a3, hb⟩; refine ⟨_, rfl, ?_⟩; replace a6 := zA (V_below (vu a6.out) hb); replace a7 := zA (V_below (vu a7.out) hb); have a2 := zA (V_lower (V_mono (ok' := fun k_ => ((P0_ k_ ∨ P1_ k_) ∨ w.heap.size ≤ k_)) a3 (fun k_ hk_ => Or.elim hk_ (fun hs_ => hs_) (fun hn_ => (.inr (Nat.le_trans (below_size bq) hn_))))) (below_size bq)); replace HB := ze hb; (try clear a3)) | ((with_reducible refine zG 38 rfl ?_); refine zC (some 12) Tryd.func38 (nat_norm.calls k (fun k_ => ((P0_ k_ ∨ P1_ k_) ∨ w.heap.size ≤ k_)) _ _ l1 a9 _ ?a1 A4.out) ?_; (case a1 => exact a7.out); rintro e w13 ⟨v434, rfl, a3, hb⟩; refine ⟨_, rfl, ?_⟩; replace a6 := zA (V_below (vu a6.out) hb); replace a7 := zA (V_below (vu a7.out) hb); replace a2 := zA (V_below (vu a2.out) hb); have a4 := zA (V_lower (V_mono (ok' := fun k_ => ((P0_ k_ ∨ P1_ k_) ∨ w.heap.size ≤ k_)) a3 (fun k_ hk_ => Or.elim hk_ (fun hs_ => hs_) (fun hn_ => (.inr (Nat.le_trans (below_size bq) hn_))))) (below_size bq)); replace HB := ze hb; (try clear a3); obtain ⟨ai, aj, ad⟩ := V_slice a2.out; subst ad) | ((with_reducible refine zG 60 rfl ?_); refine zC (some 14) Tryd.func60 (nat_number_great.calls _ _ a8 false _ ?a1 ?a5 A5.out) ?_; (case a1 => exact zk (V_reads' a2.out).2.2); (case a5 => exact (V_reads' a2.out).2.1); rintro e w' ⟨rfl, ⟨nd, rfl⟩⟩; refine ⟨_, rfl, ?_⟩; obtain ⟨ak, al, ae⟩ := V_slice a4.out; subst ae) | (go_at_call 60; (with_reducible refine (nat_number_great.calls _ _ a9 true _ ?a1 ?a5 aa.out).mono ?_); (case a1 => exact zk (V_reads' a4.out).2.2); (case a5 => exact (V_reads' a4.out).2.1); rintro e w' ⟨rfl, ⟨nd, rfl⟩⟩))
  go_ret3
  exact ⟨_, _, er, V_nil _ _ _ _ _, V_nil _ _ _ _ _, bq⟩
 replace c11 := Bool.eq_false_iff.mpr c11;subst c11;rw [if_neg (show ¬ (false = true) by decide)] at H;simp only [Option.some.injEq, Prod.mk.injEq] at H;obtain ⟨rfl, rfl, rfl⟩ := H;go_enter Tryd.func40, Tryd.ntmps40
 go_wp2_with (first | ((with_reducible refine zG 38 rfl ?_); refine zC (some 10) Tryd.func38 (nat_norm.calls k (fun k_ => ((P0_ k_ ∨ P1_ k_) ∨ w.heap.size ≤ k_)) _ _ l0 a8 _ ?a1 A3.out) ?_; (case a1 => exact a6.out); rintro e w16 ⟨v431, rfl, a3, hb⟩; refine ⟨_, rfl, ?_⟩; replace a6 := zA (V_below (vu a6.out) hb); replace a7 := zA (V_below (vu a7.out) hb); have a2 := zA (V_lower (V_mono (ok' := fun k_ => ((P0_ k_ ∨ P1_ k_) ∨ w.heap.size ≤ k_)) a3 (fun k_ hk_ => Or.elim hk_ (fun hs_ => hs_) (fun hn_ => (.inr (Nat.le_trans (below_size bq) hn_))))) (below_size bq)); replace HB := ze hb; (try clear a3)) | ((with_reducible refine zG 38 rfl ?_); refine zC (some 12) Tryd.func38 (nat_norm.calls k (fun k_ => ((P0_ k_ ∨ P1_ k_) ∨ w.heap.size ≤ k_)) _ _ l1 a9 _ ?a1 A4.out) ?_; (case a1 => exact a7.out); rintro e w17 ⟨v434, rfl, a3, hb⟩; refine ⟨_, rfl, ?_⟩; replace a6 := zA (V_below (vu a6.out) hb); replace a7 := zA (V_below (vu a7.out) hb); replace a2 := zA (V_below (vu a2.out) hb); have a4 := zA (V_lower (V_mono (ok' := fun k_ => ((P0_ k_ ∨ P1_ k_) ∨ w.heap.size ≤ k_)) a3 (fun k_ hk_ => Or.elim hk_ (fun hs_ => hs_) (fun hn_ => (.inr (Nat.le_trans (below_size bq) hn_))))) (below_size bq)); replace HB := ze hb; (try clear a3); obtain ⟨am, an, af⟩ := V_slice a2.out; subst af) | ((with_reducible refine zG 60 rfl ?_); refine zC (some 14) Tryd.func60 (nat_number_great.calls _ _ a8 false _ ?a1 ?a5 A5.out) ?_; (case a1 => exact zk (V_reads' a2.out).2.2); (case a5 => exact (V_reads' a2.out).2.1); rintro e w' ⟨rfl, ⟨nd, rfl⟩⟩; refine ⟨_, rfl, ?_⟩; obtain ⟨ao, ap, ag⟩ := V_slice a4.out; subst ag) | (go_at_call 60; (with_reducible refine (nat_number_great.calls _ _ a9 false _ ?a1 ?a5 aa.out).mono ?_); (case a1 => exact zk (V_reads' a4.out).2.2); (case a5 => exact (V_reads' a4.out).2.1); rintro e w' ⟨rfl, ⟨nd, rfl⟩⟩))
 go_ret3
 exact ⟨_, _, er, vu a2.out, vu a4.out, bq⟩
def nat_Add.f (k : Nat) (l0 : List Int) (l1 : List Int) : Option (List Int × Int) := (nat_both.f k l0 l1).bind fun a1 => (if a1.2.2 = 0 then ((nat_number_add.f k a1.1 a1.2.1).bind fun a3 => ((nat_answer.f a3).bind fun a2 => (some (a2.1, a2.2)))) else (some (([] : List Int), a1.2.2)))
set_option maxHeartbeats 8000000 in
set_option maxRecDepth 100000 in
theorem nat_Add.calls (k : Nat) (A0 : Option Addr) (c0 : Nat) (l0 : List Int) (A1 : Option Addr) (c1 : Nat) (l1 : List Int) (r1 : List Int) (r2 : Int) (w : World) (hr0 : Kd.C (Kd.int .u64) w A0 l0.length l0) (hc0 : l0.length ≤ c0) (hr1 : Kd.C (Kd.int .u64) w A1 l1.length l1) (hc1 : l1.length ≤ c1) (h : nat_Add.f k l0 l1 = some (r1, r2)) :
  Calls Tryd.prog 42 #[.slice A0 l0.length c0, .slice A1 l1.length c1] w fun e w' => ∃ v0_ : Value, e = .returned (.tuple #[v0_, .int .i64 r2]) ∧ Kd.R (Kd.int .u64) 22 w' w.heap.size (fun _ => True) v0_ r1 ∧ Below w.heap.size w w' := by
 have af := zA hr0;have ag := zA hc0;clear hr0 hc0;have ah := zA hr1;have ai := zA hc1;clear hr1 hc1;have HB := zA (Below.refl w.heap.size w);have H := h
 unfold nat_Add.f at H
 clear h;obtain ⟨⟨a8, a9, aa⟩, A3, H⟩ := zh H;(try dsimp only at H)
 by_cases c4 : aa = 0
 ·rw [if_pos c4] at H;have aj := beq_iff_eq.mpr c4;have ak := bne_eq_false_iff_eq.mpr c4;clear c4;obtain ⟨ab, A5, H⟩ := zh H;obtain ⟨⟨al, am⟩, A6, H⟩ := zh H;(try dsimp only at H);simp only [Option.some.injEq, Prod.mk.injEq] at H;obtain ⟨rfl, rfl⟩ := H;go_enter Tryd.func42, Tryd.ntmps42
  go_wp2_with (first | ((with_reducible refine zG 40 rfl ?_); refine zC (some 12) Tryd.func40 (nat_both.calls k (fun k_ => k_ < w.heap.size) _ _ l0 (fun k_ => k_ < w.heap.size) _ _ l1 a8 a9 aa _ ?a4 ?a5 A3.out) ?_; (case a4 => exact V_mk ag.out (Kd.F_below (C_F (Kd.heap_int .u64) af.out) bq)); (case a5 => exact V_mk ai.out (Kd.F_below (C_F (Kd.heap_int .u64) ah.out) bq)); rintro e w7 ⟨v439, v442, rfl, a1, a7, hb⟩; refine ⟨_, rfl, ?_⟩; have a2 := zA (V_lower (V_mono (ok' := fun k_ => True) a1 (fun k_ hk_ => trivial)) (below_size bq)); have a3 := zA (V_lower (V_mono (ok' := fun k_ => True) a7 (fun k_ hk_ => trivial)) (below_size bq)); replace HB := ze hb; (try clear a1); (try clear a7); obtain ⟨au, av, ao⟩ := V_slice a2.out; subst ao; obtain ⟨aw, ax, ap⟩ := V_slice a3.out; subst ap) | ((with_reducible refine zG 69 rfl ?_); refine zC (some 21) Tryd.func69 (nat_number_add.calls k _ _ a8 _ _ a9 ab _ ?a4 ?a5 ?ac ?ad A5.out) ?_; (case a4 => exact zk (V_reads' a2.out).2.2); (case a5 => exact (V_reads' a2.out).2.1); (case ac => exact zk (V_reads' a3.out).2.2); (case ad => exact (V_reads' a3.out).2.1); rintro e w10 ⟨v446, rfl, a1, hb⟩; refine ⟨_, rfl, ?_⟩; replace a2 := zA (V_below (vu a2.out) hb); replace a3 := zA (V_below (vu a3.out) hb); have a6 := zA (V_lower (V_mono (ok' := fun k_ => True) a1 (fun k_ hk_ => trivial)) (below_size bq)); replace HB := ze hb; (try clear a1); obtain ⟨aq, ar, an⟩ := V_slice a6.out; subst an) | ((with_reducible refine zG 36 rfl ?_); refine zC (some 22) Tryd.func36 (nat_answer.calls _ _ ab al am _ ?a4 ?a5 A6.out) ?_; (case a4 => exact zk (V_reads' a6.out).2.2); (case a5 => exact (V_reads' a6.out).2.1); rintro e w12 ⟨v450, rfl, a1, hb⟩; refine ⟨_, rfl, ?_⟩; replace a2 := zA (V_elder' (vu a2.out) (R_base a1) hb); replace a3 := zA (V_elder' (vu a3.out) (R_base a1) hb); replace a6 := zA (V_elder' (vu a6.out) (R_base a1) hb); have ae := zA (R_lower a1 (below_size bq)); replace HB := ze hb; (try clear a1)))
  go_ret2
  exact ⟨_, er, ru ae.out, bq⟩
 rw [if_neg c4] at H;have aj := beq_eq_false_iff_ne.mpr c4;have ak := bne_iff_ne.mpr c4;simp only [Option.some.injEq, Prod.mk.injEq] at H;obtain ⟨rfl, rfl⟩ := H;go_enter Tryd.func42, Tryd.ntmps42
 go_wp2_with (first | ((with_reducible refine zG 40 rfl ?_); refine zC (some 12) Tryd.func40 (nat_both.calls k (fun k_ => k_ < w.heap.size) _ _ l0 (fun k_ => k_ < w.heap.size) _ _ l1 a8 a9 aa _ ?a4 ?a5 A3.out) ?_; (case a4 => exact V_mk ag.out (Kd.F_below (C_F (Kd.heap_int .u64) af.out) bq)); (case a5 => exact V_mk ai.out (Kd.F_below (C_F (Kd.heap_int .u64) ah.out) bq)); rintro e w13 ⟨v439, v442, rfl, a1, a7, hb⟩; refine ⟨_, rfl, ?_⟩; have a2 := zA (V_lower (V_mono (ok' := fun k_ => True) a1 (fun k_ hk_ => trivial)) (below_size bq)); have a3 := zA (V_lower (V_mono (ok' := fun k_ => True) a7 (fun k_ hk_ => trivial)) (below_size bq)); replace HB := ze hb; (try clear a1); (try clear a7)))
 go_ret2
 exact ⟨_, er, by first | exact R_nil _ _ _ _ _ | exact Kd.N_nil _ _ _ _ _ | exact V_nil _ _ _ _ _ | exact Kd.Q_nil _ _ _ _ _ | exact Kd.S_nil _ _ _ _ _, bq⟩
def dyad_Check.f (k : Nat) (a1 : Bool) (a2 : List Int) (a3 : Int) : Option (Int) := (dyad_number_right.f k a1 a2 a3).bind fun a4 => (if a4 = true then (some 0) else (some 2))
set_option maxHeartbeats 8000000 in
set_option maxRecDepth 100000 in
theorem dyad_Check.calls (k : Nat) (a3 : Bool) (a5 : Option Addr) (a6 : Nat) (a1 : List Int) (a4 : Int) (r : Int) (w : World) (a9 : Kd.C (Kd.int .u64) w a5 a1.length a1) (aa : a1.length ≤ a6) (h : dyad_Check.f k a3 a1 a4 = some r) :
  Calls Tryd.prog 70 #[.agg #[.bool a3, .slice a5 a1.length a6, .int .i64 a4]] w fun e w' => e = .returned (.int .i64 r) ∧ Below w.heap.size w w' := by
 have hu36 := Tryd.underlying36;have ab := zA a9;have ac := zA aa;clear a9 aa;have HB := zA (Below.refl w.heap.size w);have H := h
 unfold dyad_Check.f at H
 clear h;obtain ⟨af, A2, H⟩ := zh H
 by_cases c3 : af = true
 ·subst c3;rw [if_pos rfl] at H;obtain rfl := Option.some.inj H;go_enter Tryd.func70, Tryd.ntmps70
  go_wp2_with (first | ((with_reducible refine zD 1 rfl ?_); refine zn (N := 1) (cs := #[.bool a3, .slice a5 a1.length a6, .int .i64 a4]) (t := 36) rfl rfl ?_; intro ad hg w4 hbox hb; have a2 := zA (hbox); have ae := zw hg; replace HB := ze hb; clear hb hbox hg; obtain ⟨_, _, _, _, _, _⟩ := zc a2) | ((with_reducible refine zG 32 rfl ?_); refine zC (some 4) Tryd.func32 (dyad_number_right.calls k a3 _ _ a1 a4 true _ ?a7 ?a8 A2.out) ?_; (case a7 => exact zk (C_below ab.out HB.out)); (case a8 => exact ac.out); rintro e w6 ⟨rfl, hb⟩; refine ⟨_, rfl, ?_⟩; replace a2 := zb a2 hb; replace HB := zf hb))
  go_ret;exact ⟨er, zs⟩
 replace c3 := Bool.eq_false_iff.mpr c3;subst c3;rw [if_neg (show ¬ (false = true) by decide)] at H;obtain rfl := Option.some.inj H;go_enter Tryd.func70, Tryd.ntmps70
 go_wp2_with (first | ((with_reducible refine zD 1 rfl ?_); refine zn (N := 1) (cs := #[.bool a3, .slice a5 a1.length a6, .int .i64 a4]) (t := 36) rfl rfl ?_; intro ad hg w7 hbox hb; have a2 := zA (hbox); have ae := zw hg; replace HB := ze hb; clear hb hbox hg; obtain ⟨ag, ah, ai, aj, ak, al⟩ := zc a2) | ((with_reducible refine zG 32 rfl ?_); refine zC (some 4) Tryd.func32 (dyad_number_right.calls k a3 _ _ a1 a4 false _ ?a7 ?a8 A2.out) ?_; (case a7 => exact zk (C_below ab.out HB.out)); (case a8 => exact ac.out); rintro e w9 ⟨rfl, hb⟩; refine ⟨_, rfl, ?_⟩; replace a2 := zb a2 hb; replace HB := zf hb))
 go_ret;exact ⟨er, zs⟩
def nat_Norm.f (k : Nat) (l0 : List Int) : Option (List Int × Int) := (nat_one.f k l0).bind fun a1 => (if a1.2 = 0 then ((nat_number_own.f a1.1).bind fun a2 => (some (a2, 0))) else (some (([] : List Int), a1.2)))
set_option maxHeartbeats 8000000 in
set_option maxRecDepth 100000 in
theorem nat_Norm.calls (k : Nat) (A0 : Option Addr) (c0 : Nat) (l0 : List Int) (r1 : List Int) (r2 : Int) (w : World) (hr0 : Kd.C (Kd.int .u64) w A0 l0.length l0) (hc0 : l0.length ≤ c0) (h : nat_Norm.f k l0 = some (r1, r2)) :
  Calls Tryd.prog 85 #[.slice A0 l0.length c0] w fun e w' => ∃ v0_ : Value, e = .returned (.tuple #[v0_, .int .i64 r2]) ∧ Kd.R (Kd.int .u64) 22 w' w.heap.size (fun _ => True) v0_ r1 ∧ Below w.heap.size w w' := by
 have a8 := zA hr0;have a9 := zA hc0;clear hr0 hc0;have HB := zA (Below.refl w.heap.size w);have H := h
 unfold nat_Norm.f at H
 clear h;obtain ⟨⟨a4, a5⟩, A2, H⟩ := zh H;(try dsimp only at H)
 by_cases c3 : a5 = 0
 ·rw [if_pos c3] at H;have aa := beq_iff_eq.mpr c3;have ab := bne_eq_false_iff_eq.mpr c3;clear c3;obtain ⟨ac, A4, H⟩ := zh H;simp only [Option.some.injEq, Prod.mk.injEq] at H;obtain ⟨rfl, rfl⟩ := H;go_enter Tryd.func85, Tryd.ntmps85
  go_wp2_with (first | ((with_reducible refine zG 34 rfl ?_); refine zC (some 8) Tryd.func34 (nat_one.calls k (fun k_ => k_ < w.heap.size) _ _ l0 a4 a5 _ ?a2 A2.out) ?_; (case a2 => exact V_mk a9.out (Kd.F_below (C_F (Kd.heap_int .u64) a8.out) bq)); rintro e w5 ⟨v461, rfl, a3, hb⟩; refine ⟨_, rfl, ?_⟩; have a1 := zA (V_lower (V_mono (ok' := fun k_ => True) a3 (fun k_ hk_ => trivial)) (below_size bq)); replace HB := ze hb; (try clear a3); obtain ⟨ae, af, ad⟩ := V_slice a1.out; subst ad) | ((with_reducible refine zG 39 rfl ?_); refine zC (some 15) Tryd.func39 (nat_number_own.calls _ _ a4 ac _ ?a2 ?a6 A4.out) ?_; (case a2 => exact zk (V_reads' a1.out).2.2); (case a6 => exact (V_reads' a1.out).2.1); rintro e w7 ⟨v465, rfl, a3, hb⟩; refine ⟨_, rfl, ?_⟩; replace a1 := zA (V_elder' (vu a1.out) (R_base a3) hb); have a7 := zA (R_lower a3 (below_size bq)); replace HB := ze hb; (try clear a3)))
  go_ret2
  exact ⟨_, er, ru a7.out, bq⟩
 rw [if_neg c3] at H;have aa := beq_eq_false_iff_ne.mpr c3;have ab := bne_iff_ne.mpr c3;simp only [Option.some.injEq, Prod.mk.injEq] at H;obtain ⟨rfl, rfl⟩ := H;go_enter Tryd.func85, Tryd.ntmps85
 go_wp2_with (first | ((with_reducible refine zG 34 rfl ?_); refine zC (some 8) Tryd.func34 (nat_one.calls k (fun k_ => k_ < w.heap.size) _ _ l0 a4 a5 _ ?a2 A2.out) ?_; (case a2 => exact V_mk a9.out (Kd.F_below (C_F (Kd.heap_int .u64) a8.out) bq)); rintro e w8 ⟨v461, rfl, a3, hb⟩; refine ⟨_, rfl, ?_⟩; have a1 := zA (V_lower (V_mono (ok' := fun k_ => True) a3 (fun k_ hk_ => trivial)) (below_size bq)); replace HB := ze hb; (try clear a3)))
 go_ret2
 exact ⟨_, er, by first | exact R_nil _ _ _ _ _ | exact Kd.N_nil _ _ _ _ _ | exact V_nil _ _ _ _ _ | exact Kd.Q_nil _ _ _ _ _ | exact Kd.S_nil _ _ _ _ _, bq⟩
def round_of.f (k : Nat) (a4 : Bool) (a2 : List Int) (a3 : Int) : Option (List Int × Int) := (nat_Norm.f k a2).bind fun a1 => (some (a1.1, a3))
set_option maxHeartbeats 8000000 in
set_option maxRecDepth 100000 in
theorem round_of.calls (k : Nat) (a9 : Bool) (aa : Option Addr) (ab : Nat) (a3 : List Int) (a5 : Int) (r1 : List Int) (r2 : Int) (w : World) (ac : Kd.C (Kd.int .u64) w aa a3.length a3) (ad : a3.length ≤ ab) (h : round_of.f k a9 a3 a5 = some (r1, r2)) :
  Calls Tryd.prog 80 #[.agg #[.bool a9, .slice aa a3.length ab, .int .i64 a5]] w fun e w' => ∃ v0_ : Value, e = .returned (.agg #[v0_, .int .i64 r2]) ∧ Kd.R (Kd.int .u64) 22 w' w.heap.size (fun _ => True) v0_ r1 ∧ Below w.heap.size w w' := by
 have hu36 := Tryd.underlying36;have hu106 := Tryd.underlying106;have ah := zA ac;have ai := zA ad;clear ac ad;have HB := zA (Below.refl w.heap.size w);have H := h
 unfold round_of.f at H
 clear h;obtain ⟨⟨a6, am⟩, A2, H⟩ := zh H;(try dsimp only at H);simp only [Option.some.injEq, Prod.mk.injEq] at H;obtain ⟨rfl, rfl⟩ := H;go_enter Tryd.func80, Tryd.ntmps80
 go_wp2_with (first | ((with_reducible refine zD 1 rfl ?_); refine zn (N := 1) (cs := #[.bool a9, .slice aa a3.length ab, .int .i64 a5]) (t := 36) rfl rfl ?_; intro aB hg w3 hbox hb; have a1 := zA (hbox); have aC := zw hg; replace HB := ze hb; clear hb hbox hg) | ((with_reducible refine zD 2 rfl ?_); refine zn (N := 2) (cs := #[.slice none 0 0, .int .i64 0]) (t := 106) rfl rfl ?_; intro a4 hg w4 hbox hb; have a2 := zA (hbox); have aD := zx hg; replace HB := zf hb; have a7 := zl a1 hg; have a8 := zg a1 hg; replace a1 := zb a1 hb; clear hb hbox hg; have aE := a7.out; have aF := a8.out; obtain ⟨_, _, _, _, _, _⟩ := zc a1) | ((with_reducible refine zG 85 rfl ?_); refine zC (some 8) Tryd.func85 (nat_Norm.calls k _ _ a3 a6 am _ ?aj ?ak A2.out) ?_; (case aj => exact zk (C_below ah.out HB.out)); (case ak => exact ai.out); rintro e w7 ⟨v471, rfl, al, hb⟩; refine ⟨_, rfl, ?_⟩; have ae := zA (R_lower al (below_size zs)); replace a1 := zb a1 hb; replace a2 := zb a2 hb; replace HB := zf hb; (try clear al); obtain ⟨ar, au, av, aw, ax, ay⟩ := zc a1; obtain ⟨af, ag, aA⟩ := R_slice ae.out; subst aA; have an : w7.cell? ⟨a4, 0, none⟩ = some (.slice none 0 0) := (blk_cell a2.out 0).trans rfl; have ao : w7.cell? ⟨a4, 1, none⟩ = some (.int .i64 0) := (blk_cell a2.out 1).trans rfl; have ap := blk_frozen a2.out 0; have aq := blk_frozen a2.out 1))
 refine bodyPost_ret (results_cell_row rfl _ _ a4 106 #[.slice af a6.length ag, .int .i64 a5] (0, 0) _ rfl (by (with_reducible repeat (first | refine blk_drewN ?_ _ | refine blk_drew ?_ | refine blk_alloc ?_ _)); refine blk_put (cs := #[.slice af a6.length ag, .int .i64 0]) ?_ 1 _ rfl; refine blk_put (cs := #[.slice none 0 0, .int .i64 0]) ?_ 0 _ rfl; exact a2.out) Tryd.underlying106 rfl (by kernel_rfl)) rfl ?_;exact ⟨_, er, ru (R_mono (R_far (p := ⟨a4, 1, none⟩) (R_far (p := ⟨a4, 0, none⟩) (R_types ae.out a2.out (by decide)) (fun _ hk => hk.2) (.slice af a6.length ag)) (fun _ hk => hk.2) (.int .i64 a5)) (fun _ hk => trivial)), zs⟩
def round_amount_zero.f (a1 : List Int) (a2 : Int) : Option (Bool) := some ((a1.length : Int) == 0)
set_option maxHeartbeats 8000000 in
set_option maxRecDepth 100000 in
theorem round_amount_zero.calls (a3 : Option Addr) (a4 : Nat) (a1 : List Int) (a5 : Int) (r : Bool) (w : World) (a6 : Kd.C (Kd.int .u64) w a3 a1.length a1) (a7 : a1.length ≤ a4) (h : round_amount_zero.f a1 a5 = some r) :
  Calls Tryd.prog 83 #[.agg #[.slice a3 a1.length a4, .int .i64 a5]] w fun e w' => e = .returned (.bool r) ∧ Below w.heap.size w w' := by
 have hu106 := Tryd.underlying106;have ad := zA a6;have ae := zA a7;clear a6 a7;have HB := zA (Below.refl w.heap.size w);have H : (some ((a1.length : Int) == 0)) = some r := h;clear h;obtain rfl := Option.some.inj H;go_enter Tryd.func83, Tryd.ntmps83
 go_wp2_with (first | ((with_reducible refine zD 1 rfl ?_); refine zn (N := 1) (cs := #[.slice a3 a1.length a4, .int .i64 a5]) (t := 106) rfl rfl ?_; intro a8 hg w2 hbox hb; have a2 := zA (hbox); have af := zw hg; replace HB := ze hb; clear hb hbox hg; have a9 : w2.cell? ⟨a8, 0, none⟩ = some (.slice a3 a1.length a4) := (blk_cell a2.out 0).trans rfl; have aa : w2.cell? ⟨a8, 1, none⟩ = some (.int .i64 a5) := (blk_cell a2.out 1).trans rfl; have ab := blk_frozen a2.out 0; have ac := blk_frozen a2.out 1))
 go_ret;exact ⟨er, zs⟩
def nat_Len.f (k : Nat) (l0 : List Int) : Option (Int × Int) := (nat_one.f k l0).bind fun a1 => ((nat_number_len.f k a1.1).bind fun a2 => (some (a2, a1.2)))
set_option maxHeartbeats 8000000 in
set_option maxRecDepth 100000 in
theorem nat_Len.calls (k : Nat) (A0 : Option Addr) (c0 : Nat) (l0 : List Int) (r1 : Int) (r2 : Int) (w : World) (hr0 : Kd.C (Kd.int .u64) w A0 l0.length l0) (hc0 : l0.length ≤ c0) (h : nat_Len.f k l0 = some (r1, r2)) :
  Calls Tryd.prog 18 #[.slice A0 l0.length c0] w fun e w' => e = .returned (.tuple #[.int .i64 r1, .int .i64 r2]) ∧ Below w.heap.size w w' := by
 have a8 := zA hr0;have a9 := zA hc0;clear hr0 hc0;have HB := zA (Below.refl w.heap.size w);have H := h
 unfold nat_Len.f at H
 clear h;obtain ⟨⟨a3, a6⟩, A2, H⟩ := zh H;(try dsimp only at H);obtain ⟨a7, A3, H⟩ := zh H;simp only [Option.some.injEq, Prod.mk.injEq] at H;obtain ⟨rfl, rfl⟩ := H;go_enter Tryd.func18, Tryd.ntmps18
 go_wp2_with (first | ((with_reducible refine zG 34 rfl ?_); refine zC (some 8) Tryd.func34 (nat_one.calls k (fun k_ => k_ < w.heap.size) _ _ l0 a3 a6 _ ?a1 A2.out) ?_; (case a1 => exact V_mk a9.out (Kd.F_below (C_F (Kd.heap_int .u64) a8.out) bq)); rintro e w4 ⟨v475, rfl, a5, hb⟩; refine ⟨_, rfl, ?_⟩; have a2 := zA (V_lower (V_mono (ok' := fun k_ => True) a5 (fun k_ hk_ => trivial)) (below_size bq)); replace HB := ze hb; (try clear a5); obtain ⟨ab, ac, aa⟩ := V_slice a2.out; subst aa) | ((with_reducible refine zG 35 rfl ?_); refine zC (some 12) Tryd.func35 (nat_number_len.calls k _ _ a3 a7 _ ?a1 ?a4 A3.out) ?_; (case a1 => exact zk (V_reads' a2.out).2.2); (case a4 => exact (V_reads' a2.out).2.1); rintro e w' ⟨rfl, ⟨nd, rfl⟩⟩; refine ⟨_, rfl, ?_⟩))
 go_ret2
 exact ⟨er, bq⟩
def round_amount_top.f (k : Nat) (a2 : List Int) (a3 : Int) : Option (Int) := (nat_Len.f k a2).bind fun a1 => (some (wrap64 (a1.1 + a3)))
set_option maxHeartbeats 8000000 in
set_option maxRecDepth 100000 in
theorem round_amount_top.calls (k : Nat) (a4 : Option Addr) (a5 : Nat) (a2 : List Int) (a6 : Int) (r : Int) (w : World) (a7 : Kd.C (Kd.int .u64) w a4 a2.length a2) (a8 : a2.length ≤ a5) (h : round_amount_top.f k a2 a6 = some r) :
  Calls Tryd.prog 86 #[.agg #[.slice a4 a2.length a5, .int .i64 a6]] w fun e w' => e = .returned (.int .i64 r) ∧ Below w.heap.size w w' := by
 have hu106 := Tryd.underlying106;have a9 := zA a7;have aa := zA a8;clear a7 a8;have HB := zA (Below.refl w.heap.size w);have H := h
 unfold round_amount_top.f at H
 clear h;obtain ⟨⟨ad, ae⟩, A2, H⟩ := zh H;(try dsimp only at H);obtain rfl := Option.some.inj H;go_enter Tryd.func86, Tryd.ntmps86
 go_wp2_with (first | ((with_reducible refine zD 1 rfl ?_); refine zn (N := 1) (cs := #[.slice a4 a2.length a5, .int .i64 a6]) (t := 106) rfl rfl ?_; intro a3 hg w3 hbox hb; have a1 := zA (hbox); have an := zw hg; replace HB := ze hb; clear hb hbox hg; have af : w3.cell? ⟨a3, 0, none⟩ = some (.slice a4 a2.length a5) := (blk_cell a1.out 0).trans rfl; have ag : w3.cell? ⟨a3, 1, none⟩ = some (.int .i64 a6) := (blk_cell a1.out 1).trans rfl; have ah := blk_frozen a1.out 0; have ai := blk_frozen a1.out 1) | ((with_reducible refine zG 18 rfl ?_); refine zC (some 8) Tryd.func18 (nat_Len.calls k _ _ a2 ad ae _ ?ab ?ac A2.out) ?_; (case ab => exact zk (C_below a9.out HB.out)); (case ac => exact aa.out); rintro e w5 ⟨rfl, hb⟩; refine ⟨_, rfl, ?_⟩; replace a1 := zb a1 hb; replace HB := zf hb; have aj : w5.cell? ⟨a3, 0, none⟩ = some (.slice a4 a2.length a5) := (blk_cell a1.out 0).trans rfl; have ak : w5.cell? ⟨a3, 1, none⟩ = some (.int .i64 a6) := (blk_cell a1.out 1).trans rfl; have al := blk_frozen a1.out 0; have am := blk_frozen a1.out 1))
 go_ret;exact ⟨er, zs⟩
def nat_Shr.f (k : Nat) (l0 : List Int) (a1 : Int) : Option (List Int × Bool × Int) := (nat_one.f k l0).bind fun a2 => (if a2.2 = 0 then (if a1 < 0 then (some (([] : List Int), false, 2)) else ((nat_number_shr.f k a2.1 a1).bind fun a3 => ((nat_number_own.f a3.1).bind fun a4 => (some (a4, a3.2, 0))))) else (some (([] : List Int), false, a2.2)))
set_option maxHeartbeats 8000000 in
set_option maxRecDepth 100000 in
theorem nat_Shr.calls (k : Nat) (A0 : Option Addr) (c0 : Nat) (l0 : List Int) (a1 : Int) (r1 : List Int) (r2 : Bool) (r3 : Int) (w : World) (hr0 : Kd.C (Kd.int .u64) w A0 l0.length l0) (hc0 : l0.length ≤ c0) (h : nat_Shr.f k l0 a1 = some (r1, r2, r3)) :
  Calls Tryd.prog 45 #[.slice A0 l0.length c0, .int .i64 a1] w fun e w' => ∃ v0_ : Value, e = .returned (.tuple #[v0_, .bool r2, .int .i64 r3]) ∧ Kd.R (Kd.int .u64) 22 w' w.heap.size (fun _ => True) v0_ r1 ∧ Below w.heap.size w w' := by
 have a9 := zA hr0;have aa := zA hc0;clear hr0 hc0;have HB := zA (Below.refl w.heap.size w);have H := h
 unfold nat_Shr.f at H
 clear h;obtain ⟨⟨a6, a7⟩, A3, H⟩ := zh H;(try dsimp only at H)
 by_cases c4 : a7 = 0
 ·rw [if_pos c4] at H;have ad := beq_iff_eq.mpr c4;have ae := bne_eq_false_iff_eq.mpr c4;clear c4
  by_cases c5 : a1 < 0
  ·rw [if_pos c5] at H;have af := decide_eq_true c5;clear c5;simp only [Option.some.injEq, Prod.mk.injEq] at H;obtain ⟨rfl, rfl, rfl⟩ := H;go_enter Tryd.func45, Tryd.ntmps45
   go_wp2_with (first | ((with_reducible refine zG 34 rfl ?_); refine zC (some 13) Tryd.func34 (nat_one.calls k (fun k_ => k_ < w.heap.size) _ _ l0 a6 a7 _ ?a3 A3.out) ?_; (case a3 => exact V_mk aa.out (Kd.F_below (C_F (Kd.heap_int .u64) a9.out) bq)); rintro e w6 ⟨v483, rfl, a2, hb⟩; refine ⟨_, rfl, ?_⟩; have a4 := zA (V_lower (V_mono (ok' := fun k_ => True) a2 (fun k_ hk_ => trivial)) (below_size bq)); replace HB := ze hb; (try clear a2)))
   go_ret3
   exact ⟨_, er, by first | exact R_nil _ _ _ _ _ | exact Kd.N_nil _ _ _ _ _ | exact V_nil _ _ _ _ _ | exact Kd.Q_nil _ _ _ _ _ | exact Kd.S_nil _ _ _ _ _, bq⟩
  rw [if_neg c5] at H;have af := decide_eq_false c5;clear c5;obtain ⟨⟨ab, ag⟩, A7, H⟩ := zh H;(try dsimp only at H);obtain ⟨ah, A8, H⟩ := zh H;simp only [Option.some.injEq, Prod.mk.injEq] at H;obtain ⟨rfl, rfl, rfl⟩ := H;go_enter Tryd.func45, Tryd.ntmps45
  go_wp2_with (first | ((with_reducible refine zG 34 rfl ?_); refine zC (some 13) Tryd.func34 (nat_one.calls k (fun k_ => k_ < w.heap.size) _ _ l0 a6 a7 _ ?a3 A3.out) ?_; (case a3 => exact V_mk aa.out (Kd.F_below (C_F (Kd.heap_int .u64) a9.out) bq)); rintro e w9 ⟨v483, rfl, a2, hb⟩; refine ⟨_, rfl, ?_⟩; have a4 := zA (V_lower (V_mono (ok' := fun k_ => True) a2 (fun k_ hk_ => trivial)) (below_size bq)); replace HB := ze hb; (try clear a2); obtain ⟨ak, al, ai⟩ := V_slice a4.out; subst ai) | ((with_reducible refine zG 68 rfl ?_); refine zC (some 26) Tryd.func68 (nat_number_shr.calls k _ _ a6 a1 ab ag _ ?a3 ?a8 A7.out) ?_; (case a3 => exact zk (V_reads' a4.out).2.2); (case a8 => exact (V_reads' a4.out).2.1); rintro e w11 ⟨v487, rfl, a2, hb⟩; refine ⟨_, rfl, ?_⟩; replace a4 := zA (V_below (vu a4.out) hb); have a5 := zA (V_lower (V_mono (ok' := fun k_ => True) a2 (fun k_ hk_ => trivial)) (below_size bq)); replace HB := ze hb; (try clear a2); obtain ⟨am, an, aj⟩ := V_slice a5.out; subst aj) | ((with_reducible refine zG 39 rfl ?_); refine zC (some 30) Tryd.func39 (nat_number_own.calls _ _ ab ah _ ?a3 ?a8 A8.out) ?_; (case a3 => exact zk (V_reads' a5.out).2.2); (case a8 => exact (V_reads' a5.out).2.1); rintro e w13 ⟨v491, rfl, a2, hb⟩; refine ⟨_, rfl, ?_⟩; replace a4 := zA (V_elder' (vu a4.out) (R_base a2) hb); replace a5 := zA (V_elder' (vu a5.out) (R_base a2) hb); have ac := zA (R_lower a2 (below_size bq)); replace HB := ze hb; (try clear a2)))
  go_ret3
  exact ⟨_, er, ru ac.out, bq⟩
 rw [if_neg c4] at H;have ad := beq_eq_false_iff_ne.mpr c4;have ae := bne_iff_ne.mpr c4;simp only [Option.some.injEq, Prod.mk.injEq] at H;obtain ⟨rfl, rfl, rfl⟩ := H;go_enter Tryd.func45, Tryd.ntmps45
 go_wp2_with (first | ((with_reducible refine zG 34 rfl ?_); refine zC (some 13) Tryd.func34 (nat_one.calls k (fun k_ => k_ < w.heap.size) _ _ l0 a6 a7 _ ?a3 A3.out) ?_; (case a3 => exact V_mk aa.out (Kd.F_below (C_F (Kd.heap_int .u64) a9.out) bq)); rintro e w14 ⟨v483, rfl, a2, hb⟩; refine ⟨_, rfl, ?_⟩; have a4 := zA (V_lower (V_mono (ok' := fun k_ => True) a2 (fun k_ hk_ => trivial)) (below_size bq)); replace HB := ze hb; (try clear a2)))
 go_ret3
 exact ⟨_, er, by first | exact R_nil _ _ _ _ _ | exact Kd.N_nil _ _ _ _ _ | exact V_nil _ _ _ _ _ | exact Kd.Q_nil _ _ _ _ _ | exact Kd.S_nil _ _ _ _ _, bq⟩
def round_word.f (l0 : List Int) : Option (Int) := if (l0.length : Int) = 0 then (some 0) else (if 0 < (l0.length : Int) then (some (rd l0 0)) else (none))
set_option maxHeartbeats 8000000 in
set_option maxRecDepth 100000 in
theorem round_word.calls (A0 : Option Addr) (c0 : Nat) (l0 : List Int) (r : Int) (w : World) (hr0 : Kd.C (Kd.int .u64) w A0 l0.length l0) (hc0 : l0.length ≤ c0) (h : round_word.f l0 = some r) :
  Calls Tryd.prog 88 #[.slice A0 l0.length c0] w fun e w' => e = .returned (.int .u64 r) ∧ Drawn0 w w' := by
 have a4 := zA hr0;have a8 := zA hc0;clear hr0 hc0;have H := h
 unfold round_word.f at H
 clear h
 by_cases c2 : (l0.length : Int) = 0
 ·rw [if_pos c2] at H;have a2 := beq_iff_eq.mpr c2;have a3 := bne_eq_false_iff_eq.mpr c2;clear c2;obtain rfl := Option.some.inj H;go_enter Tryd.func88, Tryd.ntmps88
  go_wp2
  go_ret;exact ⟨by first | rfl | (simp; done) | (simp [*]; done), by repeat (first | exact Drawn0.refl _ | apply Drawn0.step)⟩
 rw [if_neg c2] at H;have a2 := beq_eq_false_iff_ne.mpr c2;have a3 := bne_iff_ne.mpr c2
 have a5 : ¬ (l0 = []) := fun h_ => c2 (by rw [h_]; rfl)
 replace H := dn H;obtain ⟨c3, H⟩ := H;have a6 := decide_eq_true c3;have a7 : decide (0 < l0.length) = true := decide_eq_true (by omega);clear c3;obtain rfl := Option.some.inj H;have p493 : 0 ≤ (0 : Int) := (by omega);have q493 : 0 < (l0.length : Int) := od;obtain ⟨ad493, e493, a1⟩ := Kd.at_int a4.out 0 p493 q493;cases e493;have qi493 : (0 < l0.length) = True := eq_true (by omega);(try rw [show ((0 : Int)).toNat = 0 from rfl] at a1);(try rw [Addr.add_zero'] at a1);replace p493 := eq_true p493;replace q493 := eq_true q493;go_enter Tryd.func88, Tryd.ntmps88
 go_wp2
 go_ret;exact ⟨by first | rfl | (simp; done) | (simp [*]; done), by repeat (first | exact Drawn0.refl _ | apply Drawn0.step)⟩
def nat_Bit.f (k : Nat) (l0 : List Int) (a1 : Int) : Option (Bool × Int) := (nat_one.f k l0).bind fun a2 => (if a2.2 = 0 then (if a1 < 0 then (some (false, 2)) else (if (wrap64 (Int.tdiv a1 64)) < (a2.1.length : Int) then (if 0 ≤ (wrap64 (Int.tdiv a1 64)) then (if 0 ≤ (Int.tmod a1 64) then (some (((Go.bits .and .u64 (shr .u64 (rd a2.1 (wrap64 (Int.tdiv a1 64))) (Int.tmod a1 64)) 1) == 1), 0)) else (none)) else (none)) else (some (false, 0)))) else (some (false, a2.2)))
set_option maxHeartbeats 8000000 in
set_option maxRecDepth 100000 in
theorem nat_Bit.calls (k : Nat) (A0 : Option Addr) (c0 : Nat) (l0 : List Int) (a1 : Int) (r1 : Bool) (r2 : Int) (w : World) (hr0 : Kd.C (Kd.int .u64) w A0 l0.length l0) (hc0 : l0.length ≤ c0) (h : nat_Bit.f k l0 a1 = some (r1, r2)) :
  Calls Tryd.prog 89 #[.slice A0 l0.length c0, .int .i64 a1] w fun e w' => e = .returned (.tuple #[.bool r1, .int .i64 r2]) ∧ Below w.heap.size w w' := by
 have ab := zA hr0;have ac := zA hc0;clear hr0 hc0;have HB := zA (Below.refl w.heap.size w);have H := h
 unfold nat_Bit.f at H
 clear h;obtain ⟨⟨a2, a7⟩, A3, H⟩ := zh H;(try dsimp only at H)
 by_cases c4 : a7 = 0
 ·rw [if_pos c4] at H;have ag := beq_iff_eq.mpr c4;have ah := bne_eq_false_iff_eq.mpr c4;clear c4
  by_cases c5 : a1 < 0
  ·rw [if_pos c5] at H;have ai := decide_eq_true c5;clear c5;simp only [Option.some.injEq, Prod.mk.injEq] at H;obtain ⟨rfl, rfl⟩ := H;go_enter Tryd.func89, Tryd.ntmps89
   go_wp2_with (first | ((with_reducible refine zG 34 rfl ?_); refine zC (some 10) Tryd.func34 (nat_one.calls k (fun k_ => k_ < w.heap.size) _ _ l0 a2 a7 _ ?a3 A3.out) ?_; (case a3 => exact V_mk ac.out (Kd.F_below (C_F (Kd.heap_int .u64) ab.out) bq)); rintro e w6 ⟨v495, rfl, a4, hb⟩; refine ⟨_, rfl, ?_⟩; have a5 := zA (V_lower (V_mono (ok' := fun k_ => True) a4 (fun k_ hk_ => trivial)) (below_size bq)); replace HB := ze hb; (try clear a4)))
   go_ret2
   exact ⟨er, bq⟩
  rw [if_neg c5] at H;have ai := decide_eq_false c5;clear c5
  by_cases c7 : (wrap64 (Int.tdiv a1 64)) < (a2.length : Int)
  ·rw [if_pos c7] at H;have ae := decide_eq_true c7;clear c7;generalize a9 : wrap64 (Int.tdiv a1 64) = a8 at H;(try rw [a9] at ae);(try rw [a9] at A3);have hji8w : (IntKind.i64.wrap (Int.tdiv a1 64)) = a8 := (i64_w _).trans a9;replace H := dn H;obtain ⟨c9, H⟩ := H;have ao := decide_eq_true c9;clear c9;generalize ad : Int.tmod a1 64 = aa at H;(try rw [ad] at A3);replace H := dn H;obtain ⟨c11, H⟩ := H;have am := eq_true c11;have an := decide_eq_true c11;clear c11;generalize a6 : shr .u64 (rd a2 (a8)) (aa) = af at H;(try rw [a6] at A3);have hji12_ : ((rd a2 (a8)) / 2 ^ min (aa).toNat 64) = af := a6;have hji12z : (aa) ≤ 64 → ((rd a2 (a8)) / 2 ^ (aa).toNat) = af := shr_small a6;simp only [Option.some.injEq, Prod.mk.injEq] at H;obtain ⟨rfl, rfl⟩ := H;go_enter Tryd.func89, Tryd.ntmps89
   go_wp2_with (first | ((with_reducible refine zG 34 rfl ?_); refine zC (some 10) Tryd.func34 (nat_one.calls k (fun k_ => k_ < w.heap.size) _ _ l0 a2 a7 _ ?a3 A3.out) ?_; (case a3 => exact V_mk ac.out (Kd.F_below (C_F (Kd.heap_int .u64) ab.out) bq)); rintro e w13 ⟨v495, rfl, a4, hb⟩; refine ⟨_, rfl, ?_⟩; have a5 := zA (V_lower (V_mono (ok' := fun k_ => True) a4 (fun k_ hk_ => trivial)) (below_size bq)); replace HB := ze hb; (try clear a4); obtain ⟨ap, aq, aj⟩ := V_slice a5.out; subst aj; have p498 : 0 ≤ ((a8) : Int) := od; have q498 : (a8) < (a2.length : Int) := od; obtain ⟨ad498, e498, al⟩ := Kd.at_int (V_reads' a5.out).2.2 (a8) p498 q498; cases e498; replace p498 := eq_true p498; replace q498 := eq_true q498))
   go_ret2
   exact ⟨by first | rfl | (simp [errW_none, errW_some] <;> rfl) | (simp only [← a9, ← ad, ← a6]; first | rfl | (simp [errW_none, errW_some] <;> rfl)) | (simp [*, errW_none, errW_some] <;> rfl), bq⟩
  rw [if_neg c7] at H;have ae := decide_eq_false c7;clear c7;simp only [Option.some.injEq, Prod.mk.injEq] at H;obtain ⟨rfl, rfl⟩ := H;go_enter Tryd.func89, Tryd.ntmps89
  go_wp2_with (first | ((with_reducible refine zG 34 rfl ?_); refine zC (some 10) Tryd.func34 (nat_one.calls k (fun k_ => k_ < w.heap.size) _ _ l0 a2 a7 _ ?a3 A3.out) ?_; (case a3 => exact V_mk ac.out (Kd.F_below (C_F (Kd.heap_int .u64) ab.out) bq)); rintro e w15 ⟨v495, rfl, a4, hb⟩; refine ⟨_, rfl, ?_⟩; have a5 := zA (V_lower (V_mono (ok' := fun k_ => True) a4 (fun k_ hk_ => trivial)) (below_size bq)); replace HB := ze hb; (try clear a4); obtain ⟨ar, au, ak⟩ := V_slice a5.out; subst ak))
  go_ret2
  exact ⟨er, bq⟩
 rw [if_neg c4] at H;have ag := beq_eq_false_iff_ne.mpr c4;have ah := bne_iff_ne.mpr c4;simp only [Option.some.injEq, Prod.mk.injEq] at H;obtain ⟨rfl, rfl⟩ := H;go_enter Tryd.func89, Tryd.ntmps89
 go_wp2_with (first | ((with_reducible refine zG 34 rfl ?_); refine zC (some 10) Tryd.func34 (nat_one.calls k (fun k_ => k_ < w.heap.size) _ _ l0 a2 a7 _ ?a3 A3.out) ?_; (case a3 => exact V_mk ac.out (Kd.F_below (C_F (Kd.heap_int .u64) ab.out) bq)); rintro e w17 ⟨v495, rfl, a4, hb⟩; refine ⟨_, rfl, ?_⟩; have a5 := zA (V_lower (V_mono (ok' := fun k_ => True) a4 (fun k_ hk_ => trivial)) (below_size bq)); replace HB := ze hb; (try clear a4)))
 go_ret2
 exact ⟨er, bq⟩
def nat_Low.l0 : Nat → Int → List Int → Int → Int → Option (Int × Int)
 | 0, _, _, _, _ => none
 | k + 1, x5, x13, x14, x15 => if x15 < x14 then (if 0 ≤ x15 then (if x15 < (x13.length : Int) then (if (rd x13 x15) = 0 then (nat_Low.l0 k x5 x13 x14 (wrap64 (x15 + 1))) else ((bits_TrailingZeros64.f (rd x13 x15)).bind fun a1 => (some (wrap64 ((wrap64 (64 * x15)) + a1), x5)))) else (none)) else (none)) else (some (0, x5))
def nat_Low.f (k : Nat) (l0 : List Int) : Option (Int × Int) := (nat_one.f k l0).bind fun a1 => (nat_Low.l0 k a1.2 a1.1 (a1.1.length : Int) 0)
set_option maxHeartbeats 8000000 in
set_option maxRecDepth 100000 in
theorem nat_Low.calls (k : Nat) (A0 : Option Addr) (c0 : Nat) (l0 : List Int) (r1 : Int) (r2 : Int) (w : World) (hr0 : Kd.C (Kd.int .u64) w A0 l0.length l0) (hc0 : l0.length ≤ c0) (hT : Laid w) (h : nat_Low.f k l0 = some (r1, r2)) :
  Calls Tryd.prog 90 #[.slice A0 l0.length c0] w fun e w' => e = .returned (.tuple #[.int .i64 r1, .int .i64 r2]) ∧ Below w.heap.size w w' := by
 have ad := zA hr0;have ae := zA hc0;clear hr0 hc0;have HB := zA (Below.refl w.heap.size w);have H := h
 unfold nat_Low.f at H
 clear h;obtain ⟨⟨a2, a6⟩, A2, H⟩ := zh H;(try dsimp only at H);have H' := zA H;clear H;go_enter Tryd.func90, Tryd.ntmps90
 go_wp2_with (first | ((with_reducible refine zG 34 rfl ?_); refine zC (some 10) Tryd.func34 (nat_one.calls k (fun k_ => k_ < w.heap.size) _ _ l0 a2 a6 _ ?a7 A2.out) ?_; (case a7 => exact V_mk ae.out (Kd.F_below (C_F (Kd.heap_int .u64) ad.out) bq)); rintro e w3 ⟨v500, rfl, a8, hb⟩; refine ⟨_, rfl, ?_⟩; have a4 := zA (V_lower (V_mono (ok' := fun k_ => True) a8 (fun k_ hk_ => trivial)) (below_size bq)); replace HB := ze hb; (try clear a8); obtain ⟨af, ag, ah⟩ := V_slice a4.out; subst ah))
 go_loopg [15] k (fun kq v15 w' => ∃ (a1 : Int), v15 = .int .i64 a1 ∧ Aside0 (nat_Low.l0 kq a6 a2 (a2.length : Int) a1 = some (r1, r2)) ∧ Aside0 (kq ≤ k) ∧ Aside0 (Kd.V (Kd.int .u64) 22 w' w.heap.size (fun _ => True) (.slice af a2.length ag) a2) ∧ Aside0 (Below w.heap.size w w'))
 case atStart => exact ⟨(0), zi, H', ⟨Nat.le_refl _⟩, ⟨vu a4.out⟩, ⟨bq⟩⟩
 case round =>
  clear H'
  try clear c3
  obtain ⟨a1, rfl, HA, HK1, a3, HB⟩ := hrel
  cases gk with
  | zero => exact absurd HA.out (by simp [nat_Low.l0])
  | succ k1 =>
   have H := HA.out;clear HA;simp only [nat_Low.l0] at H
   by_cases c5 : a1 < (a2.length : Int)
   ·rw [if_pos c5] at H;have a9 := decide_eq_true c5;clear c5;replace H := dn H;obtain ⟨c6, H⟩ := H;have ai := decide_eq_true c6;clear c6;replace H := dn H;obtain ⟨c7, H⟩ := H;have aj := decide_eq_true c7;clear c7
    by_cases c8 : (rd a2 a1) = 0
    ·rw [if_pos c8] at H;have aa := beq_iff_eq.mpr c8;have ab := bne_eq_false_iff_eq.mpr c8;clear c8;have H' := zA H;clear H;have p503 : 0 ≤ (a1 : Int) := od;have q503 : a1 < (a2.length : Int) := od;obtain ⟨ad503, e503, a5⟩ := Kd.at_int (V_reads' a3.out).2.2 a1 p503 q503;cases e503;replace p503 := eq_true p503;replace q503 := eq_true q503
     go_wp2
     go_roundg k1
     case measure => have := HK1.out; omega
     case rel => exact ⟨(wrap64 (a1 + 1)), zi, H', ⟨by have := HK1.out; omega⟩, ⟨vu a3.out⟩, ⟨bq⟩⟩
    rw [if_neg c8] at H;have aa := beq_eq_false_iff_ne.mpr c8;have ab := bne_iff_ne.mpr c8;obtain ⟨ac, A9, H⟩ := zh H;simp only [Option.some.injEq, Prod.mk.injEq] at H;obtain ⟨rfl, rfl⟩ := H;have p503 : 0 ≤ (a1 : Int) := od;have q503 : a1 < (a2.length : Int) := od;obtain ⟨ad503, e503, a5⟩ := Kd.at_int (V_reads' a3.out).2.2 a1 p503 q503;cases e503;replace p503 := eq_true p503;replace q503 := eq_true q503
    go_wp2_with (first | ((with_reducible refine zG 84 rfl ?_); refine zC (some 25) Tryd.func84 (bits_TrailingZeros64.calls (rd a2 a1) ac _ (laid_below hT bq) A9.out) ?_; rintro e w' ⟨rfl, ⟨nd, rfl⟩⟩; refine ⟨_, rfl, ?_⟩))
    go_ret2
    exact ⟨er, bq⟩
   rw [if_neg c5] at H;have a9 := decide_eq_false c5;clear c5;simp only [Option.some.injEq, Prod.mk.injEq] at H;obtain ⟨rfl, rfl⟩ := H
   go_wp2
   go_ret2
   exact ⟨er, bq⟩
end Go.Proofs.YtjnfipkbgmdpaaaDoor.PAll
