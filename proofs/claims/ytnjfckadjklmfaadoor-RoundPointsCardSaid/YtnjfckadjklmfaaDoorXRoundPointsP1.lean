/- Printed functions, merged by a program of this session. -/
import Derived.Test.YtnjfckadjklmfaaDoorXRoundPointsP0
import Derived.Test.YtnjfckadjklmfaaDoorXRoundPointsSh
namespace Go.Proofs.YtnjfckadjklmfaaDoor.PAll
open Go.RowKit Go.Proofs.YtnjfckadjklmfaaDoorW.PrintWords Go.Proofs.YtnjfckadjklmfaaDoorW.PrintLast Go.Proofs.YtnjfckadjklmfaaDoorW.PrintMore Go.Proofs.YtnjfckadjklmfaaDoorW.PrintWords.Kd
attribute [local go_sem] max2_int min2_int max_two min_two max_three min_three max_four min_four   -- for this text's walks alone
set_option linter.unusedVariables false
set_option linter.unusedSimpArgs false
attribute [local go_sem] fld75_0 fld75_1 fld75_2 ext118 ext119
def round_of.f (k : Nat) (a4 : Bool) (a2 : List Int) (a3 : Int) : Option (List Int × Int) := (nat_Norm.f k a2).bind fun a1 => (some (a1.1, a3))
theorem round_of.mono : ∀ a0 a1 a2 k, LeO (round_of.f k a0 a1 a2) (round_of.f (k + 1) a0 a1 a2) := by
 intro a0 a1 a2 k
 unfold round_of.f
 repeat' first
   | (with_reducible exact nat_Norm.mono _ _)
   | (with_reducible exact LeO.refl _)
   | (with_reducible exact LeO.none _)
   | (with_reducible refine LeO.ite ?_ ?_)
   | (with_reducible refine LeO.bind ?_ (fun _ => ?_))
   | exact nat_Norm.mono _ _
   | exact LeO.none _
   | refine LeO.ite ?_ ?_
   | refine LeO.bind ?_ (fun _ => ?_)
set_option maxHeartbeats 8000000 in
set_option maxRecDepth 100000 in
theorem round_of.calls (k : Nat) (ab : Bool) (a6 : Option Addr) (a7 : Nat) (a3 : List Int) (a5 : Int) (r1 : List Int) (r2 : Int) (w : World) (ac : Kd.C (Kd.int .u64) w a6 a3.length a3) (ad : a3.length ≤ a7) (h : round_of.f k ab a3 a5 = some (r1, r2)) :
  Calls Tryd.prog 35 #[.agg #[.bool ab, .slice a6 a3.length a7, .int .i64 a5]] w fun e w' => ∃ v0_ : Value, e = .returned (.agg #[v0_, .int .i64 r2]) ∧ Kd.R (Kd.int .u64) 26 w' w.heap.size (fun _ => True) v0_ r1 ∧ Below w.heap.size w w' := by
 have hu25 := Tryd.underlying25;have hu64 := Tryd.underlying64;have ah := zA ac;have ai := zA ad;clear ac ad;have HB := zA (Below.refl w.heap.size w);have H : ((nat_Norm.f k a3).bind fun aj => (some (aj.1, a5))) = some (r1, r2) := h;clear h;obtain ⟨⟨a8, an⟩, A2, H⟩ := zh H;(try dsimp only at H);simp only [Option.some.injEq, Prod.mk.injEq] at H;obtain ⟨rfl, rfl⟩ := H;go_enter Tryd.func35, Tryd.ntmps35
 go_wp2_with (first | ((with_reducible refine zD 1 rfl ?_); refine zn (N := 1) (cs := #[.bool ab, .slice a6 a3.length a7, .int .i64 a5]) (t := 25) rfl rfl ?_; intro aC hg w3 hbox hb; have a1 := zA (hbox); have aD := zw hg; replace HB := ze hb; clear hb hbox hg) | ((with_reducible refine zD 2 rfl ?_); refine zn (N := 2) (cs := #[.slice none 0 0, .int .i64 0]) (t := 64) rfl rfl ?_; intro a4 hg w4 hbox hb; have a2 := zA (hbox); have aE := zx hg; replace HB := zf hb; have a9 := zl a1 hg; have aa := zg a1 hg; replace a1 := zb a1 hb; clear hb hbox hg; have aF := a9.out; have aG := aa.out; obtain ⟨_, _, _, _, _, _⟩ := zc a1) | ((with_reducible refine zG 75 rfl ?_); refine zL (some 8) rfl rfl Tryd.func75 #[.slice a6 a3.length a7] rfl ?_; (with_reducible refine (nat_Norm.calls k _ _ a3 a8 an _ ?ak ?al A2.out).mono ?_); (case ak => exact zk (C_below ah.out HB.out)); (case al => exact ai.out); rintro e w7 ⟨v144, rfl, am, hb⟩; refine ⟨_, rfl, ?_⟩; have ae := zA (R_lower am (below_size zs)); replace a1 := zb a1 hb; replace a2 := zb a2 hb; replace HB := zf hb; (try clear am); obtain ⟨au, av, aw, ax, ay, aA⟩ := zc a1; obtain ⟨af, ag, aB⟩ := R_slice ae.out; subst aB; have ao : w7.cell? ⟨a4, 0, none⟩ = some (.slice none 0 0) := (blk_cell a2.out 0).trans rfl; have ap : w7.cell? ⟨a4, 1, none⟩ = some (.int .i64 0) := (blk_cell a2.out 1).trans rfl; have aq := blk_frozen a2.out 0; have ar := blk_frozen a2.out 1))
 refine bodyPost_ret (results_cell_row rfl _ _ a4 64 #[.slice af a8.length ag, .int .i64 a5] (0, 0) _ rfl (by (with_reducible repeat (first | refine blk_drewN ?_ _ | refine blk_drew ?_ | refine blk_alloc ?_ _)); refine blk_put (cs := #[.slice af a8.length ag, .int .i64 0]) ?_ 1 _ rfl; refine blk_put (cs := #[.slice none 0 0, .int .i64 0]) ?_ 0 _ rfl; exact a2.out) Tryd.underlying64 rfl (by kernel_rfl)) rfl ?_;exact ⟨_, er, ru (R_mono (R_far (p := ⟨a4, 1, none⟩) (R_far (p := ⟨a4, 0, none⟩) (R_types ae.out a2.out (by decide)) (fun _ hk => hk.2) (.slice af a8.length ag)) (fun _ hk => hk.2) (.int .i64 a5)) (fun _ hk => trivial)), zs⟩
def round_amount_zero.f (a1 : List Int) (a2 : Int) : Option (Bool) := some ((a1.length : Int) == 0)
set_option maxHeartbeats 8000000 in
set_option maxRecDepth 100000 in
theorem round_amount_zero.calls (a3 : Option Addr) (a4 : Nat) (a1 : List Int) (a5 : Int) (r : Bool) (w : World) (a6 : Kd.C (Kd.int .u64) w a3 a1.length a1) (a7 : a1.length ≤ a4) (h : round_amount_zero.f a1 a5 = some r) :
  Calls Tryd.prog 50 #[.agg #[.slice a3 a1.length a4, .int .i64 a5]] w fun e w' => e = .returned (.bool r) ∧ Below w.heap.size w w' := by
 have hu64 := Tryd.underlying64;have ad := zA a6;have ae := zA a7;clear a6 a7;have HB := zA (Below.refl w.heap.size w);have H : (some ((a1.length : Int) == 0)) = some r := h;clear h;obtain rfl := Option.some.inj H;go_enter Tryd.func50, Tryd.ntmps50
 go_wp2_with (first | ((with_reducible refine zD 1 rfl ?_); refine zn (N := 1) (cs := #[.slice a3 a1.length a4, .int .i64 a5]) (t := 64) rfl rfl ?_; intro a8 hg w2 hbox hb; have a2 := zA (hbox); have af := zw hg; replace HB := ze hb; clear hb hbox hg; have a9 : w2.cell? ⟨a8, 0, none⟩ = some (.slice a3 a1.length a4) := (blk_cell a2.out 0).trans rfl; have aa : w2.cell? ⟨a8, 1, none⟩ = some (.int .i64 a5) := (blk_cell a2.out 1).trans rfl; have ab := blk_frozen a2.out 0; have ac := blk_frozen a2.out 1))
 go_ret;exact ⟨er, zs⟩
def bits_Len64.j0 : Nat → Int → Int → Option (Int)
 | 0, _, _ => none
 | k + 1, x0, x2 => if x0 ≥ 65536 then (if (x0 / 65536) ≥ 256 then (if 0 ≤ (((x0 / 65536) / 256) % 256) then (if (((x0 / 65536) / 256) % 256) < 256 then (some (wrap64 ((wrap64 ((wrap64 (x2 + 16)) + 8)) + (wrap64 (bt (⟨#[0, 1, 2, 2, 3, 3, 3, 3, 4, 4, 4, 4, 4, 4, 4, 4, 5, 5, 5, 5, 5, 5, 5, 5, 5, 5, 5, 5, 5, 5, 5, 5, 6, 6, 6, 6, 6, 6, 6, 6, 6, 6, 6, 6, 6, 6, 6, 6, 6, 6, 6, 6, 6, 6, 6, 6, 6, 6, 6, 6, 6, 6, 6, 6, 7, 7, 7, 7, 7, 7, 7, 7, 7, 7, 7, 7, 7, 7, 7, 7, 7, 7, 7, 7, 7, 7, 7, 7, 7, 7, 7, 7, 7, 7, 7, 7, 7, 7, 7, 7, 7, 7, 7, 7, 7, 7, 7, 7, 7, 7, 7, 7, 7, 7, 7, 7, 7, 7, 7, 7, 7, 7, 7, 7, 7, 7, 7, 7, 8, 8, 8, 8, 8, 8, 8, 8, 8, 8, 8, 8, 8, 8, 8, 8, 8, 8, 8, 8, 8, 8, 8, 8, 8, 8, 8, 8, 8, 8, 8, 8, 8, 8, 8, 8, 8, 8, 8, 8, 8, 8, 8, 8, 8, 8, 8, 8, 8, 8, 8, 8, 8, 8, 8, 8, 8, 8, 8, 8, 8, 8, 8, 8, 8, 8, 8, 8, 8, 8, 8, 8, 8, 8, 8, 8, 8, 8, 8, 8, 8, 8, 8, 8, 8, 8, 8, 8, 8, 8, 8, 8, 8, 8, 8, 8, 8, 8, 8, 8, 8, 8, 8, 8, 8, 8, 8, 8, 8, 8, 8, 8, 8, 8, 8, 8, 8, 8, 8, 8, 8, 8, 8, 8, 8, 8, 8, 8]⟩ : ByteArray) (((x0 / 65536) / 256) % 256)))))) else (none)) else (none)) else (if 0 ≤ ((x0 / 65536) % 256) then (if ((x0 / 65536) % 256) < 256 then (some (wrap64 ((wrap64 (x2 + 16)) + (wrap64 (bt (⟨#[0, 1, 2, 2, 3, 3, 3, 3, 4, 4, 4, 4, 4, 4, 4, 4, 5, 5, 5, 5, 5, 5, 5, 5, 5, 5, 5, 5, 5, 5, 5, 5, 6, 6, 6, 6, 6, 6, 6, 6, 6, 6, 6, 6, 6, 6, 6, 6, 6, 6, 6, 6, 6, 6, 6, 6, 6, 6, 6, 6, 6, 6, 6, 6, 7, 7, 7, 7, 7, 7, 7, 7, 7, 7, 7, 7, 7, 7, 7, 7, 7, 7, 7, 7, 7, 7, 7, 7, 7, 7, 7, 7, 7, 7, 7, 7, 7, 7, 7, 7, 7, 7, 7, 7, 7, 7, 7, 7, 7, 7, 7, 7, 7, 7, 7, 7, 7, 7, 7, 7, 7, 7, 7, 7, 7, 7, 7, 7, 8, 8, 8, 8, 8, 8, 8, 8, 8, 8, 8, 8, 8, 8, 8, 8, 8, 8, 8, 8, 8, 8, 8, 8, 8, 8, 8, 8, 8, 8, 8, 8, 8, 8, 8, 8, 8, 8, 8, 8, 8, 8, 8, 8, 8, 8, 8, 8, 8, 8, 8, 8, 8, 8, 8, 8, 8, 8, 8, 8, 8, 8, 8, 8, 8, 8, 8, 8, 8, 8, 8, 8, 8, 8, 8, 8, 8, 8, 8, 8, 8, 8, 8, 8, 8, 8, 8, 8, 8, 8, 8, 8, 8, 8, 8, 8, 8, 8, 8, 8, 8, 8, 8, 8, 8, 8, 8, 8, 8, 8, 8, 8, 8, 8, 8, 8, 8, 8, 8, 8, 8, 8, 8, 8, 8, 8, 8, 8]⟩ : ByteArray) ((x0 / 65536) % 256)))))) else (none)) else (none))) else (if x0 ≥ 256 then (if 0 ≤ ((x0 / 256) % 256) then (if ((x0 / 256) % 256) < 256 then (some (wrap64 ((wrap64 (x2 + 8)) + (wrap64 (bt (⟨#[0, 1, 2, 2, 3, 3, 3, 3, 4, 4, 4, 4, 4, 4, 4, 4, 5, 5, 5, 5, 5, 5, 5, 5, 5, 5, 5, 5, 5, 5, 5, 5, 6, 6, 6, 6, 6, 6, 6, 6, 6, 6, 6, 6, 6, 6, 6, 6, 6, 6, 6, 6, 6, 6, 6, 6, 6, 6, 6, 6, 6, 6, 6, 6, 7, 7, 7, 7, 7, 7, 7, 7, 7, 7, 7, 7, 7, 7, 7, 7, 7, 7, 7, 7, 7, 7, 7, 7, 7, 7, 7, 7, 7, 7, 7, 7, 7, 7, 7, 7, 7, 7, 7, 7, 7, 7, 7, 7, 7, 7, 7, 7, 7, 7, 7, 7, 7, 7, 7, 7, 7, 7, 7, 7, 7, 7, 7, 7, 8, 8, 8, 8, 8, 8, 8, 8, 8, 8, 8, 8, 8, 8, 8, 8, 8, 8, 8, 8, 8, 8, 8, 8, 8, 8, 8, 8, 8, 8, 8, 8, 8, 8, 8, 8, 8, 8, 8, 8, 8, 8, 8, 8, 8, 8, 8, 8, 8, 8, 8, 8, 8, 8, 8, 8, 8, 8, 8, 8, 8, 8, 8, 8, 8, 8, 8, 8, 8, 8, 8, 8, 8, 8, 8, 8, 8, 8, 8, 8, 8, 8, 8, 8, 8, 8, 8, 8, 8, 8, 8, 8, 8, 8, 8, 8, 8, 8, 8, 8, 8, 8, 8, 8, 8, 8, 8, 8, 8, 8, 8, 8, 8, 8, 8, 8, 8, 8, 8, 8, 8, 8, 8, 8, 8, 8, 8, 8]⟩ : ByteArray) ((x0 / 256) % 256)))))) else (none)) else (none)) else (if 0 ≤ ((x0) % 256) then (if ((x0) % 256) < 256 then (some (wrap64 (x2 + (wrap64 (bt (⟨#[0, 1, 2, 2, 3, 3, 3, 3, 4, 4, 4, 4, 4, 4, 4, 4, 5, 5, 5, 5, 5, 5, 5, 5, 5, 5, 5, 5, 5, 5, 5, 5, 6, 6, 6, 6, 6, 6, 6, 6, 6, 6, 6, 6, 6, 6, 6, 6, 6, 6, 6, 6, 6, 6, 6, 6, 6, 6, 6, 6, 6, 6, 6, 6, 7, 7, 7, 7, 7, 7, 7, 7, 7, 7, 7, 7, 7, 7, 7, 7, 7, 7, 7, 7, 7, 7, 7, 7, 7, 7, 7, 7, 7, 7, 7, 7, 7, 7, 7, 7, 7, 7, 7, 7, 7, 7, 7, 7, 7, 7, 7, 7, 7, 7, 7, 7, 7, 7, 7, 7, 7, 7, 7, 7, 7, 7, 7, 7, 8, 8, 8, 8, 8, 8, 8, 8, 8, 8, 8, 8, 8, 8, 8, 8, 8, 8, 8, 8, 8, 8, 8, 8, 8, 8, 8, 8, 8, 8, 8, 8, 8, 8, 8, 8, 8, 8, 8, 8, 8, 8, 8, 8, 8, 8, 8, 8, 8, 8, 8, 8, 8, 8, 8, 8, 8, 8, 8, 8, 8, 8, 8, 8, 8, 8, 8, 8, 8, 8, 8, 8, 8, 8, 8, 8, 8, 8, 8, 8, 8, 8, 8, 8, 8, 8, 8, 8, 8, 8, 8, 8, 8, 8, 8, 8, 8, 8, 8, 8, 8, 8, 8, 8, 8, 8, 8, 8, 8, 8, 8, 8, 8, 8, 8, 8, 8, 8, 8, 8, 8, 8, 8, 8, 8, 8, 8, 8]⟩ : ByteArray) ((x0) % 256)))))) else (none)) else (none)))
def bits_Len64.f (k : Nat) (a0 : Int) : Option (Int) := if a0 ≥ 4294967296 then (bits_Len64.j0 k (a0 / 4294967296) 32) else (bits_Len64.j0 k a0 0)
theorem bits_Len64.mono_l : ∀ k, (∀ y0 y1, LeO (bits_Len64.j0 k y0 y1) (bits_Len64.j0 (k + 1) y0 y1))
 | 0 => fun _ _ r h => by simp [bits_Len64.j0] at h
 | k + 1 => by
  have ih0 := bits_Len64.mono_l k;intro y0 y1
  unfold bits_Len64.j0
  repeat' first
  | (with_reducible exact ih0 _ _)
  | (with_reducible exact LeO.refl _)
  | (with_reducible exact LeO.none _)
  | (with_reducible refine LeO.ite ?_ ?_)
  | (with_reducible refine LeO.bind ?_ (fun _ => ?_))
  | exact ih0 _ _
  | exact LeO.none _
  | refine LeO.ite ?_ ?_
  | refine LeO.bind ?_ (fun _ => ?_)
theorem bits_Len64.mono : ∀ a0 k, LeO (bits_Len64.f k a0) (bits_Len64.f (k + 1) a0) := by
 intro a0 k;have ih0 := bits_Len64.mono_l k
 unfold bits_Len64.f
 repeat' first
   | (with_reducible exact ih0 _ _)
   | (with_reducible exact LeO.refl _)
   | (with_reducible exact LeO.none _)
   | (with_reducible refine LeO.ite ?_ ?_)
   | (with_reducible refine LeO.bind ?_ (fun _ => ?_))
   | exact ih0 _ _
   | exact LeO.none _
   | refine LeO.ite ?_ ?_
   | refine LeO.bind ?_ (fun _ => ?_)
set_option maxHeartbeats 8000000 in
set_option maxRecDepth 100000 in
theorem bits_Len64.calls (k : Nat) (a0 : Int) (r : Int) (w : World) (h : bits_Len64.f k a0 = some r) :
  Calls Tryd.prog 88 #[.int .u64 a0] w fun e w' => e = .returned (.int .i64 r) ∧ Drawn0 w w' := by
 have H : (if a0 ≥ 4294967296 then (bits_Len64.j0 k (a0 / 4294967296) 32) else (bits_Len64.j0 k a0 0)) = some r := h;clear h;have ab := zA H;clear H;go_enter Tryd.func88, Tryd.ntmps88
 go_upto_if 4 with (fail)
 go_cut [0, 2] (fun v0 v2 wc => ∃ (kq : Nat) (a1 : Int) (a2 : Int), v0 = .int .u64 a1 ∧ v2 = .int .i64 a2 ∧ Aside0 (bits_Len64.j0 kq a1 a2 = some r) ∧ Aside0 (kq ≤ k) ∧ Drawn0 w wc)
 case first =>
  have H := ab.out;clear ab
  by_cases c3 : a0 ≥ 4294967296
  ·rw [if_pos c3] at H;have a3 := decide_eq_true c3;clear c3
   (first | rw [a3] | (simp only [i64_w, i32_w]; rw [a3]) | skip)
   have H' := zA H;clear H
   go_wp2
   go_meet
   case rel => exact ⟨_, (a0 / 4294967296), (32), zi, zi, H', ⟨by first | omega | exact Nat.le_refl _⟩, by repeat (first | exact Drawn0.refl _ | apply Drawn0.step)⟩
  rw [if_neg c3] at H;have a3 := decide_eq_false c3;clear c3
  (first | rw [a3] | (simp only [i64_w, i32_w]; rw [a3]) | skip)
  have H' := zA H;clear H
  go_wp2
  go_meet
  case rel => exact ⟨_, (a0), (0), zi, zi, H', ⟨by first | omega | exact Nat.le_refl _⟩, by repeat (first | exact Drawn0.refl _ | apply Drawn0.step)⟩
 case rest =>
  clear ab
  try clear c3
  try clear a3
  obtain ⟨kq, a1, a2, rfl, rfl, HA, ao, ⟨mc1, rfl⟩⟩ := hcut
  cases kq with
  | zero => exact absurd HA.out (by simp [bits_Len64.j0])
  | succ ap =>
   have H := HA.out;clear HA;simp only [bits_Len64.j0] at H
   by_cases c4 : a1 ≥ 65536
   ·rw [if_pos c4] at H;have ae := decide_eq_true c4;clear c4
    by_cases c5 : (a1 / 65536) ≥ 256
    ·rw [if_pos c5] at H;have af := decide_eq_true c5;clear c5;obtain ⟨a7, ac⟩ : ∃ j_ : Int, (((a1 / 65536) / 256) % 256) = j_ := ⟨_, rfl⟩;replace H : (if 0 ≤ (a7) then (if (a7) < 256 then (some (wrap64 ((wrap64 ((wrap64 (a2 + 16)) + 8)) + (wrap64 (bt (⟨#[0, 1, 2, 2, 3, 3, 3, 3, 4, 4, 4, 4, 4, 4, 4, 4, 5, 5, 5, 5, 5, 5, 5, 5, 5, 5, 5, 5, 5, 5, 5, 5, 6, 6, 6, 6, 6, 6, 6, 6, 6, 6, 6, 6, 6, 6, 6, 6, 6, 6, 6, 6, 6, 6, 6, 6, 6, 6, 6, 6, 6, 6, 6, 6, 7, 7, 7, 7, 7, 7, 7, 7, 7, 7, 7, 7, 7, 7, 7, 7, 7, 7, 7, 7, 7, 7, 7, 7, 7, 7, 7, 7, 7, 7, 7, 7, 7, 7, 7, 7, 7, 7, 7, 7, 7, 7, 7, 7, 7, 7, 7, 7, 7, 7, 7, 7, 7, 7, 7, 7, 7, 7, 7, 7, 7, 7, 7, 7, 8, 8, 8, 8, 8, 8, 8, 8, 8, 8, 8, 8, 8, 8, 8, 8, 8, 8, 8, 8, 8, 8, 8, 8, 8, 8, 8, 8, 8, 8, 8, 8, 8, 8, 8, 8, 8, 8, 8, 8, 8, 8, 8, 8, 8, 8, 8, 8, 8, 8, 8, 8, 8, 8, 8, 8, 8, 8, 8, 8, 8, 8, 8, 8, 8, 8, 8, 8, 8, 8, 8, 8, 8, 8, 8, 8, 8, 8, 8, 8, 8, 8, 8, 8, 8, 8, 8, 8, 8, 8, 8, 8, 8, 8, 8, 8, 8, 8, 8, 8, 8, 8, 8, 8, 8, 8, 8, 8, 8, 8, 8, 8, 8, 8, 8, 8, 8, 8, 8, 8, 8, 8, 8, 8, 8, 8, 8, 8]⟩ : ByteArray) (a7)))))) else (none)) else (none)) = some r := zQ ac H;replace H := dn H;obtain ⟨c7, H⟩ := H;have am := decide_eq_true c7;clear c7;replace H := dn H;obtain ⟨c8, H⟩ := H;have an := decide_eq_true c8;clear c8;obtain rfl := Option.some.inj H;have p9 : 0 ≤ ((a7) : Int) := od;have q9 : (a7) < (256 : Int) := od;have hx9 := bt_at (⟨#[0, 1, 2, 2, 3, 3, 3, 3, 4, 4, 4, 4, 4, 4, 4, 4, 5, 5, 5, 5, 5, 5, 5, 5, 5, 5, 5, 5, 5, 5, 5, 5, 6, 6, 6, 6, 6, 6, 6, 6, 6, 6, 6, 6, 6, 6, 6, 6, 6, 6, 6, 6, 6, 6, 6, 6, 6, 6, 6, 6, 6, 6, 6, 6, 7, 7, 7, 7, 7, 7, 7, 7, 7, 7, 7, 7, 7, 7, 7, 7, 7, 7, 7, 7, 7, 7, 7, 7, 7, 7, 7, 7, 7, 7, 7, 7, 7, 7, 7, 7, 7, 7, 7, 7, 7, 7, 7, 7, 7, 7, 7, 7, 7, 7, 7, 7, 7, 7, 7, 7, 7, 7, 7, 7, 7, 7, 7, 7, 8, 8, 8, 8, 8, 8, 8, 8, 8, 8, 8, 8, 8, 8, 8, 8, 8, 8, 8, 8, 8, 8, 8, 8, 8, 8, 8, 8, 8, 8, 8, 8, 8, 8, 8, 8, 8, 8, 8, 8, 8, 8, 8, 8, 8, 8, 8, 8, 8, 8, 8, 8, 8, 8, 8, 8, 8, 8, 8, 8, 8, 8, 8, 8, 8, 8, 8, 8, 8, 8, 8, 8, 8, 8, 8, 8, 8, 8, 8, 8, 8, 8, 8, 8, 8, 8, 8, 8, 8, 8, 8, 8, 8, 8, 8, 8, 8, 8, 8, 8, 8, 8, 8, 8, 8, 8, 8, 8, 8, 8, 8, 8, 8, 8, 8, 8, 8, 8, 8, 8, 8, 8, 8, 8, 8, 8, 8, 8]⟩ : ByteArray) (a7);replace p9 := eq_true p9;replace q9 := eq_true q9
     go_wp2
     go_ret;exact ⟨by first | rfl | (simp; done) | (simp only [← ac] <;> (first | rfl | simp)) | (simp [*]; done), by repeat (first | exact Drawn0.refl _ | apply Drawn0.step)⟩
    rw [if_neg c5] at H;have af := decide_eq_false c5;clear c5;obtain ⟨a4, a8⟩ : ∃ j_ : Int, ((a1 / 65536) % 256) = j_ := ⟨_, rfl⟩;replace H : (if 0 ≤ (a4) then (if (a4) < 256 then (some (wrap64 ((wrap64 (a2 + 16)) + (wrap64 (bt (⟨#[0, 1, 2, 2, 3, 3, 3, 3, 4, 4, 4, 4, 4, 4, 4, 4, 5, 5, 5, 5, 5, 5, 5, 5, 5, 5, 5, 5, 5, 5, 5, 5, 6, 6, 6, 6, 6, 6, 6, 6, 6, 6, 6, 6, 6, 6, 6, 6, 6, 6, 6, 6, 6, 6, 6, 6, 6, 6, 6, 6, 6, 6, 6, 6, 7, 7, 7, 7, 7, 7, 7, 7, 7, 7, 7, 7, 7, 7, 7, 7, 7, 7, 7, 7, 7, 7, 7, 7, 7, 7, 7, 7, 7, 7, 7, 7, 7, 7, 7, 7, 7, 7, 7, 7, 7, 7, 7, 7, 7, 7, 7, 7, 7, 7, 7, 7, 7, 7, 7, 7, 7, 7, 7, 7, 7, 7, 7, 7, 8, 8, 8, 8, 8, 8, 8, 8, 8, 8, 8, 8, 8, 8, 8, 8, 8, 8, 8, 8, 8, 8, 8, 8, 8, 8, 8, 8, 8, 8, 8, 8, 8, 8, 8, 8, 8, 8, 8, 8, 8, 8, 8, 8, 8, 8, 8, 8, 8, 8, 8, 8, 8, 8, 8, 8, 8, 8, 8, 8, 8, 8, 8, 8, 8, 8, 8, 8, 8, 8, 8, 8, 8, 8, 8, 8, 8, 8, 8, 8, 8, 8, 8, 8, 8, 8, 8, 8, 8, 8, 8, 8, 8, 8, 8, 8, 8, 8, 8, 8, 8, 8, 8, 8, 8, 8, 8, 8, 8, 8, 8, 8, 8, 8, 8, 8, 8, 8, 8, 8, 8, 8, 8, 8, 8, 8, 8, 8]⟩ : ByteArray) (a4)))))) else (none)) else (none)) = some r := zQ a8 H;replace H := dn H;obtain ⟨c11, H⟩ := H;have ag := decide_eq_true c11;clear c11;replace H := dn H;obtain ⟨c12, H⟩ := H;have ah := decide_eq_true c12;clear c12;obtain rfl := Option.some.inj H;have p13 : 0 ≤ ((a4) : Int) := od;have q13 : (a4) < (256 : Int) := od;have hx13 := bt_at (⟨#[0, 1, 2, 2, 3, 3, 3, 3, 4, 4, 4, 4, 4, 4, 4, 4, 5, 5, 5, 5, 5, 5, 5, 5, 5, 5, 5, 5, 5, 5, 5, 5, 6, 6, 6, 6, 6, 6, 6, 6, 6, 6, 6, 6, 6, 6, 6, 6, 6, 6, 6, 6, 6, 6, 6, 6, 6, 6, 6, 6, 6, 6, 6, 6, 7, 7, 7, 7, 7, 7, 7, 7, 7, 7, 7, 7, 7, 7, 7, 7, 7, 7, 7, 7, 7, 7, 7, 7, 7, 7, 7, 7, 7, 7, 7, 7, 7, 7, 7, 7, 7, 7, 7, 7, 7, 7, 7, 7, 7, 7, 7, 7, 7, 7, 7, 7, 7, 7, 7, 7, 7, 7, 7, 7, 7, 7, 7, 7, 8, 8, 8, 8, 8, 8, 8, 8, 8, 8, 8, 8, 8, 8, 8, 8, 8, 8, 8, 8, 8, 8, 8, 8, 8, 8, 8, 8, 8, 8, 8, 8, 8, 8, 8, 8, 8, 8, 8, 8, 8, 8, 8, 8, 8, 8, 8, 8, 8, 8, 8, 8, 8, 8, 8, 8, 8, 8, 8, 8, 8, 8, 8, 8, 8, 8, 8, 8, 8, 8, 8, 8, 8, 8, 8, 8, 8, 8, 8, 8, 8, 8, 8, 8, 8, 8, 8, 8, 8, 8, 8, 8, 8, 8, 8, 8, 8, 8, 8, 8, 8, 8, 8, 8, 8, 8, 8, 8, 8, 8, 8, 8, 8, 8, 8, 8, 8, 8, 8, 8, 8, 8, 8, 8, 8, 8, 8, 8]⟩ : ByteArray) (a4);replace p13 := eq_true p13;replace q13 := eq_true q13
    go_wp2
    go_ret;exact ⟨by first | rfl | (simp; done) | (simp only [← a8] <;> (first | rfl | simp)) | (simp [*]; done), by repeat (first | exact Drawn0.refl _ | apply Drawn0.step)⟩
   rw [if_neg c4] at H;have ae := decide_eq_false c4;clear c4
   by_cases c14 : a1 ≥ 256
   ·rw [if_pos c14] at H;have ad := decide_eq_true c14;clear c14;obtain ⟨a5, a9⟩ : ∃ j_ : Int, ((a1 / 256) % 256) = j_ := ⟨_, rfl⟩;replace H : (if 0 ≤ (a5) then (if (a5) < 256 then (some (wrap64 ((wrap64 (a2 + 8)) + (wrap64 (bt (⟨#[0, 1, 2, 2, 3, 3, 3, 3, 4, 4, 4, 4, 4, 4, 4, 4, 5, 5, 5, 5, 5, 5, 5, 5, 5, 5, 5, 5, 5, 5, 5, 5, 6, 6, 6, 6, 6, 6, 6, 6, 6, 6, 6, 6, 6, 6, 6, 6, 6, 6, 6, 6, 6, 6, 6, 6, 6, 6, 6, 6, 6, 6, 6, 6, 7, 7, 7, 7, 7, 7, 7, 7, 7, 7, 7, 7, 7, 7, 7, 7, 7, 7, 7, 7, 7, 7, 7, 7, 7, 7, 7, 7, 7, 7, 7, 7, 7, 7, 7, 7, 7, 7, 7, 7, 7, 7, 7, 7, 7, 7, 7, 7, 7, 7, 7, 7, 7, 7, 7, 7, 7, 7, 7, 7, 7, 7, 7, 7, 8, 8, 8, 8, 8, 8, 8, 8, 8, 8, 8, 8, 8, 8, 8, 8, 8, 8, 8, 8, 8, 8, 8, 8, 8, 8, 8, 8, 8, 8, 8, 8, 8, 8, 8, 8, 8, 8, 8, 8, 8, 8, 8, 8, 8, 8, 8, 8, 8, 8, 8, 8, 8, 8, 8, 8, 8, 8, 8, 8, 8, 8, 8, 8, 8, 8, 8, 8, 8, 8, 8, 8, 8, 8, 8, 8, 8, 8, 8, 8, 8, 8, 8, 8, 8, 8, 8, 8, 8, 8, 8, 8, 8, 8, 8, 8, 8, 8, 8, 8, 8, 8, 8, 8, 8, 8, 8, 8, 8, 8, 8, 8, 8, 8, 8, 8, 8, 8, 8, 8, 8, 8, 8, 8, 8, 8, 8, 8]⟩ : ByteArray) (a5)))))) else (none)) else (none)) = some r := zQ a9 H;replace H := dn H;obtain ⟨c16, H⟩ := H;have ai := decide_eq_true c16;clear c16;replace H := dn H;obtain ⟨c17, H⟩ := H;have aj := decide_eq_true c17;clear c17;obtain rfl := Option.some.inj H;have p18 : 0 ≤ ((a5) : Int) := od;have q18 : (a5) < (256 : Int) := od;have hx18 := bt_at (⟨#[0, 1, 2, 2, 3, 3, 3, 3, 4, 4, 4, 4, 4, 4, 4, 4, 5, 5, 5, 5, 5, 5, 5, 5, 5, 5, 5, 5, 5, 5, 5, 5, 6, 6, 6, 6, 6, 6, 6, 6, 6, 6, 6, 6, 6, 6, 6, 6, 6, 6, 6, 6, 6, 6, 6, 6, 6, 6, 6, 6, 6, 6, 6, 6, 7, 7, 7, 7, 7, 7, 7, 7, 7, 7, 7, 7, 7, 7, 7, 7, 7, 7, 7, 7, 7, 7, 7, 7, 7, 7, 7, 7, 7, 7, 7, 7, 7, 7, 7, 7, 7, 7, 7, 7, 7, 7, 7, 7, 7, 7, 7, 7, 7, 7, 7, 7, 7, 7, 7, 7, 7, 7, 7, 7, 7, 7, 7, 7, 8, 8, 8, 8, 8, 8, 8, 8, 8, 8, 8, 8, 8, 8, 8, 8, 8, 8, 8, 8, 8, 8, 8, 8, 8, 8, 8, 8, 8, 8, 8, 8, 8, 8, 8, 8, 8, 8, 8, 8, 8, 8, 8, 8, 8, 8, 8, 8, 8, 8, 8, 8, 8, 8, 8, 8, 8, 8, 8, 8, 8, 8, 8, 8, 8, 8, 8, 8, 8, 8, 8, 8, 8, 8, 8, 8, 8, 8, 8, 8, 8, 8, 8, 8, 8, 8, 8, 8, 8, 8, 8, 8, 8, 8, 8, 8, 8, 8, 8, 8, 8, 8, 8, 8, 8, 8, 8, 8, 8, 8, 8, 8, 8, 8, 8, 8, 8, 8, 8, 8, 8, 8, 8, 8, 8, 8, 8, 8]⟩ : ByteArray) (a5);replace p18 := eq_true p18;replace q18 := eq_true q18
    go_wp2
    go_ret;exact ⟨by first | rfl | (simp; done) | (simp only [← a9] <;> (first | rfl | simp)) | (simp [*]; done), by repeat (first | exact Drawn0.refl _ | apply Drawn0.step)⟩
   rw [if_neg c14] at H;have ad := decide_eq_false c14;clear c14;obtain ⟨a6, aa⟩ : ∃ j_ : Int, ((a1) % 256) = j_ := ⟨_, rfl⟩;replace H : (if 0 ≤ (a6) then (if (a6) < 256 then (some (wrap64 (a2 + (wrap64 (bt (⟨#[0, 1, 2, 2, 3, 3, 3, 3, 4, 4, 4, 4, 4, 4, 4, 4, 5, 5, 5, 5, 5, 5, 5, 5, 5, 5, 5, 5, 5, 5, 5, 5, 6, 6, 6, 6, 6, 6, 6, 6, 6, 6, 6, 6, 6, 6, 6, 6, 6, 6, 6, 6, 6, 6, 6, 6, 6, 6, 6, 6, 6, 6, 6, 6, 7, 7, 7, 7, 7, 7, 7, 7, 7, 7, 7, 7, 7, 7, 7, 7, 7, 7, 7, 7, 7, 7, 7, 7, 7, 7, 7, 7, 7, 7, 7, 7, 7, 7, 7, 7, 7, 7, 7, 7, 7, 7, 7, 7, 7, 7, 7, 7, 7, 7, 7, 7, 7, 7, 7, 7, 7, 7, 7, 7, 7, 7, 7, 7, 8, 8, 8, 8, 8, 8, 8, 8, 8, 8, 8, 8, 8, 8, 8, 8, 8, 8, 8, 8, 8, 8, 8, 8, 8, 8, 8, 8, 8, 8, 8, 8, 8, 8, 8, 8, 8, 8, 8, 8, 8, 8, 8, 8, 8, 8, 8, 8, 8, 8, 8, 8, 8, 8, 8, 8, 8, 8, 8, 8, 8, 8, 8, 8, 8, 8, 8, 8, 8, 8, 8, 8, 8, 8, 8, 8, 8, 8, 8, 8, 8, 8, 8, 8, 8, 8, 8, 8, 8, 8, 8, 8, 8, 8, 8, 8, 8, 8, 8, 8, 8, 8, 8, 8, 8, 8, 8, 8, 8, 8, 8, 8, 8, 8, 8, 8, 8, 8, 8, 8, 8, 8, 8, 8, 8, 8, 8, 8]⟩ : ByteArray) (a6)))))) else (none)) else (none)) = some r := zQ aa H;replace H := dn H;obtain ⟨c20, H⟩ := H;have ak := decide_eq_true c20;clear c20;replace H := dn H;obtain ⟨c21, H⟩ := H;have al := decide_eq_true c21;clear c21;obtain rfl := Option.some.inj H;have p22 : 0 ≤ ((a6) : Int) := od;have q22 : (a6) < (256 : Int) := od;have hx22 := bt_at (⟨#[0, 1, 2, 2, 3, 3, 3, 3, 4, 4, 4, 4, 4, 4, 4, 4, 5, 5, 5, 5, 5, 5, 5, 5, 5, 5, 5, 5, 5, 5, 5, 5, 6, 6, 6, 6, 6, 6, 6, 6, 6, 6, 6, 6, 6, 6, 6, 6, 6, 6, 6, 6, 6, 6, 6, 6, 6, 6, 6, 6, 6, 6, 6, 6, 7, 7, 7, 7, 7, 7, 7, 7, 7, 7, 7, 7, 7, 7, 7, 7, 7, 7, 7, 7, 7, 7, 7, 7, 7, 7, 7, 7, 7, 7, 7, 7, 7, 7, 7, 7, 7, 7, 7, 7, 7, 7, 7, 7, 7, 7, 7, 7, 7, 7, 7, 7, 7, 7, 7, 7, 7, 7, 7, 7, 7, 7, 7, 7, 8, 8, 8, 8, 8, 8, 8, 8, 8, 8, 8, 8, 8, 8, 8, 8, 8, 8, 8, 8, 8, 8, 8, 8, 8, 8, 8, 8, 8, 8, 8, 8, 8, 8, 8, 8, 8, 8, 8, 8, 8, 8, 8, 8, 8, 8, 8, 8, 8, 8, 8, 8, 8, 8, 8, 8, 8, 8, 8, 8, 8, 8, 8, 8, 8, 8, 8, 8, 8, 8, 8, 8, 8, 8, 8, 8, 8, 8, 8, 8, 8, 8, 8, 8, 8, 8, 8, 8, 8, 8, 8, 8, 8, 8, 8, 8, 8, 8, 8, 8, 8, 8, 8, 8, 8, 8, 8, 8, 8, 8, 8, 8, 8, 8, 8, 8, 8, 8, 8, 8, 8, 8, 8, 8, 8, 8, 8, 8]⟩ : ByteArray) (a6);replace p22 := eq_true p22;replace q22 := eq_true q22
   go_wp2
   go_ret;exact ⟨by first | rfl | (simp; done) | (simp only [← aa] <;> (first | rfl | simp)) | (simp [*]; done), by repeat (first | exact Drawn0.refl _ | apply Drawn0.step)⟩
def nat_number_len.f (k : Nat) (l0 : List Int) : Option (Int) := if (l0.length : Int) = 0 then (some 0) else (if 0 ≤ (wrap64 ((l0.length : Int) - 1)) then (if (wrap64 ((l0.length : Int) - 1)) < (l0.length : Int) then ((bits_Len64.f k (rd l0 (wrap64 ((l0.length : Int) - 1)))).bind fun a1 => (some (wrap64 ((wrap64 (64 * (wrap64 ((l0.length : Int) - 1)))) + a1)))) else (none)) else (none))
theorem nat_number_len.mono : ∀ a0 k, LeO (nat_number_len.f k a0) (nat_number_len.f (k + 1) a0) := by
 intro a0 k
 unfold nat_number_len.f
 repeat' first
   | (with_reducible exact bits_Len64.mono _ _)
   | (with_reducible exact LeO.refl _)
   | (with_reducible exact LeO.none _)
   | (with_reducible refine LeO.ite ?_ ?_)
   | (with_reducible refine LeO.bind ?_ (fun _ => ?_))
   | exact bits_Len64.mono _ _
   | exact LeO.none _
   | refine LeO.ite ?_ ?_
   | refine LeO.bind ?_ (fun _ => ?_)
set_option maxHeartbeats 8000000 in
set_option maxRecDepth 100000 in
theorem nat_number_len.calls (k : Nat) (A0 : Option Addr) (c0 : Nat) (l0 : List Int) (r : Int) (w : World) (hr0 : Kd.C (Kd.int .u64) w A0 l0.length l0) (hc0 : l0.length ≤ c0) (h : nat_number_len.f k l0 = some r) :
  Calls Tryd.prog 121 #[.slice A0 l0.length c0] w fun e w' => e = .returned (.int .i64 r) ∧ Drawn0 w w' := by
 have a7 := zA hr0;have ab := zA hc0;clear hr0 hc0;have H : (if (l0.length : Int) = 0 then (some 0) else (if 0 ≤ (wrap64 ((l0.length : Int) - 1)) then (if (wrap64 ((l0.length : Int) - 1)) < (l0.length : Int) then ((bits_Len64.f k (rd l0 (wrap64 ((l0.length : Int) - 1)))).bind fun a2 => (some (wrap64 ((wrap64 (64 * (wrap64 ((l0.length : Int) - 1)))) + a2)))) else (none)) else (none))) = some r := h;clear h
 by_cases c2 : (l0.length : Int) = 0
 ·rw [if_pos c2] at H;have a4 := beq_iff_eq.mpr c2;have a5 := bne_eq_false_iff_eq.mpr c2;clear c2;obtain rfl := Option.some.inj H;go_enter Tryd.func121, Tryd.ntmps121
  go_wp2
  go_ret;exact ⟨by first | rfl | (simp; done) | (simp [*]; done), by repeat (first | exact Drawn0.refl _ | apply Drawn0.step)⟩
 rw [if_neg c2] at H;have a4 := beq_eq_false_iff_ne.mpr c2;have a5 := bne_iff_ne.mpr c2
 have a8 : ¬ (l0 = []) := fun h_ => c2 (by rw [h_]; rfl)
 obtain ⟨a1, a3⟩ : ∃ j_ : Int, (wrap64 ((l0.length : Int) - 1)) = j_ := ⟨_, rfl⟩;replace H : (if 0 ≤ (a1) then (if (a1) < (l0.length : Int) then ((bits_Len64.f k (rd l0 (a1))).bind fun a2 => (some (wrap64 ((wrap64 (64 * (a1))) + a2)))) else (none)) else (none)) = some r := zQ a3 H;have hji3w : (IntKind.i64.wrap ((l0.length : Int) - 1)) = a1 := (i64_w _).trans a3;replace H := dn H;obtain ⟨c4, H⟩ := H;have a9 := decide_eq_true c4;clear c4;replace H := dn H;obtain ⟨c5, H⟩ := H;have aa := decide_eq_true c5;clear c5;obtain ⟨a2, A6, H⟩ := zh H;obtain rfl := Option.some.inj H;have p147 : 0 ≤ ((a1) : Int) := od;have q147 : (a1) < (l0.length : Int) := od;obtain ⟨ad147, e147, a6⟩ := Kd.at_int a7.out (a1) p147 q147;cases e147;replace p147 := eq_true p147;replace q147 := eq_true q147;go_enter Tryd.func121, Tryd.ntmps121
 go_wp2_with (first | ((with_reducible refine zG 88 rfl ?_); refine goesL_ (some 16) rfl rfl Tryd.func88 (by kernel_rfl) rfl #[.int .u64 (rd l0 (a1))] rfl (by (try simp only [List.map_toArray, List.map_cons, List.map_nil]); first | done | (simp only [a3]; rfl) | rfl | (simp only [List.length_drop, List.length_take]; rfl)) ?_; (with_reducible refine (bits_Len64.calls k (rd l0 (a1)) a2 _ A6.out).mono ?_); rintro e w' ⟨rfl, ⟨nd, rfl⟩⟩; refine ⟨_, rfl, ?_⟩))
 go_ret;exact ⟨by first | rfl | (simp; done) | (simp only [← a3] <;> (first | rfl | simp)) | (simp [*]; done), by repeat (first | exact Drawn0.refl _ | apply Drawn0.step)⟩
def nat_Len.f (k : Nat) (l0 : List Int) : Option (Int × Int) := (nat_one.f k l0).bind fun a1 => ((nat_number_len.f k a1.1).bind fun a2 => (some (a2, a1.2)))
theorem nat_Len.mono : ∀ a0 k, LeO (nat_Len.f k a0) (nat_Len.f (k + 1) a0) := by
 intro a0 k
 unfold nat_Len.f
 repeat' first
   | (with_reducible exact nat_number_len.mono _ _)
   | (with_reducible exact nat_one.mono _ _)
   | (with_reducible exact LeO.refl _)
   | (with_reducible exact LeO.none _)
   | (with_reducible refine LeO.ite ?_ ?_)
   | (with_reducible refine LeO.bind ?_ (fun _ => ?_))
   | exact nat_number_len.mono _ _
   | exact nat_one.mono _ _
   | exact LeO.none _
   | refine LeO.ite ?_ ?_
   | refine LeO.bind ?_ (fun _ => ?_)
set_option maxHeartbeats 8000000 in
set_option maxRecDepth 100000 in
theorem nat_Len.calls (k : Nat) (A0 : Option Addr) (c0 : Nat) (l0 : List Int) (r1 : Int) (r2 : Int) (w : World) (hr0 : Kd.C (Kd.int .u64) w A0 l0.length l0) (hc0 : l0.length ≤ c0) (h : nat_Len.f k l0 = some (r1, r2)) :
  Calls Tryd.prog 104 #[.slice A0 l0.length c0] w fun e w' => e = .returned (.tuple #[.int .i64 r1, .int .i64 r2]) ∧ Below w.heap.size w w' := by
 have a9 := zA hr0;have aa := zA hc0;clear hr0 hc0;have HB := zA (Below.refl w.heap.size w);have H : ((nat_one.f k l0).bind fun a5 => ((nat_number_len.f k a5.1).bind fun a3 => (some (a3, a5.2)))) = some (r1, r2) := h;clear h;obtain ⟨⟨a4, a8⟩, A2, H⟩ := zh H;(try dsimp only at H);obtain ⟨a3, A3, H⟩ := zh H;simp only [Option.some.injEq, Prod.mk.injEq] at H;obtain ⟨rfl, rfl⟩ := H;go_enter Tryd.func104, Tryd.ntmps104
 go_wp2_with (first | ((with_reducible refine zG 103 rfl ?_); refine zL (some 8) rfl rfl Tryd.func103 #[.slice A0 l0.length c0] rfl ?_; (with_reducible refine (nat_one.calls k (fun k_ => k_ < w.heap.size) _ _ l0 a4 a8 _ ?a1 A2.out).mono ?_); (case a1 => exact V_mk aa.out (Kd.F_below (C_F (Kd.heap_int .u64) a9.out) bq)); rintro e w4 ⟨v150, rfl, a7, hb⟩; refine ⟨_, rfl, ?_⟩; have a2 := zA (V_lower (V_mono (ok' := fun k_ => True) a7 (fun k_ hk_ => trivial)) (below_size bq)); replace HB := ze hb; (try clear a7); obtain ⟨ab, ac, ad⟩ := V_slice a2.out; subst ad) | ((with_reducible refine zG 121 rfl ?_); refine zL (some 12) rfl rfl Tryd.func121 #[.slice ab a4.length ac] rfl ?_; (with_reducible refine (nat_number_len.calls k _ _ a4 a3 _ ?a1 ?a6 A3.out).mono ?_); (case a1 => exact zk (V_reads' a2.out).2.2); (case a6 => exact (V_reads' a2.out).2.1); rintro e w' ⟨rfl, ⟨nd, rfl⟩⟩; refine ⟨_, rfl, ?_⟩))
 go_ret2
 exact ⟨er, bq⟩
def round_amount_top.f (k : Nat) (a2 : List Int) (a3 : Int) : Option (Int) := (nat_Len.f k a2).bind fun a1 => (some (wrap64 (a1.1 + a3)))
theorem round_amount_top.mono : ∀ a0 a1 k, LeO (round_amount_top.f k a0 a1) (round_amount_top.f (k + 1) a0 a1) := by
 intro a0 a1 k
 unfold round_amount_top.f
 repeat' first
   | (with_reducible exact nat_Len.mono _ _)
   | (with_reducible exact LeO.refl _)
   | (with_reducible exact LeO.none _)
   | (with_reducible refine LeO.ite ?_ ?_)
   | (with_reducible refine LeO.bind ?_ (fun _ => ?_))
   | exact nat_Len.mono _ _
   | exact LeO.none _
   | refine LeO.ite ?_ ?_
   | refine LeO.bind ?_ (fun _ => ?_)
set_option maxHeartbeats 8000000 in
set_option maxRecDepth 100000 in
theorem round_amount_top.calls (k : Nat) (a3 : Option Addr) (a4 : Nat) (a2 : List Int) (a5 : Int) (r : Int) (w : World) (a7 : Kd.C (Kd.int .u64) w a3 a2.length a2) (a8 : a2.length ≤ a4) (h : round_amount_top.f k a2 a5 = some r) :
  Calls Tryd.prog 76 #[.agg #[.slice a3 a2.length a4, .int .i64 a5]] w fun e w' => e = .returned (.int .i64 r) ∧ Below w.heap.size w w' := by
 have hu64 := Tryd.underlying64;have a9 := zA a7;have aa := zA a8;clear a7 a8;have HB := zA (Below.refl w.heap.size w);have H : ((nat_Len.f k a2).bind fun ab => (some (wrap64 (ab.1 + a5)))) = some r := h;clear h;obtain ⟨⟨ae, af⟩, A2, H⟩ := zh H;(try dsimp only at H);obtain rfl := Option.some.inj H;go_enter Tryd.func76, Tryd.ntmps76
 go_wp2_with (first | ((with_reducible refine zD 1 rfl ?_); refine zn (N := 1) (cs := #[.slice a3 a2.length a4, .int .i64 a5]) (t := 64) rfl rfl ?_; intro a6 hg w3 hbox hb; have a1 := zA (hbox); have ao := zw hg; replace HB := ze hb; clear hb hbox hg; have ag : w3.cell? ⟨a6, 0, none⟩ = some (.slice a3 a2.length a4) := (blk_cell a1.out 0).trans rfl; have ah : w3.cell? ⟨a6, 1, none⟩ = some (.int .i64 a5) := (blk_cell a1.out 1).trans rfl; have ai := blk_frozen a1.out 0; have aj := blk_frozen a1.out 1) | ((with_reducible refine zG 104 rfl ?_); refine zL (some 8) rfl rfl Tryd.func104 #[.slice a3 a2.length a4] rfl ?_; (with_reducible refine (nat_Len.calls k _ _ a2 ae af _ ?ac ?ad A2.out).mono ?_); (case ac => exact zk (C_below a9.out HB.out)); (case ad => exact aa.out); rintro e w5 ⟨rfl, hb⟩; refine ⟨_, rfl, ?_⟩; replace a1 := zb a1 hb; replace HB := zf hb; have ak : w5.cell? ⟨a6, 0, none⟩ = some (.slice a3 a2.length a4) := (blk_cell a1.out 0).trans rfl; have al : w5.cell? ⟨a6, 1, none⟩ = some (.int .i64 a5) := (blk_cell a1.out 1).trans rfl; have am := blk_frozen a1.out 0; have an := blk_frozen a1.out 1))
 go_ret;exact ⟨er, zs⟩
def dyad_room.f (k : Nat) (a1 : Bool) (a2 : List Int) (a3 : Int) : Option (Bool × List Int × Int × Int) := (raw_Fits.f k a1 a2 a3).bind fun a4 => (if a4 = true then (some (a1, a2, a3, 0)) else (some (false, ([] : List Int), 0, 3)))
set_option maxHeartbeats 8000000 in
set_option maxRecDepth 100000 in
theorem dyad_room.calls (k : Nat) (a5 : Bool) (P0_1_ : Nat → Prop) (a8 : Option Addr) (a9 : Nat) (a3 : List Int) (a6 : Int) (r1 : Bool) (r2 : List Int) (r3 : Int) (r4 : Int) (w : World) (hs0_1 : Kd.V (Kd.int .u64) 26 w w.heap.size (fun k_ => P0_1_ k_) (.slice a8 a3.length a9) a3) (h : dyad_room.f k a5 a3 a6 = some (r1, r2, r3, r4)) :
  Calls Tryd.prog 82 #[.agg #[.bool a5, .slice a8 a3.length a9, .int .i64 a6]] w fun e w' => ∃ v1_ : Value, e = .returned (.tuple #[.agg #[.bool r1, v1_, .int .i64 r3], .int .i64 r4]) ∧ Kd.V (Kd.int .u64) 26 w' w.heap.size (fun k_ => (P0_1_ k_ ∨ w.heap.size ≤ k_)) v1_ r2 ∧ Below w.heap.size w w' := by
 have hu25 := Tryd.underlying25;have a1 := zA (show Kd.V (Kd.int .u64) 26 w w.heap.size (fun k_ => (P0_1_ k_ ∨ w.heap.size ≤ k_)) (.slice a8 a3.length a9) a3 from V_mono hs0_1 (fun k_ hk => .inl hk));have HB := zA (Below.refl w.heap.size w);have H : ((raw_Fits.f k a5 a3 a6).bind fun af => (if af = true then (some (a5, a3, a6, 0)) else (some (false, ([] : List Int), 0, 3)))) = some (r1, r2, r3, r4) := h;clear h;obtain ⟨af, A2, H⟩ := zh H
 by_cases c3 : af = true
 ·subst c3;rw [if_pos rfl] at H;simp only [Option.some.injEq, Prod.mk.injEq] at H;obtain ⟨rfl, rfl, rfl, rfl⟩ := H;go_enter Tryd.func82, Tryd.ntmps82
  go_wp2_with (first | ((with_reducible refine zD 1 rfl ?_); refine zn (N := 1) (cs := #[.bool a5, .slice a8 a3.length a9, .int .i64 a6]) (t := 25) rfl rfl ?_; intro ac hg w4 hbox hb; replace a1 := zA (V_below (V_elderB (vu a1.out) ac (Nat.le_of_eq hg.symm)) hb); have a2 := zA (hbox); have ag := zw hg; replace HB := ze hb; clear hb hbox hg) | ((with_reducible refine zD 2 rfl ?_); refine zn (N := 2) (cs := #[.bool false, .slice none 0 0, .int .i64 0]) (t := 25) rfl rfl ?_; intro a7 hg w5 hbox hb; replace a1 := zA (V_below (V_elderB (vu a1.out) a7 (Nat.le_of_eq hg.symm)) hb); have a4 := zA (hbox); have ah := zx hg; replace HB := zf hb; have aa := zl a2 hg; have ab := zg a2 hg; replace a2 := zb a2 hb; clear hb hbox hg; have aF := aa.out; have aG := ab.out; obtain ⟨_, _, _, _, _, _⟩ := zc a2) | ((with_reducible refine zG 63 rfl ?_); refine zL (some 5) rfl rfl Tryd.func63 #[.agg #[.bool a5, .slice a8 a3.length a9, .int .i64 a6]] rfl ?_; (with_reducible refine (raw_Fits.calls k a5 _ _ a3 a6 true _ ?ad ?ae A2.out).mono ?_); (case ad => exact zk (V_reads' a1.out).2.2); (case ae => exact (V_reads' a1.out).2.1); rintro e w8 ⟨rfl, hb⟩; refine ⟨_, rfl, ?_⟩; replace a1 := zA (V_below (vu a1.out) hb); replace a2 := zb a2 hb; replace a4 := zb a4 hb; replace HB := zf hb; obtain ⟨aw, ax, ay, aA, aB, aC⟩ := zc a2; obtain ⟨ai, aj, ak, al, am, an⟩ := zc a4))
  refine bodyPost_ret (results_ct rfl _ _ a7 25 #[.bool a5, .slice a8 a3.length a9, .int .i64 a6] (0, 0) _ rfl (zy a4) Tryd.underlying25 rfl (by kernel_rfl)) rfl ?_;exact ⟨_, er, vu (V_mono (zv a7 (V_mono a1.out (fun k_ hk => (⟨hk, hk.2⟩ : _ ∧ k_ ≠ a7))) (fun _ hk => hk.2) _ _ _) (fun _ hk => hk.1.1.1)), zs⟩
 replace c3 := Bool.eq_false_iff.mpr c3;subst c3;rw [if_neg (show ¬ (false = true) by decide)] at H;simp only [Option.some.injEq, Prod.mk.injEq] at H;obtain ⟨rfl, rfl, rfl, rfl⟩ := H;go_enter Tryd.func82, Tryd.ntmps82
 go_wp2_with (first | ((with_reducible refine zD 1 rfl ?_); refine zn (N := 1) (cs := #[.bool a5, .slice a8 a3.length a9, .int .i64 a6]) (t := 25) rfl rfl ?_; intro ac hg w11 hbox hb; replace a1 := zA (V_below (V_elderB (vu a1.out) ac (Nat.le_of_eq hg.symm)) hb); have a2 := zA (hbox); have ag := zw hg; replace HB := ze hb; clear hb hbox hg) | ((with_reducible refine zD 2 rfl ?_); refine zn (N := 2) (cs := #[.bool false, .slice none 0 0, .int .i64 0]) (t := 25) rfl rfl ?_; intro a7 hg w12 hbox hb; replace a1 := zA (V_below (V_elderB (vu a1.out) a7 (Nat.le_of_eq hg.symm)) hb); have a4 := zA (hbox); have ah := zx hg; replace HB := zf hb; have aa := zl a2 hg; have ab := zg a2 hg; replace a2 := zb a2 hb; clear hb hbox hg; have aD := aa.out; have aE := ab.out; obtain ⟨_, _, _, _, _, _⟩ := zc a2) | ((with_reducible refine zG 63 rfl ?_); refine zL (some 5) rfl rfl Tryd.func63 #[.agg #[.bool a5, .slice a8 a3.length a9, .int .i64 a6]] rfl ?_; (with_reducible refine (raw_Fits.calls k a5 _ _ a3 a6 false _ ?ad ?ae A2.out).mono ?_); (case ad => exact zk (V_reads' a1.out).2.2); (case ae => exact (V_reads' a1.out).2.1); rintro e w15 ⟨rfl, hb⟩; refine ⟨_, rfl, ?_⟩; replace a1 := zA (V_below (vu a1.out) hb); replace a2 := zb a2 hb; replace a4 := zb a4 hb; replace HB := zf hb; obtain ⟨ao, ap, aq, ar, au, av⟩ := zc a4))
 refine bodyPost_ret (results_ct rfl _ _ a7 25 #[.bool false, .slice none 0 0, .int .i64 0] (0, 0) _ rfl (zy a4) Tryd.underlying25 rfl (by kernel_rfl)) rfl ?_;exact ⟨_, er, V_nil _ _ _ _ _, zs⟩
section
variable {P : Program} {ops : Array Oper} {Q : Exit → Act → World → Prop}
/-- A call of a function value, as an arm of go_wp2_with. -/
theorem goesV_ {rest : List Oper} {oi : Oper} {a : Act} {w : World} (N : Option Tmp) (hd : oi.dst = N) (hg : oi.guard = none) {f : FuncId} {fn : Func} {op : Operand} {as_ : Array Operand} {ts : Array TypeId} (first cap : Array Value)
  (hop : oi.op = .call { callee := .value op, args := as_, argTypes := ts }) (hv : a.eval op = .func (.func f) first cap)
  (hf : P.funcs[f]? = some fn) (hname : (fn.name == "runtime.NumGoroutine") = false) (hb : fn.body.isSome = true) (args : Array Value)
  (hargs : first ++ as_.map a.eval ++ cap = args)
  (h : Calls P f args w fun e w' => ∃ v, e = .returned v ∧ wpList P ops Q rest (a.put N v) w') : wpList P ops Q (oi :: rest) a w := by
 refine wpList_plain hg fun K hK => ?_
 have he := enters_ hf hname hb args w
 have hrun : (execOp a.eval oi).run P w = .ok (.enter f args) w := by
  unfold execOp
  simp [hop, resolve, Deferred.ofValue, invoke, hv, ← hargs] at he ⊢
  exact he
 unfold Oper.wp
 rw [hrun, Oper.upon_enter]
 refine h.mono fun e w'' hh => ?_
 obtain ⟨v, rfl, hk⟩ := hh;subst hd;exact hK _ _ hk
end
/-- of's test: the number is not right. -/
theorem hand_of1 (k : Nat) (s : Bool) (A : Option Addr) (c : Nat) (l : List Int) (e : Int) (r : Bool) (w : World) (hr : Kd.C (Kd.int .u64) w A l.length l) (hc : l.length ≤ c) (h : dyad_number_right.f k s l e = some r) :
  Calls Tryd.prog 81 #[.agg #[.bool s, .slice A l.length c, .int .i64 e]] w fun x w' => x = .returned (.bool (!r)) ∧ Below w.heap.size w w' := by
 have hu64 := Tryd.underlying25;have HB := zA (Below.refl w.heap.size w);have HR := zA hr;have HC := zA hc;have HH := zA h;clear hr hc h;go_enter Tryd.func81, Tryd.ntmps81
 go_wp2_with (first
  | ((with_reducible refine zD 1 rfl ?_); refine zn (N := 1) (cs := #[.bool s, .slice A l.length c, .int .i64 e]) (t := 25) rfl rfl ?_; intro g hg w1 hbox hb; have n0 := zA (below_step HB.out hb); have n1 := zA hbox; have n2 := zA (C_below HR.out hb); clear HB hb hg HR; have HB := n0; have BK := n1; have HR := n2; clear n0 n1 n2; have hc0 := (blk_cell hbox 0).trans rfl; have hc1 := (blk_cell hbox 1).trans rfl; have hc2 := (blk_cell hbox 2).trans rfl; have hf0 := blk_frozen hbox 0; have hf1 := blk_frozen hbox 1; have hf2 := blk_frozen hbox 2; clear hbox)
  | ((with_reducible refine zG 53 rfl ?_); refine goesL_ (some 4) rfl rfl Tryd.func53 (by kernel_rfl) rfl #[.agg #[.bool s, .slice A l.length c, .int .i64 e]] rfl (by (try simp only [List.map_toArray, List.map_cons, List.map_nil]); first | done | rfl) ?_; refine (dyad_number_right.calls k s _ _ l e r _ HR.out HC.out HH.out).mono ?_; rintro e w5 ⟨rfl, hb⟩; refine ⟨_, rfl, ?_⟩; have n1 := zA (below_step HB.out hb); clear HB hb; have HB := n1; clear n1))
 go_ret;exact ⟨rfl, HB.out⟩
set_option maxRecDepth 100000 in
/-- slices.IndexFunc of two numbers. -/
theorem hand_index2 (k : Nat) (g : Nat) (s : Bool) (A : Option Addr) (c : Nat) (l : List Int) (e : Int) (s2 : Bool) (A2 : Option Addr) (c2 : Nat) (l2 : List Int) (e2 : Int) (r r2 : Bool) (w : World) (hb0 : w.heap[g]? = some (.cells #[.bool s, .slice A l.length c, .int .i64 e, .bool s2, .slice A2 l2.length c2, .int .i64 e2] 25 (0, 0))) (hr : Kd.C (Kd.int .u64) w A l.length l) (hc : l.length ≤ c) (hr2 : Kd.C (Kd.int .u64) w A2 l2.length l2) (hc2 : l2.length ≤ c2) (h : dyad_number_right.f k s l e = some r) (h2 : r = true → dyad_number_right.f k s2 l2 e2 = some r2) :
  Calls Tryd.prog 115 #[.slice (some ⟨g, 0, none⟩) 2 2, .func (.func 81) #[] #[]] w fun x w' => x = .returned (.int .i64 (if r then (if r2 then -1 else 1) else 0)) ∧ Below w.heap.size w w' := by
 have hu25 := Tryd.underlying25;have HB := zA (Below.refl w.heap.size w);have HR := zA hr;have HC := zA hc;have HH := zA h;have a1 := zA hr2;have a2 := zA hc2;have HH2 := zA h2;have BK := zA hb0;clear hr hc h hr2 hc2 h2 hb0;have hc0 := (blk_cell BK.out 0).trans rfl; have hf0 := blk_frozen BK.out 0; have hc1 := (blk_cell BK.out 1).trans rfl; have hf1 := blk_frozen BK.out 1; have hc2 := (blk_cell BK.out 2).trans rfl; have hf2 := blk_frozen BK.out 2; have hc3 := (blk_cell BK.out 3).trans rfl; have hf3 := blk_frozen BK.out 3; have hc4 := (blk_cell BK.out 4).trans rfl; have hf4 := blk_frozen BK.out 4; have hc5 := (blk_cell BK.out 5).trans rfl; have hf5 := blk_frozen BK.out 5;go_enter Tryd.func115, Tryd.ntmps115
 go_wp2
 refine wp_loop_rounds 3 ?_;rw [rounds_succ];cases r
 ·go_wp2_with (refine goesV_ (some 16) rfl rfl #[] #[] rfl rfl Tryd.func81 (by kernel_rfl) rfl #[.agg #[.bool s, .slice A l.length c, .int .i64 e]] (by (try simp only [List.map_toArray, List.map_cons, List.map_nil]); first | done | rfl) ?_; refine (hand_of1 k s _ _ l e _ _ (C_below HR.out HB.out) HC.out HH.out).mono ?_; rintro e w5 ⟨rfl, hb⟩; refine ⟨_, rfl, ?_⟩; have n0 := zA (blk_below BK.out hb); have n1 := zA (below_step HB.out hb); clear HB hb BK; have HB := n1; have BK := n0; clear n0 n1)
  go_ret;exact ⟨rfl, HB.out⟩
 go_wp2_with (refine goesV_ (some 16) rfl rfl #[] #[] rfl rfl Tryd.func81 (by kernel_rfl) rfl #[.agg #[.bool s, .slice A l.length c, .int .i64 e]] (by (try simp only [List.map_toArray, List.map_cons, List.map_nil]); first | done | rfl) ?_; refine (hand_of1 k s _ _ l e _ _ (C_below HR.out HB.out) HC.out HH.out).mono ?_; rintro e w5 ⟨rfl, hb⟩; refine ⟨_, rfl, ?_⟩; have n0 := zA (blk_below BK.out hb); have n1 := zA (below_step HB.out hb); clear HB hb BK; have HB := n1; have BK := n0; clear n0 n1; have hc0 := (blk_cell BK.out 0).trans rfl; have hf0 := blk_frozen BK.out 0; have hc1 := (blk_cell BK.out 1).trans rfl; have hf1 := blk_frozen BK.out 1; have hc2 := (blk_cell BK.out 2).trans rfl; have hf2 := blk_frozen BK.out 2; have hc3 := (blk_cell BK.out 3).trans rfl; have hf3 := blk_frozen BK.out 3; have hc4 := (blk_cell BK.out 4).trans rfl; have hf4 := blk_frozen BK.out 4; have hc5 := (blk_cell BK.out 5).trans rfl; have hf5 := blk_frozen BK.out 5)
 rw [rounds_succ];have HH3 := zA (HH2.out (by simp));cases r2
 ·go_wp2_with (refine goesV_ (some 16) rfl rfl #[] #[] rfl rfl Tryd.func81 (by kernel_rfl) rfl #[.agg #[.bool s2, .slice A2 l2.length c2, .int .i64 e2]] (by (try simp only [List.map_toArray, List.map_cons, List.map_nil]); first | done | rfl) ?_; refine (hand_of1 k s2 _ _ l2 e2 _ _ (C_below a1.out HB.out) a2.out HH3.out).mono ?_; rintro e w5 ⟨rfl, hb⟩; refine ⟨_, rfl, ?_⟩; have n0 := zA (blk_below BK.out hb); have n1 := zA (below_step HB.out hb); clear HB hb BK; have HB := n1; have BK := n0; clear n0 n1)
  go_ret;exact ⟨rfl, HB.out⟩
 go_wp2_with (refine goesV_ (some 16) rfl rfl #[] #[] rfl rfl Tryd.func81 (by kernel_rfl) rfl #[.agg #[.bool s2, .slice A2 l2.length c2, .int .i64 e2]] (by (try simp only [List.map_toArray, List.map_cons, List.map_nil]); first | done | rfl) ?_; refine (hand_of1 k s2 _ _ l2 e2 _ _ (C_below a1.out HB.out) a2.out HH3.out).mono ?_; rintro e w5 ⟨rfl, hb⟩; refine ⟨_, rfl, ?_⟩; have n0 := zA (blk_below BK.out hb); have n1 := zA (below_step HB.out hb); clear HB hb BK; have HB := n1; have BK := n0; clear n0 n1)
 rw [rounds_succ]
 go_wp2
 go_ret;exact ⟨rfl, HB.out⟩
set_option maxRecDepth 100000 in
/-- slices.ContainsFunc, by what IndexFunc answers. -/
theorem hand_contains (sl : Value) (i : Int) (w : World) (h : Calls Tryd.prog 115 #[sl, .func (.func 81) #[] #[]] w fun x w' => x = .returned (.int .i64 i) ∧ Below w.heap.size w w') :
  Calls Tryd.prog 80 #[sl, .func (.func 81) #[] #[]] w fun x w' => x = .returned (.bool (decide (0 ≤ i))) ∧ Below w.heap.size w w' := by
 have HH := zA h;clear h;go_enter Tryd.func80, Tryd.ntmps80
 go_wp2_with ((with_reducible refine zG 115 rfl ?_); refine goesL_ (some 7) rfl rfl Tryd.func115 (by kernel_rfl) rfl #[sl, .func (.func 81) #[] #[]] rfl (by (try simp only [List.map_toArray, List.map_cons, List.map_nil]); first | done | rfl) ?_; refine HH.out.mono ?_; rintro e w5 ⟨rfl, hb⟩; refine ⟨_, rfl, ?_⟩; have HB := zA hb; clear hb)
 go_ret;exact ⟨by simp, HB.out⟩
set_option maxRecDepth 100000 in
/-- of: room for what a function makes, where no number is wrong. -/
theorem hand_of (k : Nat) (sl : Value) (r : Bool) (fv : FuncId) (fn : Func) (first cap : Array Value) (hf : Tryd.prog.funcs[fv]? = some fn) (hname : (fn.name == "runtime.NumGoroutine") = false) (hbody : fn.body.isSome = true)
  (s1 : Bool) (l1 : List Int) (e1 : Int) (r1 : Bool) (r2 : List Int) (r3 r4 : Int) (ok : Nat → Prop) (w : World)
  (hc : ∀ w1, Below w.heap.size w w1 → Calls Tryd.prog 80 #[sl, .func (.func 81) #[] #[]] w1 fun x w2 => x = .returned (.bool (!r)) ∧ Below w1.heap.size w1 w2)
  (hm : r = true → ∀ w1, Below w.heap.size w w1 → Calls Tryd.prog fv (first ++ cap) w1 fun x w2 => ∃ v, x = .returned (.agg #[.bool s1, v, .int .i64 e1]) ∧ Kd.V (Kd.int .u64) 26 w2 w1.heap.size (fun k_ => ok k_ ∨ w1.heap.size ≤ k_) v l1 ∧ Below w1.heap.size w1 w2)
  (hroom : r = true → dyad_room.f k s1 l1 e1 = some (r1, r2, r3, r4))
  (hok : ∀ k_, ok k_ → k_ < w.heap.size) (hbad : r = false → (r1, r2, r3, r4) = (false, [], 0, 2)) :
  Calls Tryd.prog 43 #[.func (.func fv) first cap, sl] w fun x w' => ∃ v1_ : Value, x = .returned (.tuple #[.agg #[.bool r1, v1_, .int .i64 r3], .int .i64 r4]) ∧ Kd.V (Kd.int .u64) 26 w' w.heap.size (fun k_ => ok k_ ∨ w.heap.size ≤ k_) v1_ r2 ∧ Below w.heap.size w w' := by
 have hu25 := Tryd.underlying25;have HB := zA (Below.refl w.heap.size w);have Hc := zA hc;have Hm := zA hm;have Hroom := zA hroom;have Hbad := zA hbad;have Hf := zA hf;clear hc hm hroom hbad hf;go_enter Tryd.func43, Tryd.ntmps43;cases r
 ·have Hb := Hbad.out rfl;simp only [Prod.mk.injEq] at Hb;obtain ⟨rfl, rfl, rfl, rfl⟩ := Hb
  go_wp2_with (first | ((with_reducible refine zD 4 rfl ?_); refine zn (N := 4) (cs := #[.bool false, .slice none 0 0, .int .i64 0]) (t := 25) rfl rfl ?_; intro g hg w1 hbox hb; have GE := zA (hg ▸ Nat.le_refl _ : w.heap.size ≤ g); have n0 := zA (below_step HB.out hb); have n1 := zA hbox; clear HB hb hbox hg; have HB := n0; have BK := n1; clear n0 n1) | ((with_reducible refine zG 80 rfl ?_); refine goesL_ (some 7) rfl rfl Tryd.func80 (by kernel_rfl) rfl #[sl, .func (.func 81) #[] #[]] rfl (by (try simp only [List.map_toArray, List.map_cons, List.map_nil]); first | done | rfl) ?_; refine (Hc.out _ HB.out).mono ?_; rintro e w5 ⟨rfl, hb⟩; refine ⟨_, rfl, ?_⟩; have n0 := zA (blk_below BK.out hb); have n1 := zA (below_step HB.out hb); clear HB hb BK; have HB := n1; have BK := n0; clear n0 n1; have hc0 := (blk_cell BK.out 0).trans rfl; have hf0 := blk_frozen BK.out 0; have hc1 := (blk_cell BK.out 1).trans rfl; have hf1 := blk_frozen BK.out 1; have hc2 := (blk_cell BK.out 2).trans rfl; have hf2 := blk_frozen BK.out 2))
  refine bodyPost_ret (results_ct rfl _ _ g 25 #[.bool false, .slice none 0 0, .int .i64 0] (0, 0) _ rfl (by refine blk_put (cs := #[.bool false, .slice none 0 0, .int .i64 0]) ?_ 2 _ rfl; refine blk_put (cs := #[.bool false, .slice none 0 0, .int .i64 0]) ?_ 1 _ rfl; refine blk_put (cs := #[.bool false, .slice none 0 0, .int .i64 0]) ?_ 0 _ rfl; exact BK.out) Tryd.underlying25 rfl (by kernel_rfl)) rfl ?_;exact ⟨_, rfl, V_nil _ _ _ _ _, below_set (below_set (below_set HB.out GE.out) GE.out) GE.out⟩
 go_wp2_with (first | ((with_reducible refine zD 4 rfl ?_); refine zn (N := 4) (cs := #[.bool false, .slice none 0 0, .int .i64 0]) (t := 25) rfl rfl ?_; intro g hg w1 hbox hb; have GE := zA (hg ▸ Nat.le_refl _ : w.heap.size ≤ g); have n0 := zA (below_step HB.out hb); have n1 := zA hbox; clear HB hb hbox hg; have HB := n0; have BK := n1; clear n0 n1) | ((with_reducible refine zG 80 rfl ?_); refine goesL_ (some 7) rfl rfl Tryd.func80 (by kernel_rfl) rfl #[sl, .func (.func 81) #[] #[]] rfl (by (try simp only [List.map_toArray, List.map_cons, List.map_nil]); first | done | rfl) ?_; refine (Hc.out _ HB.out).mono ?_; rintro e w5 ⟨rfl, hb⟩; refine ⟨_, rfl, ?_⟩; have n0 := zA (blk_below BK.out hb); have n1 := zA (below_step HB.out hb); clear HB hb BK; have HB := n1; have BK := n0; clear n0 n1; have hc0 := (blk_cell BK.out 0).trans rfl; have hf0 := blk_frozen BK.out 0; have hc1 := (blk_cell BK.out 1).trans rfl; have hf1 := blk_frozen BK.out 1; have hc2 := (blk_cell BK.out 2).trans rfl; have hf2 := blk_frozen BK.out 2) | ((with_reducible refine zD 10 rfl ?_); refine goesV_ (some 10) rfl rfl first cap rfl rfl Hf.out hname hbody (first ++ cap) (by simp) ?_; refine (Hm.out rfl _ HB.out).mono ?_; rintro e w6 ⟨v6, rfl, hv, hb⟩; obtain ⟨A6, c6, rfl⟩ := V_slice hv; refine ⟨_, rfl, ?_⟩; have LT := zA (blk_lt BK.out); have HV := zA hv; have n0 := zA (blk_below BK.out hb); have n1 := zA (below_step HB.out hb); have LE := zA hb.size; clear HB hb BK hv; have HB := n1; have BK := n0; clear n0 n1) | ((with_reducible refine zG 82 rfl ?_); refine goesL_ (some 11) rfl rfl Tryd.func82 (by kernel_rfl) rfl #[.agg #[.bool s1, .slice A6 l1.length c6, .int .i64 e1]] rfl (by (try simp only [List.map_toArray, List.map_cons, List.map_nil]); first | done | rfl) ?_; refine (dyad_room.calls k s1 _ _ _ l1 e1 r1 r2 r3 r4 _ HV.out (Hroom.out rfl)).mono ?_; rintro e w7 ⟨v7, rfl, hv, hb⟩; obtain ⟨A7, c7, rfl⟩ := V_slice hv; refine ⟨_, rfl, ?_⟩; have HV7 := zA (V_mono hv (ok' := fun k_ => (ok k_ ∨ w.heap.size ≤ k_) ∧ k_ ≠ g) (fun k_ hk => by { have h1 := LT.out; have h2 := LE.out; have h3 := GE.out; rcases hk with (hk | hk) | hk; (exact ⟨.inl hk, fun e => by { subst e; exact absurd (hok _ hk) (Nat.not_lt.mpr h3) }⟩); (exact ⟨.inr (by omega), by omega⟩); (exact ⟨.inr (by omega), by omega⟩) })); have n0 := zA (blk_below BK.out hb); have n1 := zA (below_step HB.out hb); clear HB hb BK hv HV; have HB := n1; have BK := n0; clear n0 n1; have hc0 := (blk_cell BK.out 0).trans rfl; have hf0 := blk_frozen BK.out 0; have hc1 := (blk_cell BK.out 1).trans rfl; have hf1 := blk_frozen BK.out 1; have hc2 := (blk_cell BK.out 2).trans rfl; have hf2 := blk_frozen BK.out 2))
 refine bodyPost_ret (results_ct rfl _ _ g 25 #[.bool r1, .slice A7 r2.length c7, .int .i64 r3] (0, 0) _ rfl (by refine blk_put (cs := #[.bool r1, .slice A7 r2.length c7, .int .i64 0]) ?_ 2 _ rfl; refine blk_put (cs := #[.bool r1, .slice none 0 0, .int .i64 0]) ?_ 1 _ rfl; refine blk_put (cs := #[.bool false, .slice none 0 0, .int .i64 0]) ?_ 0 _ rfl; exact BK.out) Tryd.underlying25 rfl (by kernel_rfl)) rfl ?_;exact ⟨_, rfl, V_mono (V_far (p := ⟨g, 2, none⟩) (V_far (p := ⟨g, 1, none⟩) (V_far (p := ⟨g, 0, none⟩) HV7.out (fun _ hk => hk.2) (.bool r1)) (fun _ hk => hk.2) (.slice A7 r2.length c7)) (fun _ hk => hk.2) (.int .i64 r3)) (fun _ hk => hk.1), below_set (below_set (below_set HB.out GE.out) GE.out) GE.out⟩
theorem hand_slice_event {P : Program} {ops : Array Oper} {rest : List Oper} {o : Oper} {a : Act} {Q : Exit → Act → World → Prop} {W : World} {n : Nat} (hgd : o.guard = none) {N : Tmp} (_hd : o.dst = some N) {cs : Array Value} {t : TypeId}
  (hrun : (execOp a.eval o).run P W = .ok (.value (.slice (some ⟨W.heap.size, 0, none⟩) n n)) (W.alloc (.cells cs t (0, 0))))
  (h : ∀ g, g = W.heap.size → ∀ w1, w1.heap[g]? = some (.cells cs t (0, 0)) → Below W.heap.size W w1 → wpList P ops Q rest (a.put o.dst (.slice (some ⟨g, 0, none⟩) n n)) w1) : wpList P ops Q (o :: rest) a W :=
 Kd.event_run hgd hrun (h _ rfl _ (blk_new W _) (below_alloc (Below.refl _ _) _))
end Go.Proofs.YtnjfckadjklmfaaDoor.PAll
