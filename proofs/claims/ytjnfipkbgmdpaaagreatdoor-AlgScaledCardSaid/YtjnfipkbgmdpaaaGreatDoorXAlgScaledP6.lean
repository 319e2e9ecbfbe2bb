/- Printed functions, merged by a program of this session. -/
import Derived.Test.YtjnfipkbgmdpaaaGreatDoorXAlgScaledP5
namespace Go.Proofs.YtjnfipkbgmdpaaaGreatDoor.PAll
open Go.RowKit Go.Proofs.YtjnfipkbgmdpaaaGreatDoorW.PrintWords Go.Proofs.YtjnfipkbgmdpaaaGreatDoorW.PrintLast Go.Proofs.YtjnfipkbgmdpaaaGreatDoorW.PrintMore Go.Proofs.YtjnfipkbgmdpaaaGreatDoorW.PrintWords.Kd
attribute [local go_sem] max2_int min2_int max_two min_two max_three min_three max_four min_four   -- for this text's walks alone
set_option linter.unusedVariables false
set_option maxHeartbeats 8000000
set_option maxRecDepth 100000
set_option linter.unusedSimpArgs false
attribute [local go_sem] fld77_0 fld77_1 fld77_2 ext153 ext154
def Z0N.f (k : Nat) (l0 : List Int) (a1 : Int) : Option (List Int × Int) := (Z0r.f k l0).bind fun a2 => (if a2.2 = 0 then (if a1 < 0 then (some (([] : List Int), 2)) else (if (a2.1.length : Int) = 0 then (some (([] : List Int), 0)) else (if a1 > 65536 then (some (([] : List Int), 3)) else ((Z9.f k a2.1 a1).bind fun a4 => ((Z0Z.f a4).bind fun a3 => (some (a3.1, a3.2))))))) else (some (([] : List Int), a2.2)))
theorem Z0N.calls (k : Nat) (A0 : Option Addr) (c0 : Nat) (l0 : List Int) (a1 : Int) (r1 : List Int) (r2 : Int) (w : World) (hr0 : Kd.C Zu w A0 l0.length l0) (hc0 : l0.length ≤ c0) (h : Z0N.f k l0 a1 = some (r1, r2)) :
  Calls Tryz.prog 43 #[.slice A0 l0.length c0, .int .i64 a1] w fun e w' => ∃ v0_ : Value, e = .returned (.tuple #[v0_, .int .i64 r2]) ∧ Kd.R Zu 22 w' w.heap.size (fun _ => True) v0_ r1 ∧ Below w.heap.size w w' := by
 have ai := zA hr0;have aj := zA hc0;clear hr0 hc0;have HB := zA (Below.refl w.heap.size w);have H := h
 unfold Z0N.f at H
 clear h;obtain ⟨⟨a5, a6⟩, A3, H⟩ := zh H;(try dsimp only at H)
 by_cases c4 : a6 = 0
 rw [if_pos c4] at H;have aa := beq_iff_eq.mpr c4;have ab := bne_eq_false_iff_eq.mpr c4;clear c4
 by_cases c5 : a1 < 0
 rw [if_pos c5] at H;have ac := decide_eq_true c5;clear c5;rotate_left;rw [if_neg c5] at H;have ac := decide_eq_false c5;clear c5
 by_cases c7 : (a5.length : Int) = 0
 rw [if_pos c7] at H;have ad := beq_iff_eq.mpr c7;have ae := bne_eq_false_iff_eq.mpr c7;clear c7;rotate_left;rw [if_neg c7] at H;have ad := beq_eq_false_iff_ne.mpr c7;have ae := bne_iff_ne.mpr c7
 have an : ¬ (a5 = []) := fun h_ => c7 (by rw [h_]; rfl)
 by_cases c10 : a1 > 65536
 rw [if_pos c10] at H;have a8 := decide_eq_true c10;clear c10;rotate_left;rw [if_neg c10] at H;have a8 := decide_eq_false c10;clear c10;obtain ⟨a7, ak, H⟩ := zh H;obtain ⟨⟨af, ag⟩, al, H⟩ := zh H;(try dsimp only at H);rotate_left;rw [if_neg c4] at H;have aa := beq_eq_false_iff_ne.mpr c4;have ab := bne_iff_ne.mpr c4;rotate_left
 all_goals
  simp only [Option.some.injEq, Prod.mk.injEq] at H;obtain ⟨rfl, rfl⟩ := H;go_enter Tryz.func43, Tryz.ntmps43
  go_wp2_with (first | ((with_reducible refine zG 83 rfl ?_); refine zC (some 10) Tryz.func83 (Z0r.calls k (fun k_ => k_ < w.heap.size) _ _ l0 a5 a6 _ (V_mk aj.out (Kd.F_below (C_F (Kd.heap_int .u64) ai.out) bq)) A3.out) ?_; rintro e w6 ⟨v441, rfl, a4, hb⟩; refine ⟨_, rfl, ?_⟩; have a2 := zA (V_lower (V_mono (ok' := fun k_ => True) a4 (fun k_ hk_ => trivial)) (below_size bq)); replace HB := ze hb; (try (obtain ⟨aq, ar, am⟩ := V_slice a2.out; subst am))) | ((with_reducible refine zG 86 rfl ?_); refine zC (some 29) Tryz.func86 (Z9.calls k _ _ a5 a1 a7 _ (zk (V_reads' a2.out).2.2) ((V_reads' a2.out).2.1) ak.out) ?_; rintro e w17 ⟨v445, rfl, a4, hb⟩; refine ⟨_, rfl, ?_⟩; replace a2 := zA (V_below (vu a2.out) hb); have a3 := zA (V_lower (V_mono (ok' := fun k_ => True) a4 (fun k_ hk_ => trivial)) (below_size bq)); replace HB := ze hb; (try (obtain ⟨ao, ap, ah⟩ := V_slice a3.out; subst ah))) | ((with_reducible refine zG 85 rfl ?_); refine zC (some 30) Tryz.func85 (Z0Z.calls _ _ a7 af ag _ (zk (V_reads' a3.out).2.2) ((V_reads' a3.out).2.1) al.out) ?_; rintro e w19 ⟨v449, rfl, a4, hb⟩; refine ⟨_, rfl, ?_⟩; replace a2 := zA (V_elder' (vu a2.out) (R_base a4) hb); replace a3 := zA (V_elder' (vu a3.out) (R_base a4) hb); have a9 := zA (R_lower a4 (below_size bq)); replace HB := ze hb))
 ·go_ret2
  exact ⟨_, er, by first | exact R_nil _ _ _ _ _ | exact Kd.N_nil _ _ _ _ _ | exact V_nil _ _ _ _ _ | exact Kd.Q_nil _ _ _ _ _ | exact Kd.S_nil _ _ _ _ _, bq⟩
 ·go_ret2
  exact ⟨_, er, by first | exact R_nil _ _ _ _ _ | exact Kd.N_nil _ _ _ _ _ | exact V_nil _ _ _ _ _ | exact Kd.Q_nil _ _ _ _ _ | exact Kd.S_nil _ _ _ _ _, bq⟩
 ·go_ret2
  exact ⟨_, er, by first | exact R_nil _ _ _ _ _ | exact Kd.N_nil _ _ _ _ _ | exact V_nil _ _ _ _ _ | exact Kd.Q_nil _ _ _ _ _ | exact Kd.S_nil _ _ _ _ _, bq⟩
 ·go_ret2
  exact ⟨_, er, ru a9.out, bq⟩
 go_ret2
 exact ⟨_, er, by first | exact R_nil _ _ _ _ _ | exact Kd.N_nil _ _ _ _ _ | exact V_nil _ _ _ _ _ | exact Kd.Q_nil _ _ _ _ _ | exact Kd.S_nil _ _ _ _ _, bq⟩
def Z1o.f (k : Nat) (a1 : Bool) (a2 : List Int) (a3 : Int) : Option (Int) := (Zb.f k a1 a2 a3).bind fun a4 => (if a4 = true then (some 0) else (some 2))
theorem Z1o.calls (k : Nat) (a3 : Bool) (a5 : Option Addr) (a6 : Nat) (a1 : List Int) (a4 : Int) (r : Int) (w : World) (a7 : Kd.C Zu w a5 a1.length a1) (a8 : a1.length ≤ a6) (h : Z1o.f k a3 a1 a4 = some r) :
  Calls Tryz.prog 70 #[.agg #[.bool a3, .slice a5 a1.length a6, .int .i64 a4]] w fun e w' => e = .returned (.int .i64 r) ∧ Below w.heap.size w w' := by
 have hu34 := Tryz.underlying34;have a9 := zA a7;have aa := zA a8;clear a7 a8;have HB := zA (Below.refl w.heap.size w);have H := h
 unfold Z1o.f at H
 clear h;obtain ⟨ab, A2, H⟩ := zh H
 by_cases c3 : ab = true
 subst c3;rw [if_pos rfl] at H;rotate_left;replace c3 := Bool.eq_false_iff.mpr c3;subst c3;rw [if_neg (show ¬ (false = true) by decide)] at H;rotate_left
 all_goals
  obtain rfl := Option.some.inj H;go_enter Tryz.func70, Tryz.ntmps70
  go_wp2_with (first | ((with_reducible refine zD 1 rfl ?_); refine zn (N := 1) (cs := #[.bool a3, .slice a5 a1.length a6, .int .i64 a4]) (t := 34) rfl rfl ?_; intro ai hg w4 hbox hb; have a2 := zA (hbox); have aj := zw hg; replace HB := ze hb; clear hb hbox hg; (try (obtain ⟨_, _, _, _, _, _⟩ := zc a2)); (try (obtain ⟨ac, ad, ae, af, ag, ah⟩ := zc a2))) | ((with_reducible refine zG 102 rfl ?_); refine zC (some 4) Tryz.func102 (Zb.calls k a3 _ _ a1 a4 true _ (zk (C_below a9.out HB.out)) (aa.out) A2.out) ?_; rintro e w6 ⟨rfl, hb⟩; refine ⟨_, rfl, ?_⟩; replace a2 := zb a2 hb; replace HB := zf hb) | ((with_reducible refine zG 102 rfl ?_); refine zC (some 4) Tryz.func102 (Zb.calls k a3 _ _ a1 a4 false _ (zk (C_below a9.out HB.out)) (aa.out) A2.out) ?_; rintro e w9 ⟨rfl, hb⟩; refine ⟨_, rfl, ?_⟩; replace a2 := zb a2 hb; replace HB := zf hb))
  go_ret;exact ⟨er, zs⟩
def Z1I.f (k : Nat) (l0 : List Int) : Option (List Int × Int) := (Z0r.f k l0).bind fun a1 => (if a1.2 = 0 then ((Zm.f a1.1).bind fun a2 => (some (a2, 0))) else (some (([] : List Int), a1.2)))
theorem Z1I.calls (k : Nat) (A0 : Option Addr) (c0 : Nat) (l0 : List Int) (r1 : List Int) (r2 : Int) (w : World) (hr0 : Kd.C Zu w A0 l0.length l0) (hc0 : l0.length ≤ c0) (h : Z1I.f k l0 = some (r1, r2)) :
  Calls Tryz.prog 146 #[.slice A0 l0.length c0] w fun e w' => ∃ v0_ : Value, e = .returned (.tuple #[v0_, .int .i64 r2]) ∧ Kd.R Zu 22 w' w.heap.size (fun _ => True) v0_ r1 ∧ Below w.heap.size w w' := by
 have a9 := zA hr0;have aa := zA hc0;clear hr0 hc0;have HB := zA (Below.refl w.heap.size w);have H := h
 unfold Z1I.f at H
 clear h;obtain ⟨⟨a3, a4⟩, A2, H⟩ := zh H;(try dsimp only at H)
 by_cases c3 : a4 = 0
 rw [if_pos c3] at H;have a6 := beq_iff_eq.mpr c3;have a7 := bne_eq_false_iff_eq.mpr c3;clear c3;obtain ⟨a8, A4, H⟩ := zh H;rotate_left;rw [if_neg c3] at H;have a6 := beq_eq_false_iff_ne.mpr c3;have a7 := bne_iff_ne.mpr c3;rotate_left
 all_goals
  simp only [Option.some.injEq, Prod.mk.injEq] at H;obtain ⟨rfl, rfl⟩ := H;go_enter Tryz.func146, Tryz.ntmps146
  go_wp2_with (first | ((with_reducible refine zG 83 rfl ?_); refine zC (some 8) Tryz.func83 (Z0r.calls k (fun k_ => k_ < w.heap.size) _ _ l0 a3 a4 _ (V_mk aa.out (Kd.F_below (C_F (Kd.heap_int .u64) a9.out) bq)) A2.out) ?_; rintro e w5 ⟨v415, rfl, a2, hb⟩; refine ⟨_, rfl, ?_⟩; have a1 := zA (V_lower (V_mono (ok' := fun k_ => True) a2 (fun k_ hk_ => trivial)) (below_size bq)); replace HB := ze hb; (try (obtain ⟨ac, ad, ab⟩ := V_slice a1.out; subst ab))) | ((with_reducible refine zG 88 rfl ?_); refine zC (some 15) Tryz.func88 (Zm.calls _ _ a3 a8 _ (zk (V_reads' a1.out).2.2) ((V_reads' a1.out).2.1) A4.out) ?_; rintro e w7 ⟨v419, rfl, a2, hb⟩; refine ⟨_, rfl, ?_⟩; replace a1 := zA (V_elder' (vu a1.out) (R_base a2) hb); have a5 := zA (R_lower a2 (below_size bq)); replace HB := ze hb))
 ·go_ret2
  exact ⟨_, er, ru a5.out, bq⟩
 go_ret2
 exact ⟨_, er, by first | exact R_nil _ _ _ _ _ | exact Kd.N_nil _ _ _ _ _ | exact V_nil _ _ _ _ _ | exact Kd.Q_nil _ _ _ _ _ | exact Kd.S_nil _ _ _ _ _, bq⟩
def Z1J.f (k : Nat) (a4 : Bool) (a2 : List Int) (a3 : Int) : Option (List Int × Int) := (Z1I.f k a2).bind fun a1 => (some (a1.1, a3))
theorem Z1J.calls (k : Nat) (a9 : Bool) (aa : Option Addr) (ab : Nat) (a3 : List Int) (a4 : Int) (r1 : List Int) (r2 : Int) (w : World) (ac : Kd.C Zu w aa a3.length a3) (ad : a3.length ≤ ab) (h : Z1J.f k a9 a3 a4 = some (r1, r2)) :
  Calls Tryz.prog 105 #[.agg #[.bool a9, .slice aa a3.length ab, .int .i64 a4]] w fun e w' => ∃ v0_ : Value, e = .returned (.agg #[v0_, .int .i64 r2]) ∧ Kd.R Zu 22 w' w.heap.size (fun _ => True) v0_ r1 ∧ Below w.heap.size w w' := by
 have hu34 := Tryz.underlying34;have hu118 := Tryz.underlying118;have ah := zA ac;have ai := zA ad;clear ac ad;have HB := zA (Below.refl w.heap.size w);have H := h
 unfold Z1J.f at H
 clear h;obtain ⟨⟨a5, aj⟩, A2, H⟩ := zh H;(try dsimp only at H);simp only [Option.some.injEq, Prod.mk.injEq] at H;obtain ⟨rfl, rfl⟩ := H;go_enter Tryz.func105, Tryz.ntmps105
 go_wp2_with (first | ((with_reducible refine zD 1 rfl ?_); refine zn (N := 1) (cs := #[.bool a9, .slice aa a3.length ab, .int .i64 a4]) (t := 34) rfl rfl ?_; intro ay hg w3 hbox hb; have a1 := zA (hbox); have aA := zw hg; replace HB := ze hb; clear hb hbox hg) | ((with_reducible refine zD 2 rfl ?_); refine zn (N := 2) (cs := #[.slice none 0 0, .int .i64 0]) (t := 118) rfl rfl ?_; intro a6 hg w4 hbox hb; have a2 := zA (hbox); have aB := zx hg; replace HB := zf hb; have a7 := zl a1 hg; have a8 := zg a1 hg; replace a1 := zb a1 hb; clear hb hbox hg; have aC := a7.out; have aD := a8.out; obtain ⟨_, _, _, _, _, _⟩ := zc a1) | ((with_reducible refine zG 146 rfl ?_); refine zC (some 8) Tryz.func146 (Z1I.calls k _ _ a3 a5 aj _ (zk (C_below ah.out HB.out)) (ai.out) A2.out) ?_; rintro e w7 ⟨v425, rfl, ao, hb⟩; refine ⟨_, rfl, ?_⟩; have ae := zA (R_lower ao (below_size zs)); replace a1 := zb a1 hb; replace a2 := zb a2 hb; replace HB := zf hb; obtain ⟨ap, aq, ar, au, av, aw⟩ := zc a1; obtain ⟨af, ag, ax⟩ := R_slice ae.out; subst ax; have ak := zM0 a2; have al := zM1 a2; have am := blk_frozen a2.out 0; have an := blk_frozen a2.out 1))
 refine bodyPost_ret (results_cell_row rfl _ _ a6 118 #[.slice af a5.length ag, .int .i64 a4] (0, 0) _ rfl (by (with_reducible repeat (first | refine blk_drewN ?_ _ | refine blk_drew ?_ | refine blk_alloc ?_ _)); refine blk_put (cs := #[.slice af a5.length ag, .int .i64 0]) ?_ 1 _ rfl; refine blk_put (cs := #[.slice none 0 0, .int .i64 0]) ?_ 0 _ rfl; exact a2.out) Tryz.underlying118 rfl (by kernel_rfl)) rfl ?_;exact ⟨_, er, ru (R_mono (R_far (p := ⟨a6, 1, none⟩) (R_far (p := ⟨a6, 0, none⟩) (R_types ae.out a2.out (by decide)) (fun _ hk => hk.2) (.slice af a5.length ag)) (fun _ hk => hk.2) (.int .i64 a4)) (fun _ hk => trivial)), zs⟩
def ZD.f (a1 : List Int) (a2 : Int) : Option (Bool) := some ((a1.length : Int) == 0)
theorem ZD.calls (a3 : Option Addr) (a4 : Nat) (a1 : List Int) (a5 : Int) (r : Bool) (w : World) (a6 : Kd.C Zu w a3 a1.length a1) (a7 : a1.length ≤ a4) (h : ZD.f a1 a5 = some r) :
  Calls Tryz.prog 108 #[.agg #[.slice a3 a1.length a4, .int .i64 a5]] w fun e w' => e = .returned (.bool r) ∧ Below w.heap.size w w' := by
 have hu118 := Tryz.underlying118;have ac := zA a6;have ad := zA a7;clear a6 a7;have HB := zA (Below.refl w.heap.size w);have H : (some ((a1.length : Int) == 0)) = some r := h;clear h;obtain rfl := Option.some.inj H;go_enter Tryz.func108, Tryz.ntmps108
 go_wp2_with (first | ((with_reducible refine zD 1 rfl ?_); refine zn (N := 1) (cs := #[.slice a3 a1.length a4, .int .i64 a5]) (t := 118) rfl rfl ?_; intro ae hg w2 hbox hb; have a2 := zA (hbox); have af := zw hg; replace HB := ze hb; clear hb hbox hg; have a8 := zM0 a2; have a9 := zM1 a2; have aa := blk_frozen a2.out 0; have ab := blk_frozen a2.out 1))
 go_ret;exact ⟨er, zs⟩
def Z0Q.f (k : Nat) (l0 : List Int) : Option (Int × Int) := (Z0r.f k l0).bind fun a1 => ((Z0w.f k a1.1).bind fun a2 => (some (a2, a1.2)))
theorem Z0Q.calls (k : Nat) (A0 : Option Addr) (c0 : Nat) (l0 : List Int) (r1 : Int) (r2 : Int) (w : World) (hr0 : Kd.C Zu w A0 l0.length l0) (hc0 : l0.length ≤ c0) (h : Z0Q.f k l0 = some (r1, r2)) :
  Calls Tryz.prog 42 #[.slice A0 l0.length c0] w fun e w' => e = .returned (.tuple #[.int .i64 r1, .int .i64 r2]) ∧ Below w.heap.size w w' := by
 have a5 := zA hr0;have a6 := zA hc0;clear hr0 hc0;have HB := zA (Below.refl w.heap.size w);have H := h
 unfold Z0Q.f at H
 clear h;obtain ⟨⟨a2, a3⟩, A2, H⟩ := zh H;(try dsimp only at H);obtain ⟨a4, A3, H⟩ := zh H;simp only [Option.some.injEq, Prod.mk.injEq] at H;obtain ⟨rfl, rfl⟩ := H;go_enter Tryz.func42, Tryz.ntmps42
 go_wp2_with (first | ((with_reducible refine zG 83 rfl ?_); refine zC (some 8) Tryz.func83 (Z0r.calls k (fun k_ => k_ < w.heap.size) _ _ l0 a2 a3 _ (V_mk a6.out (Kd.F_below (C_F (Kd.heap_int .u64) a5.out) bq)) A2.out) ?_; rintro e w4 ⟨v429, rfl, a7, hb⟩; refine ⟨_, rfl, ?_⟩; have a1 := zA (V_lower (V_mono (ok' := fun k_ => True) a7 (fun k_ hk_ => trivial)) (below_size bq)); replace HB := ze hb; obtain ⟨a9, aa, a8⟩ := V_slice a1.out; subst a8) | ((with_reducible refine zG 84 rfl ?_); refine zC (some 12) Tryz.func84 (Z0w.calls k _ _ a2 a4 _ (zk (V_reads' a1.out).2.2) ((V_reads' a1.out).2.1) A3.out) ?_; rintro e w' ⟨rfl, ⟨nd, rfl⟩⟩; refine ⟨_, rfl, ?_⟩))
 go_ret2
 exact ⟨er, bq⟩
def ZZ.f (k : Nat) (a2 : List Int) (a3 : Int) : Option (Int) := (Z0Q.f k a2).bind fun a1 => (some (wrap64 (a1.1 + a3)))
theorem ZZ.calls (k : Nat) (a3 : Option Addr) (a4 : Nat) (a2 : List Int) (a5 : Int) (r : Int) (w : World) (a6 : Kd.C Zu w a3 a2.length a2) (a7 : a2.length ≤ a4) (h : ZZ.f k a2 a5 = some r) :
  Calls Tryz.prog 147 #[.agg #[.slice a3 a2.length a4, .int .i64 a5]] w fun e w' => e = .returned (.int .i64 r) ∧ Below w.heap.size w w' := by
 have hu118 := Tryz.underlying118;have a8 := zA a6;have a9 := zA a7;clear a6 a7;have HB := zA (Below.refl w.heap.size w);have H := h
 unfold ZZ.f at H
 clear h;obtain ⟨⟨aa, ab⟩, A2, H⟩ := zh H;(try dsimp only at H);obtain rfl := Option.some.inj H;go_enter Tryz.func147, Tryz.ntmps147
 go_wp2_with (first | ((with_reducible refine zD 1 rfl ?_); refine zn (N := 1) (cs := #[.slice a3 a2.length a4, .int .i64 a5]) (t := 118) rfl rfl ?_; intro ak hg w3 hbox hb; have a1 := zA (hbox); have al := zw hg; replace HB := ze hb; clear hb hbox hg; have ac := zM0 a1; have ad := zM1 a1; have ae := blk_frozen a1.out 0; have af := blk_frozen a1.out 1) | ((with_reducible refine zG 42 rfl ?_); refine zC (some 8) Tryz.func42 (Z0Q.calls k _ _ a2 aa ab _ (zk (C_below a8.out HB.out)) (a9.out) A2.out) ?_; rintro e w5 ⟨rfl, hb⟩; refine ⟨_, rfl, ?_⟩; replace a1 := zb a1 hb; replace HB := zf hb; have ag := zM0 a1; have ah := zM1 a1; have ai := blk_frozen a1.out 0; have aj := blk_frozen a1.out 1))
 go_ret;exact ⟨er, zs⟩
def Z1a.f (k : Nat) (l0 : List Int) (a1 : Int) : Option (List Int × Bool × Int) := (Z0r.f k l0).bind fun a2 => (if a2.2 = 0 then (if a1 < 0 then (some (([] : List Int), false, 2)) else ((Z2.f k a2.1 a1).bind fun a3 => ((Zm.f a3.1).bind fun a4 => (some (a4, a3.2, 0))))) else (some (([] : List Int), false, a2.2)))
theorem Z1a.calls (k : Nat) (A0 : Option Addr) (c0 : Nat) (l0 : List Int) (a1 : Int) (r1 : List Int) (r2 : Bool) (r3 : Int) (w : World) (hr0 : Kd.C Zu w A0 l0.length l0) (hc0 : l0.length ≤ c0) (h : Z1a.f k l0 a1 = some (r1, r2, r3)) :
  Calls Tryz.prog 115 #[.slice A0 l0.length c0, .int .i64 a1] w fun e w' => ∃ v0_ : Value, e = .returned (.tuple #[v0_, .bool r2, .int .i64 r3]) ∧ Kd.R Zu 22 w' w.heap.size (fun _ => True) v0_ r1 ∧ Below w.heap.size w w' := by
 have ag := zA hr0;have ah := zA hc0;clear hr0 hc0;have HB := zA (Below.refl w.heap.size w);have H := h
 unfold Z1a.f at H
 clear h;obtain ⟨⟨a5, a6⟩, A3, H⟩ := zh H;(try dsimp only at H)
 by_cases c4 : a6 = 0
 rw [if_pos c4] at H;have a9 := beq_iff_eq.mpr c4;have aa := bne_eq_false_iff_eq.mpr c4;clear c4
 by_cases c5 : a1 < 0
 rw [if_pos c5] at H;have ab := decide_eq_true c5;clear c5;rotate_left;rw [if_neg c5] at H;have ab := decide_eq_false c5;clear c5;obtain ⟨⟨a7, ac⟩, A7, H⟩ := zh H;(try dsimp only at H);obtain ⟨ad, A8, H⟩ := zh H;rotate_left;rw [if_neg c4] at H;have a9 := beq_eq_false_iff_ne.mpr c4;have aa := bne_iff_ne.mpr c4;rotate_left
 all_goals
  simp only [Option.some.injEq, Prod.mk.injEq] at H;obtain ⟨rfl, rfl, rfl⟩ := H;go_enter Tryz.func115, Tryz.ntmps115
  go_wp2_with (first | ((with_reducible refine zG 83 rfl ?_); refine zC (some 13) Tryz.func83 (Z0r.calls k (fun k_ => k_ < w.heap.size) _ _ l0 a5 a6 _ (V_mk ah.out (Kd.F_below (C_F (Kd.heap_int .u64) ag.out) bq)) A3.out) ?_; rintro e w6 ⟨v452, rfl, a4, hb⟩; refine ⟨_, rfl, ?_⟩; have a2 := zA (V_lower (V_mono (ok' := fun k_ => True) a4 (fun k_ hk_ => trivial)) (below_size bq)); replace HB := ze hb; (try (obtain ⟨ai, aj, ae⟩ := V_slice a2.out; subst ae))) | ((with_reducible refine zG 127 rfl ?_); refine zC (some 26) Tryz.func127 (Z2.calls k _ _ a5 a1 a7 ac _ (zk (V_reads' a2.out).2.2) ((V_reads' a2.out).2.1) A7.out) ?_; rintro e w11 ⟨v456, rfl, a4, hb⟩; refine ⟨_, rfl, ?_⟩; replace a2 := zA (V_below (vu a2.out) hb); have a3 := zA (V_lower (V_mono (ok' := fun k_ => True) a4 (fun k_ hk_ => trivial)) (below_size bq)); replace HB := ze hb; (try (obtain ⟨ak, al, af⟩ := V_slice a3.out; subst af))) | ((with_reducible refine zG 88 rfl ?_); refine zC (some 30) Tryz.func88 (Zm.calls _ _ a7 ad _ (zk (V_reads' a3.out).2.2) ((V_reads' a3.out).2.1) A8.out) ?_; rintro e w13 ⟨v460, rfl, a4, hb⟩; refine ⟨_, rfl, ?_⟩; replace a2 := zA (V_elder' (vu a2.out) (R_base a4) hb); replace a3 := zA (V_elder' (vu a3.out) (R_base a4) hb); have a8 := zA (R_lower a4 (below_size bq)); replace HB := ze hb))
 ·go_ret3
  exact ⟨_, er, by first | exact R_nil _ _ _ _ _ | exact Kd.N_nil _ _ _ _ _ | exact V_nil _ _ _ _ _ | exact Kd.Q_nil _ _ _ _ _ | exact Kd.S_nil _ _ _ _ _, bq⟩
 ·go_ret3
  exact ⟨_, er, ru a8.out, bq⟩
 go_ret3
 exact ⟨_, er, by first | exact R_nil _ _ _ _ _ | exact Kd.N_nil _ _ _ _ _ | exact V_nil _ _ _ _ _ | exact Kd.Q_nil _ _ _ _ _ | exact Kd.S_nil _ _ _ _ _, bq⟩
def Z0M.f (l0 : List Int) : Option (Int) := if (l0.length : Int) = 0 then (some 0) else (if 0 < (l0.length : Int) then (some (rd l0 0)) else (none))
theorem Z0M.calls (A0 : Option Addr) (c0 : Nat) (l0 : List Int) (r : Int) (w : World) (hr0 : Kd.C Zu w A0 l0.length l0) (hc0 : l0.length ≤ c0) (h : Z0M.f l0 = some r) :
  Calls Tryz.prog 158 #[.slice A0 l0.length c0] w fun e w' => e = .returned (.int .u64 r) ∧ Drawn0 w w' := by
 have a4 := zA hr0;have a8 := zA hc0;clear hr0 hc0;have H := h
 unfold Z0M.f at H
 clear h
 by_cases c2 : (l0.length : Int) = 0
 ·rw [if_pos c2] at H;have a2 := beq_iff_eq.mpr c2;have a3 := bne_eq_false_iff_eq.mpr c2;clear c2;obtain rfl := Option.some.inj H;go_enter Tryz.func158, Tryz.ntmps158
  go_wp2
  go_ret;exact ⟨by first | rfl | (simp; done) | (simp [*]; done), by repeat (first | exact Drawn0.refl _ | apply Drawn0.step)⟩
 rw [if_neg c2] at H;have a2 := beq_eq_false_iff_ne.mpr c2;have a3 := bne_iff_ne.mpr c2
 have a5 : ¬ (l0 = []) := fun h_ => c2 (by rw [h_]; rfl)
 replace H := dn H;obtain ⟨c3, H⟩ := H;have a6 := decide_eq_true c3;have a7 : decide (0 < l0.length) = true := decide_eq_true (by omega);clear c3;obtain rfl := Option.some.inj H;have p462 : 0 ≤ (0 : Int) := (by omega);have q462 : 0 < (l0.length : Int) := od;obtain ⟨ad462, e462, a1⟩ := Kd.at_int a4.out 0 p462 q462;cases e462;have qi462 : (0 < l0.length) = True := eq_true (by omega);(try rw [show ((0 : Int)).toNat = 0 from rfl] at a1);(try rw [Addr.add_zero'] at a1);replace p462 := eq_true p462;replace q462 := eq_true q462;go_enter Tryz.func158, Tryz.ntmps158
 go_wp2
 go_ret;exact ⟨by first | rfl | (simp; done) | (simp [*]; done), by repeat (first | exact Drawn0.refl _ | apply Drawn0.step)⟩
def Z1O.f (k : Nat) (l0 : List Int) (a1 : Int) : Option (Bool × Int) := (Z0r.f k l0).bind fun a2 => (if a2.2 = 0 then (if a1 < 0 then (some (false, 2)) else (if (wrap64 (Int.tdiv a1 64)) < (a2.1.length : Int) then (if 0 ≤ (wrap64 (Int.tdiv a1 64)) then (if 0 ≤ (Int.tmod a1 64) then (some (((Go.bits .and .u64 (shr .u64 (rd a2.1 (wrap64 (Int.tdiv a1 64))) (Int.tmod a1 64)) 1) == 1), 0)) else (none)) else (none)) else (some (false, 0)))) else (some (false, a2.2)))
theorem Z1O.calls (k : Nat) (A0 : Option Addr) (c0 : Nat) (l0 : List Int) (a1 : Int) (r1 : Bool) (r2 : Int) (w : World) (hr0 : Kd.C Zu w A0 l0.length l0) (hc0 : l0.length ≤ c0) (h : Z1O.f k l0 a1 = some (r1, r2)) :
  Calls Tryz.prog 159 #[.slice A0 l0.length c0, .int .i64 a1] w fun e w' => e = .returned (.tuple #[.bool r1, .int .i64 r2]) ∧ Below w.heap.size w w' := by
 have aj := zA hr0;have ak := zA hc0;clear hr0 hc0;have HB := zA (Below.refl w.heap.size w);have H := h
 unfold Z1O.f at H
 clear h;obtain ⟨⟨a2, aa⟩, A3, H⟩ := zh H;(try dsimp only at H)
 by_cases c4 : aa = 0
 rw [if_pos c4] at H;have ad := beq_iff_eq.mpr c4;have ae := bne_eq_false_iff_eq.mpr c4;clear c4
 by_cases c5 : a1 < 0
 rw [if_pos c5] at H;have af := decide_eq_true c5;clear c5;rotate_left;rw [if_neg c5] at H;have af := decide_eq_false c5;clear c5
 by_cases c7 : (wrap64 (Int.tdiv a1 64)) < (a2.length : Int)
 rw [if_pos c7] at H;have ab := decide_eq_true c7;clear c7;generalize a5 : wrap64 (Int.tdiv a1 64) = a4 at H;(try rw [a5] at ab);(try rw [a5] at A3);have hji8w : (IntKind.i64.wrap (Int.tdiv a1 64)) = a4 := (i64_w _).trans a5;replace H := dn H;obtain ⟨c9, H⟩ := H;have ao := decide_eq_true c9;clear c9;generalize a9 : Int.tmod a1 64 = a6 at H;(try rw [a9] at A3);replace H := dn H;obtain ⟨c11, H⟩ := H;have am := eq_true c11;have an := decide_eq_true c11;clear c11;generalize a3 : shr .u64 (rd a2 (a4)) (a6) = ac at H;(try rw [a3] at A3);have hji12_ : ((rd a2 (a4)) / 2 ^ min (a6).toNat 64) = ac := a3;have hji12z : (a6) ≤ 64 → ((rd a2 (a4)) / 2 ^ (a6).toNat) = ac := shr_small a3;rotate_left;rw [if_neg c7] at H;have ab := decide_eq_false c7;clear c7;rotate_left;rw [if_neg c4] at H;have ad := beq_eq_false_iff_ne.mpr c4;have ae := bne_iff_ne.mpr c4;rotate_left
 all_goals
  simp only [Option.some.injEq, Prod.mk.injEq] at H;obtain ⟨rfl, rfl⟩ := H;go_enter Tryz.func159, Tryz.ntmps159
  go_wp2_with (first | ((with_reducible refine zG 83 rfl ?_); refine zC (some 10) Tryz.func83 (Z0r.calls k (fun k_ => k_ < w.heap.size) _ _ l0 a2 aa _ (V_mk ak.out (Kd.F_below (C_F (Kd.heap_int .u64) aj.out) bq)) A3.out) ?_; rintro e w6 ⟨v464, rfl, al, hb⟩; refine ⟨_, rfl, ?_⟩; have a7 := zA (V_lower (V_mono (ok' := fun k_ => True) al (fun k_ hk_ => trivial)) (below_size bq)); replace HB := ze hb; (try (obtain ⟨ag, ah, a8⟩ := V_slice a7.out; subst a8; have p467 : 0 ≤ ((a4) : Int) := od; have q467 : (a4) < (a2.length : Int) := od; obtain ⟨ad467, e467, ai⟩ := Kd.at_int (V_reads' a7.out).2.2 (a4) p467 q467; cases e467; replace p467 := eq_true p467; replace q467 := eq_true q467)); (try (obtain ⟨ag, ah, a8⟩ := V_slice a7.out; subst a8))))
 ·go_ret2
  exact ⟨er, bq⟩
 ·go_ret2
  exact ⟨by first | rfl | (simp [errW_none, errW_some] <;> rfl) | (simp only [← a5, ← a9, ← a3]; first | rfl | (simp [errW_none, errW_some] <;> rfl)) | (simp [*, errW_none, errW_some] <;> rfl), bq⟩
 ·go_ret2
  exact ⟨er, bq⟩
 go_ret2
 exact ⟨er, bq⟩
def Z0l.l0 : Nat → Int → List Int → Int → Int → Option (Int × Int)
 | 0, _, _, _, _ => none
 | k + 1, x5, x13, x14, x15 => if x15 < x14 then (if 0 ≤ x15 then (if x15 < (x13.length : Int) then (if (rd x13 x15) = 0 then (Z0l.l0 k x5 x13 x14 (wrap64 (x15 + 1))) else ((Z03.f (rd x13 x15)).bind fun a1 => (some (wrap64 ((wrap64 (64 * x15)) + a1), x5)))) else (none)) else (none)) else (some (0, x5))
def Z0l.f (k : Nat) (l0 : List Int) : Option (Int × Int) := (Z0r.f k l0).bind fun a1 => (Z0l.l0 k a1.2 a1.1 (a1.1.length : Int) 0)
theorem Z0l.calls (k : Nat) (A0 : Option Addr) (c0 : Nat) (l0 : List Int) (r1 : Int) (r2 : Int) (w : World) (hr0 : Kd.C Zu w A0 l0.length l0) (hc0 : l0.length ≤ c0) (hT : Laid w) (h : Z0l.f k l0 = some (r1, r2)) :
  Calls Tryz.prog 160 #[.slice A0 l0.length c0] w fun e w' => e = .returned (.tuple #[.int .i64 r1, .int .i64 r2]) ∧ Below w.heap.size w w' := by
 have ab := zA hr0;have ac := zA hc0;clear hr0 hc0;have HB := zA (Below.refl w.heap.size w);have H := h
 unfold Z0l.f at H
 clear h;obtain ⟨⟨a2, a6⟩, A2, H⟩ := zh H;(try dsimp only at H);have H' := zA H;clear H;go_enter Tryz.func160, Tryz.ntmps160
 go_wp2_with (first | ((with_reducible refine zG 83 rfl ?_); refine zC (some 10) Tryz.func83 (Z0r.calls k (fun k_ => k_ < w.heap.size) _ _ l0 a2 a6 _ (V_mk ac.out (Kd.F_below (C_F (Kd.heap_int .u64) ab.out) bq)) A2.out) ?_; rintro e w3 ⟨v469, rfl, ad, hb⟩; refine ⟨_, rfl, ?_⟩; have a4 := zA (V_lower (V_mono (ok' := fun k_ => True) ad (fun k_ hk_ => trivial)) (below_size bq)); replace HB := ze hb; obtain ⟨ae, af, ag⟩ := V_slice a4.out; subst ag))
 go_loopg [15] k (fun kq v15 w' => ∃ (a1 : Int), v15 = .int .i64 a1 ∧ Aside0 (Z0l.l0 kq a6 a2 (a2.length : Int) a1 = some (r1, r2)) ∧ Aside0 (kq ≤ k) ∧ Aside0 (Kd.V Zu 22 w' w.heap.size (fun _ => True) (.slice ae a2.length af) a2) ∧ Aside0 (Below w.heap.size w w'))
 case atStart => exact ⟨(0), zi, H', ⟨Nat.le_refl _⟩, ⟨vu a4.out⟩, ⟨bq⟩⟩
 case round =>
  clear H';obtain ⟨a1, rfl, HA, HK1, a3, HB⟩ := hrel
  cases gk with
  | zero => exact absurd HA.out (by simp [Z0l.l0])
  | succ k1 =>
   have H := HA.out;clear HA;simp only [Z0l.l0] at H
   by_cases c5 : a1 < (a2.length : Int)
   ·rw [if_pos c5] at H;have a7 := decide_eq_true c5;clear c5;replace H := dn H;obtain ⟨c6, H⟩ := H;have ah := decide_eq_true c6;clear c6;replace H := dn H;obtain ⟨c7, H⟩ := H;have ai := decide_eq_true c7;clear c7
    by_cases c8 : (rd a2 a1) = 0
    ·rw [if_pos c8] at H;have a8 := beq_iff_eq.mpr c8;have a9 := bne_eq_false_iff_eq.mpr c8;clear c8;have H' := zA H;clear H;have p472 : 0 ≤ (a1 : Int) := od;have q472 : a1 < (a2.length : Int) := od;obtain ⟨ad472, e472, a5⟩ := Kd.at_int (V_reads' a3.out).2.2 a1 p472 q472;cases e472;replace p472 := eq_true p472;replace q472 := eq_true q472
     go_wp2
     go_roundg k1
     case measure => have := HK1.out; omega
     case rel => exact ⟨(wrap64 (a1 + 1)), zi, H', ⟨by have := HK1.out; omega⟩, ⟨vu a3.out⟩, ⟨bq⟩⟩
    rw [if_neg c8] at H;have a8 := beq_eq_false_iff_ne.mpr c8;have a9 := bne_iff_ne.mpr c8;obtain ⟨aa, A9, H⟩ := zh H;simp only [Option.some.injEq, Prod.mk.injEq] at H;obtain ⟨rfl, rfl⟩ := H;have p472 : 0 ≤ (a1 : Int) := od;have q472 : a1 < (a2.length : Int) := od;obtain ⟨ad472, e472, a5⟩ := Kd.at_int (V_reads' a3.out).2.2 a1 p472 q472;cases e472;replace p472 := eq_true p472;replace q472 := eq_true q472
    go_wp2_with (first | ((with_reducible refine zG 162 rfl ?_); refine zC (some 25) Tryz.func162 (Z03.calls (rd a2 a1) aa _ (laid_below hT bq) A9.out) ?_; rintro e w' ⟨rfl, ⟨nd, rfl⟩⟩; refine ⟨_, rfl, ?_⟩))
    go_ret2
    exact ⟨er, bq⟩
   rw [if_neg c5] at H;have a7 := decide_eq_false c5;clear c5;simp only [Option.some.injEq, Prod.mk.injEq] at H;obtain ⟨rfl, rfl⟩ := H
   go_wp2
   go_ret2
   exact ⟨er, bq⟩
def Z0h.f (k : Nat) (a5 : List Int) (a3 : Int) (a1 : Int) : Option (Int × Bool) := if a3 ≥ a1 then ((Z0N.f k a5 (wrap64 (a3 - a1))).bind fun a6 => ((Z0M.f a6.1).bind fun a9 => (some (a9, false)))) else ((Z1a.f k a5 (wrap64 (a1 - a3))).bind fun a2 => ((Z0M.f a2.1).bind fun a4 => ((Z1O.f k a5 (wrap64 ((wrap64 (a1 - a3)) - 1))).bind fun a7 => ((Z0l.f k a5).bind fun a8 => (if a7.1 = true then (if a8.1 < (wrap64 ((wrap64 (a1 - a3)) - 1)) then (some (IntKind.u64.wrap (a4 + 1), a2.2.1)) else (if (Go.bits .and .u64 a4 1) = 1 then (some (IntKind.u64.wrap (a4 + 1), a2.2.1)) else (some (a4, a2.2.1)))) else (some (a4, a2.2.1)))))))
theorem hand_at_lit (g : Nat) (m : Int) (up : Bool) (w : World) (hb : w.heap[g]? = some (.cells #[.int .u64 m] 22 (0, 0))) :
  Calls Tryz.prog 161 #[.bool up, .pointer (some ⟨g, 0, none⟩)] w fun e w' => e = .returned (.int .u64 (if up then IntKind.u64.wrap (m + 1) else m)) ∧ Below w.heap.size w w' := by
 have hc := (blk_cell hb 0).trans rfl;have hf := blk_frozen hb 0;have HB := zA (Below.refl w.heap.size w);clear hb;cases up
 ·go_enter Tryz.func161, Tryz.ntmps161
  go_wp2
  go_ret;exact ⟨rfl, HB.out⟩
 go_enter Tryz.func161, Tryz.ntmps161
 go_wp2
 go_ret;exact ⟨rfl, HB.out⟩
theorem Z0h.calls (k : Nat) (a4 : Option Addr) (a5 : Nat) (a2 : List Int) (a3 : Int) (a1 : Int) (r1 : Int) (r2 : Bool) (w : World) (ad : Kd.C Zu w a4 a2.length a2) (ae : a2.length ≤ a5) (hT : Laid w) (h : Z0h.f k a2 a3 a1 = some (r1, r2)) :
  Calls Tryz.prog 148 #[.agg #[.slice a4 a2.length a5, .int .i64 a3], .int .i64 a1] w fun e w' => e = .returned (.tuple #[.int .u64 r1, .bool r2]) ∧ Below w.heap.size w w' := by
 have hu64 := Tryz.underlying118
 have hmf : ∀ (fn : Fn) (first cap : Array Value) (w : World), (Instr.makeFunc fn first cap).run Tryz.prog w = .ok (.func fn first cap) w := fun _ _ _ _ => rfl
 have a7 := zA ad;have a8 := zA ae;clear ad ae;have HB := zA (Below.refl w.heap.size w)
 unfold Z0h.f at h
 by_cases c3 : a3 ≥ a1
 ·rw [if_pos c3] at h;have ax := decide_eq_true c3;clear c3;replace h := Option.bind_eq_some_iff.mp h;obtain ⟨⟨ac, ay⟩, ap, h⟩ := h;have A4 := zA ap;clear ap;replace h := Option.bind_eq_some_iff.mp h;obtain ⟨aA, aq, h⟩ := h;have A5 := zA aq;clear aq;simp only [Option.some.injEq, Prod.mk.injEq] at h;obtain ⟨rfl, rfl⟩ := h;go_enter Tryz.func148, Tryz.ntmps148
  go_wp2_with (first | ((with_reducible refine zD 2 rfl ?_); refine zn (N := 2) (cs := #[.slice a4 a2.length a5, .int .i64 a3]) (t := 118) rfl rfl ?_; intro gA hg w1 hbox hb; have GA := zA (hg ▸ below_size HB.out : w.heap.size ≤ gA); have m_HB := zA (below_step HB.out hb); clear HB hb hg; have HB := m_HB; clear m_HB; have BA := zA hbox; clear hbox; have hcA0 := (blk_cell BA.out 0).trans rfl; have hfA0 := blk_frozen BA.out 0; have hcA1 := (blk_cell BA.out 1).trans rfl; have hfA1 := blk_frozen BA.out 1) | ((with_reducible refine zG 43 rfl ?_); refine goesL_ (some 30) rfl rfl Tryz.func43 (by kernel_rfl) rfl #[.slice a4 a2.length a5, .int .i64 (wrap64 (a3 - a1))] rfl (by (try simp only [List.map_toArray, List.map_cons, List.map_nil]); first | done | rfl) ?_; refine (Z0N.calls k _ _ a2 (wrap64 (a3 - a1)) ac ay _ (C_below a7.out HB.out) a8.out A4.out).mono ?_; rintro e w8 ⟨v222, rfl, aa, hb⟩; refine ⟨_, rfl, ?_⟩; have m_HB := zA (below_step HB.out hb); have m_BA := zA (blk_below BA.out hb); clear hb HB BA; have HB := m_HB; have BA := m_BA; clear m_HB m_BA; have HO := zA aa; clear aa; obtain ⟨Ao, co, eo⟩ := R_slice HO.out; subst eo) | ((with_reducible refine zG 158 rfl ?_); refine goesL_ (some 34) rfl rfl Tryz.func158 (by kernel_rfl) rfl #[.slice Ao ac.length co] rfl (by (try simp only [List.map_toArray, List.map_cons, List.map_nil]); first | done | rfl) ?_; refine (Z0M.calls _ _ ac aA _ (R_reads' HO.out).2.2 (R_reads' HO.out).2.1 A5.out).mono ?_; rintro e w' ⟨rfl, hd⟩; refine ⟨_, rfl, ?_⟩; have hb := hd.below; clear hd; have m_HB := zA (below_step HB.out hb); have m_BA := zA (blk_below BA.out hb); clear hb HB BA; have HB := m_HB; have BA := m_BA; clear m_HB m_BA))
  go_ret2
  exact ⟨rfl, HB.out⟩
 rw [if_neg c3] at h;have ax := decide_eq_false c3;clear c3;replace h := Option.bind_eq_some_iff.mp h;obtain ⟨⟨a9, af, ag⟩, ah, h⟩ := h;have ar := zA ah;clear ah;replace h := Option.bind_eq_some_iff.mp h;obtain ⟨a6, ai, h⟩ := h;have au := zA ai;clear ai;replace h := Option.bind_eq_some_iff.mp h;obtain ⟨⟨aB, aj⟩, ak, h⟩ := h;have av := zA ak;clear ak;replace h := Option.bind_eq_some_iff.mp h;obtain ⟨⟨ab, al⟩, am, h⟩ := h;have aw := zA am;clear am
 cases aB with
 | false =>
  replace h : (if false = true then _ else _) = _ := h;rw [if_neg (by decide)] at h;simp only [Option.some.injEq, Prod.mk.injEq] at h;obtain ⟨rfl, rfl⟩ := h;go_enter Tryz.func148, Tryz.ntmps148
  go_wp2_with (first | ((with_reducible refine zD 2 rfl ?_); refine zn (N := 2) (cs := #[.slice a4 a2.length a5, .int .i64 a3]) (t := 118) rfl rfl ?_; intro gA hg w1 hbox hb; have GA := zA (hg ▸ below_size HB.out : w.heap.size ≤ gA); have m_HB := zA (below_step HB.out hb); clear HB hb hg; have HB := m_HB; clear m_HB; have BA := zA hbox; clear hbox; have hcA0 := (blk_cell BA.out 0).trans rfl; have hfA0 := blk_frozen BA.out 0; have hcA1 := (blk_cell BA.out 1).trans rfl; have hfA1 := blk_frozen BA.out 1) | ((with_reducible refine zG 115 rfl ?_); refine goesL_ (some 43) rfl rfl Tryz.func115 (by kernel_rfl) rfl #[.slice a4 a2.length a5, .int .i64 (wrap64 (a1 - a3))] rfl (by (try simp only [List.map_toArray, List.map_cons, List.map_nil]); first | done | rfl) ?_; refine (Z1a.calls k _ _ a2 (wrap64 (a1 - a3)) a9 af ag _ (C_below a7.out HB.out) a8.out ar.out).mono ?_; rintro e w8 ⟨v228, rfl, aa, hb⟩; refine ⟨_, rfl, ?_⟩; have m_HB := zA (below_step HB.out hb); have m_BA := zA (blk_below BA.out hb); clear hb HB BA; have HB := m_HB; have BA := m_BA; clear m_HB m_BA; have HO := zA aa; clear aa; obtain ⟨Ao, co, eo⟩ := R_slice HO.out; subst eo) | ((with_reducible refine zG 158 rfl ?_); refine goesL_ (some 48) rfl rfl Tryz.func158 (by kernel_rfl) rfl #[.slice Ao a9.length co] rfl (by (try simp only [List.map_toArray, List.map_cons, List.map_nil]); first | done | rfl) ?_; refine (Z0M.calls _ _ a9 a6 _ (R_reads' HO.out).2.2 (R_reads' HO.out).2.1 au.out).mono ?_; rintro e wd ⟨rfl, hd⟩; refine ⟨_, rfl, ?_⟩; have hb := hd.below; clear hd; have m_HB := zA (below_step HB.out hb); have m_BA := zA (blk_below BA.out hb); clear hb HB BA; have HB := m_HB; have BA := m_BA; clear m_HB m_BA) | ((with_reducible refine zD 12 rfl ?_); refine zn (N := 12) (cs := #[.int .u64 0]) (t := 22) rfl rfl ?_; intro gM hg w1 hbox hb; have GM := zA (hg ▸ below_size HB.out : w.heap.size ≤ gM); have NE := zA (by have q_ := blk_lt BA.out; rw [hg]; omega : gA ≠ gM); have m_HB := zA (below_step HB.out hb); have m_BA := zA (blk_below BA.out hb); clear hb HB BA; have HB := m_HB; have BA := m_BA; clear m_HB m_BA; have BM := zA hbox; clear hbox hg; have hcM0 := (blk_cell BM.out 0).trans rfl; have hfM0 := blk_frozen BM.out 0) | (refine gate_store (t := 22) (p := 12) (v := .tmp 48) rfl ?_; refine store_event (t := 22) (p := 12) (v := .tmp 48) (w1 := w1.setCell ⟨gM, 0, none⟩ (.int .u64 a6)) ?hg ?ho ?hn ?hr ?_; (case ho => rfl); (case hg => rfl); (case hn => rfl); (case hr => first | (go_simp; done) | (go_simp; rfl)); intro w2 hw; have m_BM := zA (hw ▸ blk_put BM.out 0 (.int .u64 a6) rfl : w2.heap[gM]? = some (.cells #[.int .u64 a6] 22 (0, 0))); have m_BA := zA (hw ▸ blk_far BA.out (p := ⟨gM, 0, none⟩) NE.out _ : w2.heap[gA]? = some (.cells #[.slice a4 a2.length a5, .int .i64 a3] 118 (0, 0))); have m_HB := zA (hw ▸ below_set HB.out GM.out : Below w.heap.size w w2); clear hw BM BA HB; have BM := m_BM; have BA := m_BA; have HB := m_HB; clear m_BM m_BA m_HB; have hcA0 := (blk_cell BA.out 0).trans rfl; have hfA0 := blk_frozen BA.out 0; have hcA1 := (blk_cell BA.out 1).trans rfl; have hfA1 := blk_frozen BA.out 1; have hcM0 := (blk_cell BM.out 0).trans rfl; have hfM0 := blk_frozen BM.out 0) | ((with_reducible refine zG 159 rfl ?_); refine goesL_ (some 54) rfl rfl Tryz.func159 (by kernel_rfl) rfl #[.slice a4 a2.length a5, .int .i64 (wrap64 ((wrap64 (a1 - a3)) - 1))] rfl (by (try simp only [List.map_toArray, List.map_cons, List.map_nil]); first | done | rfl) ?_; refine (Z1O.calls k _ _ a2 (wrap64 ((wrap64 (a1 - a3)) - 1)) false aj _ (C_below a7.out HB.out) a8.out av.out).mono ?_; rintro e w8 ⟨rfl, hb⟩; refine ⟨_, rfl, ?_⟩; have m_HB := zA (below_step HB.out hb); have m_BA := zA (blk_below BA.out hb); have m_BM := zA (blk_below BM.out hb); clear hb HB BA BM; have HB := m_HB; have BA := m_BA; have BM := m_BM; clear m_HB m_BA m_BM; have hcA0 := (blk_cell BA.out 0).trans rfl; have hfA0 := blk_frozen BA.out 0; have hcA1 := (blk_cell BA.out 1).trans rfl; have hfA1 := blk_frozen BA.out 1; have hcM0 := (blk_cell BM.out 0).trans rfl; have hfM0 := blk_frozen BM.out 0) | ((with_reducible refine zG 160 rfl ?_); refine goesL_ (some 60) rfl rfl Tryz.func160 (by kernel_rfl) rfl #[.slice a4 a2.length a5] rfl (by (try simp only [List.map_toArray, List.map_cons, List.map_nil]); first | done | rfl) ?_; refine (Z0l.calls k _ _ a2 ab al _ (C_below a7.out HB.out) a8.out (laid_below hT HB.out) aw.out).mono ?_; rintro e w9 ⟨rfl, hb⟩; refine ⟨_, rfl, ?_⟩; have m_HB := zA (below_step HB.out hb); have m_BA := zA (blk_below BA.out hb); have m_BM := zA (blk_below BM.out hb); clear hb HB BA BM; have HB := m_HB; have BA := m_BA; have BM := m_BM; clear m_HB m_BA m_BM; have hcA0 := (blk_cell BA.out 0).trans rfl; have hfA0 := blk_frozen BA.out 0; have hcA1 := (blk_cell BA.out 1).trans rfl; have hfA1 := blk_frozen BA.out 1; have hcM0 := (blk_cell BM.out 0).trans rfl; have hfM0 := blk_frozen BM.out 0) | ((with_reducible refine zD 78 rfl ?_); refine goesV_ (some 78) rfl rfl #[] #[.pointer (some ⟨gM, 0, none⟩)] rfl rfl Tryz.func161 (by kernel_rfl) rfl #[.bool false, .pointer (some ⟨gM, 0, none⟩)] (by (try simp only [List.map_toArray, List.map_cons, List.map_nil]); first | done | (go_simp; done) | rfl) ?_; refine (hand_at_lit gM a6 false _ BM.out).mono ?_; rintro e_ w4 ⟨rfl, hb⟩; refine ⟨_, rfl, ?_⟩; have m_HB := zA (below_step HB.out hb); clear HB hb; have HB := m_HB; clear m_HB))
  go_ret2
  exact ⟨rfl, HB.out⟩
 | true =>
 replace h : (if true = true then _ else _) = _ := h;rw [if_pos rfl] at h
 by_cases c15 : ab < (wrap64 ((wrap64 (a1 - a3)) - 1))
 rw [if_pos c15] at h;have an : decide (ab < (wrap64 ((wrap64 (a1 - a3)) - 1))) = true := decide_eq_true c15;clear c15;rotate_left;rw [if_neg c15] at h;have an : decide (ab < (wrap64 ((wrap64 (a1 - a3)) - 1))) = false := decide_eq_false c15;clear c15
 by_cases c24 : (Go.bits .and .u64 a6 1) = 1
 rw [if_pos c24] at h;have ao := beq_iff_eq.mpr c24;clear c24;rotate_left;rw [if_neg c24] at h;have ao := beq_eq_false_iff_ne.mpr c24;clear c24;rotate_left
 all_goals
  simp only [Option.some.injEq, Prod.mk.injEq] at h;obtain ⟨rfl, rfl⟩ := h;go_enter Tryz.func148, Tryz.ntmps148
  go_wp2_with (first | ((with_reducible refine zD 2 rfl ?_); refine zn (N := 2) (cs := #[.slice a4 a2.length a5, .int .i64 a3]) (t := 118) rfl rfl ?_; intro gA hg w1 hbox hb; have GA := zA (hg ▸ below_size HB.out : w.heap.size ≤ gA); have m_HB := zA (below_step HB.out hb); clear HB hb hg; have HB := m_HB; clear m_HB; have BA := zA hbox; clear hbox; have hcA0 := (blk_cell BA.out 0).trans rfl; have hfA0 := blk_frozen BA.out 0; have hcA1 := (blk_cell BA.out 1).trans rfl; have hfA1 := blk_frozen BA.out 1) | ((with_reducible refine zG 115 rfl ?_); refine goesL_ (some 43) rfl rfl Tryz.func115 (by kernel_rfl) rfl #[.slice a4 a2.length a5, .int .i64 (wrap64 (a1 - a3))] rfl (by (try simp only [List.map_toArray, List.map_cons, List.map_nil]); first | done | rfl) ?_; refine (Z1a.calls k _ _ a2 (wrap64 (a1 - a3)) a9 af ag _ (C_below a7.out HB.out) a8.out ar.out).mono ?_; rintro e w8 ⟨v228, rfl, aa, hb⟩; refine ⟨_, rfl, ?_⟩; have m_HB := zA (below_step HB.out hb); have m_BA := zA (blk_below BA.out hb); clear hb HB BA; have HB := m_HB; have BA := m_BA; clear m_HB m_BA; have HO := zA aa; clear aa; obtain ⟨Ao, co, eo⟩ := R_slice HO.out; subst eo) | ((with_reducible refine zG 158 rfl ?_); refine goesL_ (some 48) rfl rfl Tryz.func158 (by kernel_rfl) rfl #[.slice Ao a9.length co] rfl (by (try simp only [List.map_toArray, List.map_cons, List.map_nil]); first | done | rfl) ?_; refine (Z0M.calls _ _ a9 a6 _ (R_reads' HO.out).2.2 (R_reads' HO.out).2.1 au.out).mono ?_; rintro e wd ⟨rfl, hd⟩; refine ⟨_, rfl, ?_⟩; have hb := hd.below; clear hd; have m_HB := zA (below_step HB.out hb); have m_BA := zA (blk_below BA.out hb); clear hb HB BA; have HB := m_HB; have BA := m_BA; clear m_HB m_BA) | ((with_reducible refine zD 12 rfl ?_); refine zn (N := 12) (cs := #[.int .u64 0]) (t := 22) rfl rfl ?_; intro gM hg w1 hbox hb; have GM := zA (hg ▸ below_size HB.out : w.heap.size ≤ gM); have NE := zA (by have q_ := blk_lt BA.out; rw [hg]; omega : gA ≠ gM); have m_HB := zA (below_step HB.out hb); have m_BA := zA (blk_below BA.out hb); clear hb HB BA; have HB := m_HB; have BA := m_BA; clear m_HB m_BA; have BM := zA hbox; clear hbox hg; have hcM0 := (blk_cell BM.out 0).trans rfl; have hfM0 := blk_frozen BM.out 0) | (refine gate_store (t := 22) (p := 12) (v := .tmp 48) rfl ?_; refine store_event (t := 22) (p := 12) (v := .tmp 48) (w1 := w1.setCell ⟨gM, 0, none⟩ (.int .u64 a6)) ?hg ?ho ?hn ?hr ?_; (case ho => rfl); (case hg => rfl); (case hn => rfl); (case hr => first | (go_simp; done) | (go_simp; rfl)); intro w2 hw; have m_BM := zA (hw ▸ blk_put BM.out 0 (.int .u64 a6) rfl : w2.heap[gM]? = some (.cells #[.int .u64 a6] 22 (0, 0))); have m_BA := zA (hw ▸ blk_far BA.out (p := ⟨gM, 0, none⟩) NE.out _ : w2.heap[gA]? = some (.cells #[.slice a4 a2.length a5, .int .i64 a3] 118 (0, 0))); have m_HB := zA (hw ▸ below_set HB.out GM.out : Below w.heap.size w w2); clear hw BM BA HB; have BM := m_BM; have BA := m_BA; have HB := m_HB; clear m_BM m_BA m_HB; have hcA0 := (blk_cell BA.out 0).trans rfl; have hfA0 := blk_frozen BA.out 0; have hcA1 := (blk_cell BA.out 1).trans rfl; have hfA1 := blk_frozen BA.out 1; have hcM0 := (blk_cell BM.out 0).trans rfl; have hfM0 := blk_frozen BM.out 0) | ((with_reducible refine zG 159 rfl ?_); refine goesL_ (some 54) rfl rfl Tryz.func159 (by kernel_rfl) rfl #[.slice a4 a2.length a5, .int .i64 (wrap64 ((wrap64 (a1 - a3)) - 1))] rfl (by (try simp only [List.map_toArray, List.map_cons, List.map_nil]); first | done | rfl) ?_; refine (Z1O.calls k _ _ a2 (wrap64 ((wrap64 (a1 - a3)) - 1)) true aj _ (C_below a7.out HB.out) a8.out av.out).mono ?_; rintro e w8 ⟨rfl, hb⟩; refine ⟨_, rfl, ?_⟩; have m_HB := zA (below_step HB.out hb); have m_BA := zA (blk_below BA.out hb); have m_BM := zA (blk_below BM.out hb); clear hb HB BA BM; have HB := m_HB; have BA := m_BA; have BM := m_BM; clear m_HB m_BA m_BM; have hcA0 := (blk_cell BA.out 0).trans rfl; have hfA0 := blk_frozen BA.out 0; have hcA1 := (blk_cell BA.out 1).trans rfl; have hfA1 := blk_frozen BA.out 1; have hcM0 := (blk_cell BM.out 0).trans rfl; have hfM0 := blk_frozen BM.out 0) | ((with_reducible refine zG 160 rfl ?_); refine goesL_ (some 60) rfl rfl Tryz.func160 (by kernel_rfl) rfl #[.slice a4 a2.length a5] rfl (by (try simp only [List.map_toArray, List.map_cons, List.map_nil]); first | done | rfl) ?_; refine (Z0l.calls k _ _ a2 ab al _ (C_below a7.out HB.out) a8.out (laid_below hT HB.out) aw.out).mono ?_; rintro e w9 ⟨rfl, hb⟩; refine ⟨_, rfl, ?_⟩; have m_HB := zA (below_step HB.out hb); have m_BA := zA (blk_below BA.out hb); have m_BM := zA (blk_below BM.out hb); clear hb HB BA BM; have HB := m_HB; have BA := m_BA; have BM := m_BM; clear m_HB m_BA m_BM; have hcA0 := (blk_cell BA.out 0).trans rfl; have hfA0 := blk_frozen BA.out 0; have hcA1 := (blk_cell BA.out 1).trans rfl; have hfA1 := blk_frozen BA.out 1; have hcM0 := (blk_cell BM.out 0).trans rfl; have hfM0 := blk_frozen BM.out 0) | ((with_reducible refine zD 78 rfl ?_); refine goesV_ (some 78) rfl rfl #[] #[.pointer (some ⟨gM, 0, none⟩)] rfl rfl Tryz.func161 (by kernel_rfl) rfl #[.bool true, .pointer (some ⟨gM, 0, none⟩)] (by (try simp only [List.map_toArray, List.map_cons, List.map_nil]); first | done | (go_simp; done) | rfl) ?_; refine (hand_at_lit gM a6 true _ BM.out).mono ?_; rintro e_ w4 ⟨rfl, hb⟩; refine ⟨_, rfl, ?_⟩; have m_HB := zA (below_step HB.out hb); clear HB hb; have HB := m_HB; clear m_HB) | ((with_reducible refine zD 78 rfl ?_); refine goesV_ (some 78) rfl rfl #[] #[.pointer (some ⟨gM, 0, none⟩)] rfl rfl Tryz.func161 (by kernel_rfl) rfl #[.bool false, .pointer (some ⟨gM, 0, none⟩)] (by (try simp only [List.map_toArray, List.map_cons, List.map_nil]); first | done | (go_simp; done) | rfl) ?_; refine (hand_at_lit gM a6 false _ BM.out).mono ?_; rintro e_ w4 ⟨rfl, hb⟩; refine ⟨_, rfl, ?_⟩; have m_HB := zA (below_step HB.out hb); clear HB hb; have HB := m_HB; clear m_HB))
  go_ret2
  exact ⟨rfl, HB.out⟩
end Go.Proofs.YtjnfipkbgmdpaaaGreatDoor.PAll
