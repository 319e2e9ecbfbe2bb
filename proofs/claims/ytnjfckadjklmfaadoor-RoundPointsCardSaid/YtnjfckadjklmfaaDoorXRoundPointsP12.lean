/- Printed functions, merged by a program of this session. -/
import Derived.Test.YtnjfckadjklmfaaDoorXRoundPointsP0
import Derived.Test.YtnjfckadjklmfaaDoorXRoundPointsP11
import Derived.Test.YtnjfckadjklmfaaDoorXRoundPointsSh
namespace Go.Proofs.YtnjfckadjklmfaaDoor.PAll
open Go.RowKit Go.Proofs.YtnjfckadjklmfaaDoorW.PrintWords Go.Proofs.YtnjfckadjklmfaaDoorW.PrintLast Go.Proofs.YtnjfckadjklmfaaDoorW.PrintMore Go.Proofs.YtnjfckadjklmfaaDoorW.PrintWords.Kd
attribute [local go_sem] max2_int min2_int max_two min_two max_three min_three max_four min_four   -- for this text's walks alone
set_option linter.unusedVariables false
set_option linter.unusedSimpArgs false
attribute [local go_sem] fld75_0 fld75_1 fld75_2 ext118 ext119
def dyad_Cmp.f (k : Nat) (a1 : Bool) (a2 : List Int) (a3 : Int) (a4 : Bool) (a5 : List Int) (a6 : Int) : Option (Int × Int) := (dyad_number_right.f k a1 a2 a3).bind fun a7 => (if a7 = true then ((dyad_number_right.f k a4 a5 a6).bind fun a8 => (if a8 = true then ((raw_Cmp.f k a1 a2 a3 a4 a5 a6).bind fun a9 => (some (a9, 0))) else (some (0, 2)))) else (some (0, 2)))
theorem dyad_Cmp.mono : ∀ a0 a1 a2 a3 a4 a5 k, LeO (dyad_Cmp.f k a0 a1 a2 a3 a4 a5) (dyad_Cmp.f (k + 1) a0 a1 a2 a3 a4 a5) := by
 intro a0 a1 a2 a3 a4 a5 k
 unfold dyad_Cmp.f
 repeat' first
   | (with_reducible exact dyad_number_right.mono _ _ _ _)
   | (with_reducible exact raw_Cmp.mono _ _ _ _ _ _ _)
   | (with_reducible exact LeO.refl _)
   | (with_reducible exact LeO.none _)
   | (with_reducible refine LeO.ite ?_ ?_)
   | (with_reducible refine LeO.bind ?_ (fun _ => ?_))
   | exact dyad_number_right.mono _ _ _ _
   | exact raw_Cmp.mono _ _ _ _ _ _ _
   | exact LeO.none _
   | refine LeO.ite ?_ ?_
   | refine LeO.bind ?_ (fun _ => ?_)
set_option maxHeartbeats 8000000 in
set_option maxRecDepth 100000 in
theorem dyad_Cmp.calls (k : Nat) (a4 : Bool) (ad : Option Addr) (ae : Nat) (a3 : List Int) (a5 : Int) (ab : Bool) (af : Option Addr) (ag : Nat) (a6 : List Int) (ac : Int) (r1 : Int) (r2 : Int) (w : World) (ao : Kd.C (Kd.int .u64) w ad a3.length a3) (ap : a3.length ≤ ae) (aq : Kd.C (Kd.int .u64) w af a6.length a6) (ar : a6.length ≤ ag) (hT : Laid w) (h : dyad_Cmp.f k a4 a3 a5 ab a6 ac = some (r1, r2)) :
  Calls Tryd.prog 87 #[.agg #[.bool a4, .slice ad a3.length ae, .int .i64 a5], .agg #[.bool ab, .slice af a6.length ag, .int .i64 ac]] w fun e w' => e = .returned (.tuple #[.int .i64 r1, .int .i64 r2]) ∧ Below w.heap.size w w' := by
 have hu25 := Tryd.underlying25;have ah := zA ao;have ai := zA ap;clear ao ap;have aj := zA aq;have ak := zA ar;clear aq ar;have HB := zA (Below.refl w.heap.size w);have H : ((dyad_number_right.f k a4 a3 a5).bind fun al => (if al = true then ((dyad_number_right.f k ab a6 ac).bind fun am => (if am = true then ((raw_Cmp.f k a4 a3 a5 ab a6 ac).bind fun an => (some (an, 0))) else (some (0, 2)))) else (some (0, 2)))) = some (r1, r2) := h;clear h;obtain ⟨al, A3, H⟩ := zh H
 by_cases c4 : al = true
 ·subst c4;rw [if_pos rfl] at H;obtain ⟨am, A5, H⟩ := zh H
  by_cases c6 : am = true
  ·subst c6;rw [if_pos rfl] at H;obtain ⟨an, A7, H⟩ := zh H;simp only [Option.some.injEq, Prod.mk.injEq] at H;obtain ⟨rfl, rfl⟩ := H;go_enter Tryd.func87, Tryd.ntmps87
   go_wp2_with (first | ((with_reducible refine zD 2 rfl ?_); refine zn (N := 2) (cs := #[.bool a4, .slice ad a3.length ae, .int .i64 a5]) (t := 25) rfl rfl ?_; intro au hg w8 hbox hb; have a1 := zA (hbox); have av := zw hg; replace HB := ze hb; clear hb hbox hg) | ((with_reducible refine zD 3 rfl ?_); refine zn (N := 3) (cs := #[.bool ab, .slice af a6.length ag, .int .i64 ac]) (t := 25) rfl rfl ?_; intro aw hg w9 hbox hb; have a2 := zA (hbox); have ax := zx hg; replace HB := zf hb; have a9 := zl a1 hg; have aa := zg a1 hg; replace a1 := zb a1 hb; clear hb hbox hg; have az := a9.out; have aZ := aa.out; obtain ⟨_, _, _, _, _, _⟩ := zc a1) | ((with_reducible refine zG 53 rfl ?_); refine zL (some 7) rfl rfl Tryd.func53 #[.agg #[.bool a4, .slice ad a3.length ae, .int .i64 a5]] rfl ?_; (with_reducible refine (dyad_number_right.calls k a4 _ _ a3 a5 true _ ?a7 ?a8 A3.out).mono ?_); (case a7 => exact zk (C_below ah.out HB.out)); (case a8 => exact ai.out); rintro e w12 ⟨rfl, hb⟩; refine ⟨_, rfl, ?_⟩; replace a1 := zb a1 hb; replace a2 := zb a2 hb; replace HB := zf hb; obtain ⟨aB, aC, aD, aE, aF, aG⟩ := zc a2) | (go_at_call 53; (with_reducible refine (dyad_number_right.calls k ab _ _ a6 ac true _ ?a7 ?a8 A5.out).mono ?_); (case a7 => exact zk (C_below aj.out HB.out)); (case a8 => exact ak.out); rintro e w14 ⟨rfl, hb⟩; replace a1 := zb a1 hb; replace a2 := zb a2 hb; replace HB := zf hb; obtain ⟨aH, aI, aJ, aK, aL, aM⟩ := zc a1; obtain ⟨aN, aO, aP, aQ, aR, aS⟩ := zc a2) | ((with_reducible refine zG 59 rfl ?_); refine zL (some 16) rfl rfl Tryd.func59 #[.agg #[.bool a4, .slice ad a3.length ae, .int .i64 a5], .agg #[.bool ab, .slice af a6.length ag, .int .i64 ac]] rfl ?_; (with_reducible refine (raw_Cmp.calls k a4 _ _ a3 a5 ab _ _ a6 ac an _ ?a7 ?a8 ?ay ?aA (laid_below hT zs) A7.out).mono ?_); (case a7 => exact zk (C_below ah.out HB.out)); (case a8 => exact ai.out); (case ay => exact zk (C_below aj.out HB.out)); (case aA => exact ak.out); rintro e w17 ⟨rfl, hb⟩; refine ⟨_, rfl, ?_⟩; replace a1 := zb a1 hb; replace a2 := zb a2 hb; replace HB := zf hb))
   go_ret2
   exact ⟨er, zs⟩
  replace c6 := Bool.eq_false_iff.mpr c6;subst c6;rw [if_neg (show ¬ (false = true) by decide)] at H;simp only [Option.some.injEq, Prod.mk.injEq] at H;obtain ⟨rfl, rfl⟩ := H;go_enter Tryd.func87, Tryd.ntmps87
  go_wp2_with (first | ((with_reducible refine zD 2 rfl ?_); refine zn (N := 2) (cs := #[.bool a4, .slice ad a3.length ae, .int .i64 a5]) (t := 25) rfl rfl ?_; intro au hg w18 hbox hb; have a1 := zA (hbox); have av := zw hg; replace HB := ze hb; clear hb hbox hg) | ((with_reducible refine zD 3 rfl ?_); refine zn (N := 3) (cs := #[.bool ab, .slice af a6.length ag, .int .i64 ac]) (t := 25) rfl rfl ?_; intro aw hg w19 hbox hb; have a2 := zA (hbox); have ax := zx hg; replace HB := zf hb; have a9 := zl a1 hg; have aa := zg a1 hg; replace a1 := zb a1 hb; clear hb hbox hg; have b1 := a9.out; have b2 := aa.out; obtain ⟨_, _, _, _, _, _⟩ := zc a1) | ((with_reducible refine zG 53 rfl ?_); refine zL (some 7) rfl rfl Tryd.func53 #[.agg #[.bool a4, .slice ad a3.length ae, .int .i64 a5]] rfl ?_; (with_reducible refine (dyad_number_right.calls k a4 _ _ a3 a5 true _ ?a7 ?a8 A3.out).mono ?_); (case a7 => exact zk (C_below ah.out HB.out)); (case a8 => exact ai.out); rintro e w22 ⟨rfl, hb⟩; refine ⟨_, rfl, ?_⟩; replace a1 := zb a1 hb; replace a2 := zb a2 hb; replace HB := zf hb; obtain ⟨aT, aU, aV, aW, aX, aY⟩ := zc a2) | (go_at_call 53; (with_reducible refine (dyad_number_right.calls k ab _ _ a6 ac false _ ?a7 ?a8 A5.out).mono ?_); (case a7 => exact zk (C_below aj.out HB.out)); (case a8 => exact ak.out); rintro e w24 ⟨rfl, hb⟩; replace a1 := zb a1 hb; replace a2 := zb a2 hb; replace HB := zf hb))
  go_ret2
  exact ⟨er, zs⟩
 replace c4 := Bool.eq_false_iff.mpr c4;subst c4;rw [if_neg (show ¬ (false = true) by decide)] at H;simp only [Option.some.injEq, Prod.mk.injEq] at H;obtain ⟨rfl, rfl⟩ := H;go_enter Tryd.func87, Tryd.ntmps87
 go_wp2_with (first | ((with_reducible refine zD 2 rfl ?_); refine zn (N := 2) (cs := #[.bool a4, .slice ad a3.length ae, .int .i64 a5]) (t := 25) rfl rfl ?_; intro au hg w25 hbox hb; have a1 := zA (hbox); have av := zw hg; replace HB := ze hb; clear hb hbox hg) | ((with_reducible refine zD 3 rfl ?_); refine zn (N := 3) (cs := #[.bool ab, .slice af a6.length ag, .int .i64 ac]) (t := 25) rfl rfl ?_; intro aw hg w26 hbox hb; have a2 := zA (hbox); have ax := zx hg; replace HB := zf hb; have a9 := zl a1 hg; have aa := zg a1 hg; replace a1 := zb a1 hb; clear hb hbox hg; have b3 := a9.out; have b4 := aa.out; obtain ⟨_, _, _, _, _, _⟩ := zc a1) | ((with_reducible refine zG 53 rfl ?_); refine zL (some 7) rfl rfl Tryd.func53 #[.agg #[.bool a4, .slice ad a3.length ae, .int .i64 a5]] rfl ?_; (with_reducible refine (dyad_number_right.calls k a4 _ _ a3 a5 false _ ?a7 ?a8 A3.out).mono ?_); (case a7 => exact zk (C_below ah.out HB.out)); (case a8 => exact ai.out); rintro e w29 ⟨rfl, hb⟩; refine ⟨_, rfl, ?_⟩; replace a1 := zb a1 hb; replace a2 := zb a2 hb; replace HB := zf hb))
 go_ret2
 exact ⟨er, zs⟩
def round_fault.f (k : Nat) (a2 : Bool) (a3 : List Int) (a4 : Int) (a5 : Bool) (a6 : List Int) (a7 : Int) : Option (Int) := (dyad_Cmp.f k a2 a3 a4 a5 a6 a7).bind fun a1 => (if a1.2 = 0 then (if a1.1 > 0 then (some 2) else (some 0)) else (some a1.2))
theorem round_fault.mono : ∀ a0 a1 a2 a3 a4 a5 k, LeO (round_fault.f k a0 a1 a2 a3 a4 a5) (round_fault.f (k + 1) a0 a1 a2 a3 a4 a5) := by
 intro a0 a1 a2 a3 a4 a5 k
 unfold round_fault.f
 repeat' first
   | (with_reducible exact dyad_Cmp.mono _ _ _ _ _ _ _)
   | (with_reducible exact LeO.refl _)
   | (with_reducible exact LeO.none _)
   | (with_reducible refine LeO.ite ?_ ?_)
   | (with_reducible refine LeO.bind ?_ (fun _ => ?_))
   | exact dyad_Cmp.mono _ _ _ _ _ _ _
   | exact LeO.none _
   | refine LeO.ite ?_ ?_
   | refine LeO.bind ?_ (fun _ => ?_)
set_option maxHeartbeats 8000000 in
set_option maxRecDepth 100000 in
theorem round_fault.calls (k : Nat) (a5 : Bool) (a9 : Option Addr) (aa : Nat) (a3 : List Int) (a6 : Int) (a7 : Bool) (ab : Option Addr) (ac : Nat) (a4 : List Int) (a8 : Int) (r : Int) (w : World) (ao : Kd.C (Kd.int .u64) w a9 a3.length a3) (ap : a3.length ≤ aa) (aq : Kd.C (Kd.int .u64) w ab a4.length a4) (ar : a4.length ≤ ac) (hT : Laid w) (h : round_fault.f k a5 a3 a6 a7 a4 a8 = some r) :
  Calls Tryd.prog 49 #[.agg #[.bool a5, .slice a9 a3.length aa, .int .i64 a6, .bool a7, .slice ab a4.length ac, .int .i64 a8]] w fun e w' => e = .returned (.int .i64 r) ∧ Below w.heap.size w w' := by
 have hu49 := Tryd.underlying49;have hu25 := Tryd.underlying25;have ah := zA ao;have ai := zA ap;clear ao ap;have aj := zA aq;have ak := zA ar;clear aq ar;have HB := zA (Below.refl w.heap.size w);have H : ((dyad_Cmp.f k a5 a3 a6 a7 a4 a8).bind fun al => (if al.2 = 0 then (if al.1 > 0 then (some 2) else (some 0)) else (some al.2))) = some r := h;clear h;obtain ⟨⟨am, an⟩, A2, H⟩ := zh H;(try dsimp only at H)
 by_cases c3 : an = 0
 ·rw [if_pos c3] at H;have av := beq_iff_eq.mpr c3;have aw := bne_eq_false_iff_eq.mpr c3;clear c3
  by_cases c4 : am > 0
  ·rw [if_pos c4] at H;have ax := decide_eq_true c4;clear c4;obtain rfl := Option.some.inj H;go_enter Tryd.func49, Tryd.ntmps49
   go_wp2_with (first | ((with_reducible refine zD 1 rfl ?_); refine zn (N := 1) (cs := #[.bool a5, .slice a9 a3.length aa, .int .i64 a6, .bool a7, .slice ab a4.length ac, .int .i64 a8]) (t := 49) rfl rfl ?_; intro a2 hg w5 hbox hb; have a1 := zA (hbox); have au := zw hg; replace HB := ze hb; clear hb hbox hg; have aL : w5.cell? ⟨a2, 0, none⟩ = some (.bool a5) := (blk_cell a1.out 0).trans rfl; have aM : w5.cell? ⟨a2, 1, none⟩ = some (.slice a9 a3.length aa) := (blk_cell a1.out 1).trans rfl; have aN : w5.cell? ⟨a2, 2, none⟩ = some (.int .i64 a6) := (blk_cell a1.out 2).trans rfl; have aO : w5.cell? ⟨a2, 3, none⟩ = some (.bool a7) := (blk_cell a1.out 3).trans rfl; have aP : w5.cell? ⟨a2, 4, none⟩ = some (.slice ab a4.length ac) := (blk_cell a1.out 4).trans rfl; have aQ : w5.cell? ⟨a2, 5, none⟩ = some (.int .i64 a8) := (blk_cell a1.out 5).trans rfl; have aR := blk_frozen a1.out 0; have aS := blk_frozen a1.out 1; have aT := blk_frozen a1.out 2; have aU := blk_frozen a1.out 3; have aV := blk_frozen a1.out 4; have aW := blk_frozen a1.out 5) | ((with_reducible refine zG 87 rfl ?_); refine zL (some 10) rfl rfl Tryd.func87 #[.agg #[.bool a5, .slice a9 a3.length aa, .int .i64 a6], .agg #[.bool a7, .slice ab a4.length ac, .int .i64 a8]] rfl ?_; (with_reducible refine (dyad_Cmp.calls k a5 _ _ a3 a6 a7 _ _ a4 a8 am an _ ?ad ?ae ?af ?ag (laid_below hT zs) A2.out).mono ?_); (case ad => exact zk (C_below ah.out HB.out)); (case ae => exact ai.out); (case af => exact zk (C_below aj.out HB.out)); (case ag => exact ak.out); rintro e w7 ⟨rfl, hb⟩; refine ⟨_, rfl, ?_⟩; replace a1 := zb a1 hb; replace HB := zf hb))
   go_ret;exact ⟨er, zs⟩
  rw [if_neg c4] at H;have ax := decide_eq_false c4;clear c4;obtain rfl := Option.some.inj H;go_enter Tryd.func49, Tryd.ntmps49
  go_wp2_with (first | ((with_reducible refine zD 1 rfl ?_); refine zn (N := 1) (cs := #[.bool a5, .slice a9 a3.length aa, .int .i64 a6, .bool a7, .slice ab a4.length ac, .int .i64 a8]) (t := 49) rfl rfl ?_; intro a2 hg w8 hbox hb; have a1 := zA (hbox); have au := zw hg; replace HB := ze hb; clear hb hbox hg; have aX : w8.cell? ⟨a2, 0, none⟩ = some (.bool a5) := (blk_cell a1.out 0).trans rfl; have aY : w8.cell? ⟨a2, 1, none⟩ = some (.slice a9 a3.length aa) := (blk_cell a1.out 1).trans rfl; have az : w8.cell? ⟨a2, 2, none⟩ = some (.int .i64 a6) := (blk_cell a1.out 2).trans rfl; have aZ : w8.cell? ⟨a2, 3, none⟩ = some (.bool a7) := (blk_cell a1.out 3).trans rfl; have b1 : w8.cell? ⟨a2, 4, none⟩ = some (.slice ab a4.length ac) := (blk_cell a1.out 4).trans rfl; have b2 : w8.cell? ⟨a2, 5, none⟩ = some (.int .i64 a8) := (blk_cell a1.out 5).trans rfl; have b3 := blk_frozen a1.out 0; have b4 := blk_frozen a1.out 1; have b5 := blk_frozen a1.out 2; have b6 := blk_frozen a1.out 3; have b7 := blk_frozen a1.out 4; have b8 := blk_frozen a1.out 5) | ((with_reducible refine zG 87 rfl ?_); refine zL (some 10) rfl rfl Tryd.func87 #[.agg #[.bool a5, .slice a9 a3.length aa, .int .i64 a6], .agg #[.bool a7, .slice ab a4.length ac, .int .i64 a8]] rfl ?_; (with_reducible refine (dyad_Cmp.calls k a5 _ _ a3 a6 a7 _ _ a4 a8 am an _ ?ad ?ae ?af ?ag (laid_below hT zs) A2.out).mono ?_); (case ad => exact zk (C_below ah.out HB.out)); (case ae => exact ai.out); (case af => exact zk (C_below aj.out HB.out)); (case ag => exact ak.out); rintro e w10 ⟨rfl, hb⟩; refine ⟨_, rfl, ?_⟩; replace a1 := zb a1 hb; replace HB := zf hb))
  go_ret;exact ⟨er, zs⟩
 rw [if_neg c3] at H;have av := beq_eq_false_iff_ne.mpr c3;have aw := bne_iff_ne.mpr c3;obtain rfl := Option.some.inj H;go_enter Tryd.func49, Tryd.ntmps49
 go_wp2_with (first | ((with_reducible refine zD 1 rfl ?_); refine zn (N := 1) (cs := #[.bool a5, .slice a9 a3.length aa, .int .i64 a6, .bool a7, .slice ab a4.length ac, .int .i64 a8]) (t := 49) rfl rfl ?_; intro a2 hg w11 hbox hb; have a1 := zA (hbox); have au := zw hg; replace HB := ze hb; clear hb hbox hg; have ay : w11.cell? ⟨a2, 0, none⟩ = some (.bool a5) := (blk_cell a1.out 0).trans rfl; have aA : w11.cell? ⟨a2, 1, none⟩ = some (.slice a9 a3.length aa) := (blk_cell a1.out 1).trans rfl; have aB : w11.cell? ⟨a2, 2, none⟩ = some (.int .i64 a6) := (blk_cell a1.out 2).trans rfl; have aC : w11.cell? ⟨a2, 3, none⟩ = some (.bool a7) := (blk_cell a1.out 3).trans rfl; have aD : w11.cell? ⟨a2, 4, none⟩ = some (.slice ab a4.length ac) := (blk_cell a1.out 4).trans rfl; have aE : w11.cell? ⟨a2, 5, none⟩ = some (.int .i64 a8) := (blk_cell a1.out 5).trans rfl; have aF := blk_frozen a1.out 0; have aG := blk_frozen a1.out 1; have aH := blk_frozen a1.out 2; have aI := blk_frozen a1.out 3; have aJ := blk_frozen a1.out 4; have aK := blk_frozen a1.out 5) | ((with_reducible refine zG 87 rfl ?_); refine zL (some 10) rfl rfl Tryd.func87 #[.agg #[.bool a5, .slice a9 a3.length aa, .int .i64 a6], .agg #[.bool a7, .slice ab a4.length ac, .int .i64 a8]] rfl ?_; (with_reducible refine (dyad_Cmp.calls k a5 _ _ a3 a6 a7 _ _ a4 a8 am an _ ?ad ?ae ?af ?ag (laid_below hT zs) A2.out).mono ?_); (case ad => exact zk (C_below ah.out HB.out)); (case ae => exact ai.out); (case af => exact zk (C_below aj.out HB.out)); (case ag => exact ak.out); rintro e w13 ⟨rfl, hb⟩; refine ⟨_, rfl, ?_⟩; replace a1 := zb a1 hb; replace HB := zf hb))
 go_ret;exact ⟨er, zs⟩
def bits_amount.f (a0 : Int) : Option (Int) := some (Go.bits .andNot .u64 a0 9223372036854775808)
set_option maxHeartbeats 8000000 in
set_option maxRecDepth 100000 in
theorem bits_amount.calls (a0 : Int) (r : Int) (w : World) (h : bits_amount.f a0 = some r) :
  Calls Tryd.prog 48 #[.int .u64 a0] w fun e w' => e = .returned (.int .u64 r) ∧ Drawn0 w w' := by
 have H : (some (Go.bits .andNot .u64 a0 9223372036854775808)) = some r := h;clear h;obtain rfl := Option.some.inj H;go_enter Tryd.func48, Tryd.ntmps48
 go_wp2
 go_ret;exact ⟨by first | rfl | (simp; done) | (simp [*]; done), by repeat (first | exact Drawn0.refl _ | apply Drawn0.step)⟩
def bits_Abs.f (a0 : Int) : Option (Int) := (bits_amount.f a0).bind fun a1 => (some a1)
set_option maxHeartbeats 8000000 in
set_option maxRecDepth 100000 in
theorem bits_Abs.calls (a0 : Int) (r : Int) (w : World) (h : bits_Abs.f a0 = some r) :
  Calls Tryd.prog 51 #[.int .u64 a0] w fun e w' => e = .returned (.int .u64 r) ∧ Drawn0 w w' := by
 have H : ((bits_amount.f a0).bind fun a1 => (some a1)) = some r := h;clear h;obtain ⟨a1, A2, H⟩ := zh H;obtain rfl := Option.some.inj H;go_enter Tryd.func51, Tryd.ntmps51
 go_wp2_with (first | ((with_reducible refine zG 48 rfl ?_); refine zL (some 4) rfl rfl Tryd.func48 #[.int .u64 a0] rfl ?_; (with_reducible refine (bits_amount.calls a0 a1 _ A2.out).mono ?_); rintro e w' ⟨rfl, ⟨nd, rfl⟩⟩; refine ⟨_, rfl, ?_⟩))
 go_ret;exact ⟨by first | rfl | (simp; done) | (simp [*]; done), by repeat (first | exact Drawn0.refl _ | apply Drawn0.step)⟩
end Go.Proofs.YtnjfckadjklmfaaDoor.PAll
