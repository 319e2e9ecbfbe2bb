/- Printed functions, merged by a program of this session. -/
import Derived.Test.YtjnfipkbgmdpaaaGreatDoorXAlgScaledP16
namespace Go.Proofs.YtjnfipkbgmdpaaaGreatDoor.PAll
open Go.RowKit Go.Proofs.YtjnfipkbgmdpaaaGreatDoorW.PrintWords Go.Proofs.YtjnfipkbgmdpaaaGreatDoorW.PrintLast Go.Proofs.YtjnfipkbgmdpaaaGreatDoorW.PrintMore Go.Proofs.YtjnfipkbgmdpaaaGreatDoorW.PrintWords.Kd
attribute [local go_sem] max2_int min2_int max_two min_two max_three min_three max_four min_four   -- for this text's walks alone
set_option linter.unusedVariables false
set_option maxHeartbeats 8000000
set_option maxRecDepth 100000
set_option linter.unusedSimpArgs false
attribute [local go_sem] fld77_0 fld77_1 fld77_2 ext153 ext154
def Z01.l0 : Nat → List Int → Int → Option (Int)
 | 0, _, _ => none
 | k + 1, x0, x3 => (Z0U.f x0 x3).bind fun a1 => (if a1 = true then (some x3) else (Z01.l0 k x0 (wrap64 (x3 + 1))))
def Z01.f (k : Nat) (l0 : List Int) : Option (Int) := (ZG.f k l0).bind fun a1 => (if a1 = 0 then (some 0) else (Z01.l0 k l0 0))
theorem Z01.calls (k : Nat) (A0 : Option Addr) (c0 : Nat) (l0 : List Int) (r : Int) (w : World) (hr0 : Kd.C Zu w A0 l0.length l0) (hc0 : l0.length ≤ c0) (h : Z01.f k l0 = some r) :
  Calls Tryz.prog 94 #[.slice A0 l0.length c0] w fun e w' => e = .returned (.int .i64 r) ∧ Below w.heap.size w w' := by
 have a3 := zA hr0;have a4 := zA hc0;clear hr0 hc0;have HB := zA (Below.refl w.heap.size w);have H := h
 unfold Z01.f at H
 clear h;obtain ⟨a2, A2, H⟩ := zh H
 by_cases c3 : a2 = 0
 ·rw [if_pos c3] at H;have a5 := beq_iff_eq.mpr c3;have a6 := bne_eq_false_iff_eq.mpr c3;clear c3;obtain rfl := Option.some.inj H;go_enter Tryz.func94, Tryz.ntmps94
  go_wp2_with (first | ((with_reducible refine zG 47 rfl ?_); refine zC (some 5) Tryz.func47 (ZG.calls k _ _ l0 a2 _ (zk a3.out) (a4.out) A2.out) ?_; rintro e w4 ⟨rfl, hb⟩; refine ⟨_, rfl, ?_⟩; replace HB := ze hb))
  go_ret;exact ⟨er, bq⟩
 rw [if_neg c3] at H;have a5 := beq_eq_false_iff_ne.mpr c3;have a6 := bne_iff_ne.mpr c3;have H' := zA H;clear H;go_enter Tryz.func94, Tryz.ntmps94
 go_wp2_with (first | ((with_reducible refine zG 47 rfl ?_); refine zC (some 5) Tryz.func47 (ZG.calls k _ _ l0 a2 _ (zk a3.out) (a4.out) A2.out) ?_; rintro e w5 ⟨rfl, hb⟩; refine ⟨_, rfl, ?_⟩; replace HB := ze hb))
 go_loopg [3] k (fun kq v3 w' => ∃ (a1 : Int), v3 = .int .i64 a1 ∧ Aside0 (Z01.l0 kq l0 a1 = some r) ∧ Aside0 (kq ≤ k) ∧ Aside0 (Below w.heap.size w w'))
 case atStart => exact ⟨(0), zi, H', ⟨Nat.le_refl _⟩, ⟨bq⟩⟩
 case round =>
  clear H';obtain ⟨a1, rfl, HA, HK1, HB⟩ := hrel
  cases gk with
  | zero => exact absurd HA.out (by simp [Z01.l0])
  | succ k1 =>
   have H := HA.out;clear HA;simp only [Z01.l0] at H;obtain ⟨a7, A6, H⟩ := zh H
   by_cases c7 : a7 = true
   ·subst c7;rw [if_pos rfl] at H;obtain rfl := Option.some.inj H
    go_wp2_with (first | ((with_reducible refine zG 134 rfl ?_); refine zC (some 9) Tryz.func134 (Z0U.calls _ _ l0 a1 true _ (zk (C_below a3.out HB.out)) (a4.out) A6.out) ?_; rintro e w' ⟨rfl, ⟨nd, rfl⟩⟩; refine ⟨_, rfl, ?_⟩))
    go_ret;exact ⟨er, bq⟩
   replace c7 := Bool.eq_false_iff.mpr c7;subst c7;rw [if_neg (show ¬ (false = true) by decide)] at H;have H' := zA H;clear H
   go_wp2_with (first | ((with_reducible refine zG 134 rfl ?_); refine zC (some 9) Tryz.func134 (Z0U.calls _ _ l0 a1 false _ (zk (C_below a3.out HB.out)) (a4.out) A6.out) ?_; rintro e w' ⟨rfl, ⟨nd, rfl⟩⟩; refine ⟨_, rfl, ?_⟩))
   go_roundg k1
   case measure => have := HK1.out; omega
   case rel => exact ⟨(wrap64 (a1 + 1)), zi, H', ⟨by have := HK1.out; omega⟩, ⟨bq⟩⟩
def Z06.f (k : Nat) (a0 : Bool) (l1 : List Int) (a2 : Int) : Option (Bool × List Int × Int) := (Zh.f k l1).bind fun a1 => (if (a1.length : Int) = 0 then (some (false, ([] : List Int), 0)) else ((Z01.f k a1).bind fun a3 => ((Zk.f k a1 a3).bind fun a4 => (some (a0, a4.1, wrap64 (a2 + a3))))))
theorem Z06.calls (k : Nat) (a0 : Bool) (A1 : Option Addr) (c1 : Nat) (l1 : List Int) (a2 : Int) (r1 : Bool) (r2 : List Int) (r3 : Int) (w : World) (hr1 : Kd.C Zu w A1 l1.length l1) (hc1 : l1.length ≤ c1) (h : Z06.f k a0 l1 a2 = some (r1, r2, r3)) :
  Calls Tryz.prog 56 #[.bool a0, .slice A1 l1.length c1, .int .i64 a2] w fun e w' => ∃ v1_ : Value, e = .returned (.agg #[.bool r1, v1_, .int .i64 r3]) ∧ Kd.R Zu 22 w' w.heap.size (fun _ => True) v1_ r2 ∧ Below w.heap.size w w' := by
 have hu34 := Tryz.underlying34;have am := zA hr1;have an := zA hc1;clear hr1 hc1;have HB := zA (Below.refl w.heap.size w);have H := h
 unfold Z06.f at H
 clear h;obtain ⟨a5, A4, H⟩ := zh H
 by_cases c5 : (a5.length : Int) = 0
 rw [if_pos c5] at H;have ac := beq_iff_eq.mpr c5;have ad := bne_eq_false_iff_eq.mpr c5;clear c5;rotate_left;rw [if_neg c5] at H;have ac := beq_eq_false_iff_ne.mpr c5;have ad := bne_iff_ne.mpr c5
 have aB : ¬ (a5 = []) := fun h_ => c5 (by rw [h_]; rfl)
 obtain ⟨a6, ao, H⟩ := zh H;obtain ⟨⟨a7, ae⟩, ap, H⟩ := zh H;(try dsimp only at H);rotate_left
 all_goals
  simp only [Option.some.injEq, Prod.mk.injEq] at H;obtain ⟨rfl, rfl, rfl⟩ := H;go_enter Tryz.func56, Tryz.ntmps56
  go_wp2_with (first | ((with_reducible refine zD 6 rfl ?_); refine zn (N := 6) (cs := #[.bool false, .slice none 0 0, .int .i64 0]) (t := 34) rfl rfl ?_; intro a4 hg w6 hbox hb; have a1 := zA (hbox); have aA := zw hg; replace HB := ze hb; clear hb hbox hg) | ((with_reducible refine zG 57 rfl ?_); refine zC (some 12) Tryz.func57 (Zh.calls k _ _ l1 a5 _ (zk (C_below am.out HB.out)) (an.out) A4.out) ?_; rintro e w7 ⟨v668, rfl, a8, hb⟩; refine ⟨_, rfl, ?_⟩; have a3 := zA (R_lower a8 (below_size zs)); replace a1 := zb a1 hb; replace HB := zf hb; obtain ⟨aC, aD, aq⟩ := R_slice a3.out; subst aq; (try (obtain ⟨ar, au, av, aw, ax, ay⟩ := zc a1))) | ((with_reducible refine zG 94 rfl ?_); refine zC (some 18) Tryz.func94 (Z01.calls k _ _ a5 a6 _ (zk (R_reads' a3.out).2.2) ((R_reads' a3.out).2.1) ao.out) ?_; rintro e w15 ⟨rfl, hb⟩; refine ⟨_, rfl, ?_⟩; replace a3 := zA (R_below (ru a3.out) hb); replace a1 := zb a1 hb; replace HB := zf hb) | ((with_reducible refine zG 67 rfl ?_); refine zC (some 22) Tryz.func67 (Zk.calls k _ _ a5 a6 a7 ae _ (zk (R_reads' a3.out).2.2) ((R_reads' a3.out).2.1) ap.out) ?_; rintro e w16 ⟨v673, rfl, a8, hb⟩; refine ⟨_, rfl, ?_⟩; have a9 := zA (R_lower (R_new' a8 (R_lt (ru a3.out))) (below_size zs)); replace a3 := zA (R_elder' (ru a3.out) (R_base a8) hb); replace a1 := zb a1 hb; replace HB := zf hb; obtain ⟨aa, ab, af⟩ := R_slice a9.out; subst af; obtain ⟨ag, ah, ai, aj, ak, al⟩ := zc a1))
 ·refine bodyPost_ret (results_cell_row rfl _ _ a4 34 #[.bool false, .slice none 0 0, .int .i64 0] (0, 0) _ rfl (zy a1) Tryz.underlying34 rfl (by kernel_rfl)) rfl ?_;exact ⟨_, er, by first | exact R_nil _ _ _ _ _ | exact Kd.N_nil _ _ _ _ _ | exact V_nil _ _ _ _ _ | exact Kd.Q_nil _ _ _ _ _ | exact Kd.S_nil _ _ _ _ _, zs⟩
 refine bodyPost_ret (results_cell_row rfl _ _ a4 34 #[.bool a0, .slice aa a7.length ab, .int .i64 (wrap64 (a2 + a6))] (0, 0) _ rfl (zy a1) Tryz.underlying34 rfl (by kernel_rfl)) rfl ?_;exact ⟨_, er, ru (R_mono (R_far (p := ⟨a4, 2, none⟩) (R_far (p := ⟨a4, 1, none⟩) (R_far (p := ⟨a4, 0, none⟩) (R_types a9.out a1.out (by decide)) (fun _ hk => hk.2) (.bool a0)) (fun _ hk => hk.2) (.slice aa a7.length ab)) (fun _ hk => hk.2) (.int .i64 (wrap64 (a2 + a6)))) (fun _ hk => trivial)), zs⟩
def ZM.f (k : Nat) (a0 : Int) : Option (Bool × List Int × Int × Int) := (Z0q.f a0).bind fun a4 => (if a4 = true then ((Z0I.f a0).bind fun a1 => (if a1.2.1 > 0 then ((Z0D.f k (IntKind.u64.wrap (a1.2.2 + 4503599627370496))).bind fun a5 => ((Z06.f k a1.1 a5 (wrap64 (a1.2.1 - 1075))).bind fun a2 => (some (a2.1, a2.2.1, a2.2.2, 0)))) else ((Z0D.f k a1.2.2).bind fun a6 => ((Z06.f k a1.1 a6 (-1074)).bind fun a3 => (some (a3.1, a3.2.1, a3.2.2, 0)))))) else (some (false, ([] : List Int), 0, 5)))
def ZM.T9 : Bool × List (List Nat × List Nat) := (true, [([], []), ([0], [0]), ([], []), ([2], [2]), ([], []), ([1, 3, 4, 3], [1, 3, 4]), ([5, 5, 0, 1, 2, 3, 4, 5], [5]), ([6, 0, 1, 2, 3, 4, 5, 6], [])])
def ZM.B9 : List Nat := [0, 1, 0, 4, 0, 31, 63, 127]
theorem ZM.tab9 : rtab .any (opsOf Tryz.f16 9) = ZM.T9 := by kernel_rfl
theorem ZM.bits9 : waitsOk ZM.T9.2 ZM.B9 = true := by kernel_rfl
theorem ZM.calls (k : Nat) (a0 : Int) (r1 : Bool) (r2 : List Int) (r3 : Int) (r4 : Int) (w : World) (h : ZM.f k a0 = some (r1, r2, r3, r4)) :
  Calls Tryz.prog 16 #[.int .u64 a0] w fun e w' => ∃ v1_ : Value, e = .returned (.tuple #[.agg #[.bool r1, v1_, .int .i64 r3], .int .i64 r4]) ∧ Kd.R Zu 22 w' w.heap.size (fun _ => True) v1_ r2 ∧ Below w.heap.size w w' := by
 have hu34 := Tryz.underlying34;have hu77 := Tryz.underlying77;have HB := zA (Below.refl w.heap.size w);have H := h
 unfold ZM.f at H
 clear h;obtain ⟨ax, A2, H⟩ := zh H
 by_cases c3 : ax = true
 ·subst c3;rw [if_pos rfl] at H;obtain ⟨⟨a7, a9, a8⟩, A4, H⟩ := zh H;(try dsimp only at H)
  by_cases c5 : a9 > 0
  ·rw [if_pos c5] at H;have ay := decide_eq_true c5;clear c5;obtain ⟨af, A6, H⟩ := zh H;obtain ⟨⟨ak, al, am⟩, A7, H⟩ := zh H;(try dsimp only at H);simp only [Option.some.injEq, Prod.mk.injEq] at H;obtain ⟨rfl, rfl, rfl, rfl⟩ := H;go_enter Tryz.func16, Tryz.ntmps16
   try go_wp2_with (first | ((with_reducible refine zD 2 rfl ?_); refine zn (N := 2) (cs := #[.bool false, .slice none 0 0, .int .i64 0]) (t := 34) rfl rfl ?_; intro a3 hg w8 hbox hb; have a1 := zA (hbox); have ah := zw hg; replace HB := ze hb; clear hb hbox hg) | ((with_reducible refine zG 54 rfl ?_); refine zC (some 8) Tryz.func54 (Z0q.calls a0 true _ A2.out) ?_; rintro e w' ⟨rfl, ⟨nd, rfl⟩⟩; refine ⟨_, rfl, ?_⟩; (try (rw [drewN_self w8]; generalize hq_ : World.drewN w8 _ = w8; have n0_ : Aside0 (w8.heap[a3]? = some (.cells #[.bool false, .slice none 0 0, .int .i64 0] 34 (0, 0))) := ⟨by rw [← hq_]; exact (zu a1)⟩; have n1_ : Aside0 (Below w.heap.size w w8) := ⟨by rw [← hq_]; exact zs⟩; clear a1 HB hq_; have a1 := n0_; have HB := n1_; clear n0_ n1_))) | ((with_reducible refine zG 55 rfl ?_); refine zC (some 12) Tryz.func55 (Z0I.calls a0 a7 a9 a8 _ A4.out) ?_; rintro e w9 ⟨rfl, hb⟩; refine ⟨_, rfl, ?_⟩; replace a1 := zb a1 hb; replace HB := zf hb) | ((with_reducible refine zD 4 rfl ?_); refine zn (N := 4) (cs := #[.bool false, .int .i64 0, .int .u64 0]) (t := 77) rfl rfl ?_; intro a4 hg w10 hbox hb; have a6 := zA (hbox); have aw := zx hg; replace HB := zf hb; have a5 := zl a1 hg; have a2 := zg a1 hg; replace a1 := zb a1 hb; clear hb hbox hg; have b8 := a2.out; have b9 := a5.out; obtain ⟨aI, aJ, aK, aL, aM, aN⟩ := zc a6))
   have n0_ : Aside0 ((((w10.setCell ⟨a4, 0, none⟩ (.bool a7)).setCell ⟨a4, 1, none⟩ (.int .i64 a9)).setCell ⟨a4, 2, none⟩ (.int .u64 a8)).heap[a3]? = some (.cells #[.bool false, .slice none 0 0, .int .i64 0] 34 (0, 0))) := ⟨by (with_reducible repeat (first | refine blk_drewN ?_ _ | refine blk_drew ?_ | refine blk_alloc ?_ _)); refine blk_far ?_ a5.out _; refine blk_far ?_ a5.out _; refine blk_far ?_ a5.out _; exact a1.out⟩;have n1_ : Aside0 ((((w10.setCell ⟨a4, 0, none⟩ (.bool a7)).setCell ⟨a4, 1, none⟩ (.int .i64 a9)).setCell ⟨a4, 2, none⟩ (.int .u64 a8)).heap[a4]? = some (.cells #[.bool a7, .int .i64 a9, .int .u64 a8] 77 (0, 0))) := ⟨by (with_reducible repeat (first | refine blk_drewN ?_ _ | refine blk_drew ?_ | refine blk_alloc ?_ _)); exact zp (zu a6)⟩;have n2_ : Aside0 (Below w.heap.size w (((w10.setCell ⟨a4, 0, none⟩ (.bool a7)).setCell ⟨a4, 1, none⟩ (.int .i64 a9)).setCell ⟨a4, 2, none⟩ (.int .u64 a8))) := ⟨zs⟩;generalize (((w10.setCell ⟨a4, 0, none⟩ (.bool a7)).setCell ⟨a4, 1, none⟩ (.int .i64 a9)).setCell ⟨a4, 2, none⟩ (.int .u64 a8)) = w13 at n0_ n1_ n2_ ⊢;have a1 := n0_;have a6 := n1_;have HB := n2_;clear n0_ n1_ n2_;replace a1 := zA (blk_drew a1.out);replace a6 := zA (blk_drew a6.out);replace HB := zA (below_drew1 HB.out);refine start_ (n := 8) (S := fun w' => z3 w' a4 (.bool a7) (.int .i64 a9) (.int .u64 a8)) (ds := []) #[O, O, O, O, O, O, O, O] (by kernel_rfl) rfl rfl (zz a6) (fun hHeld => ?_); refine with_tabW ZM.tab9 ZM.bits9 (fun HT_ HW_ => ?_);generalize w13.drew = w14 at a1 a6 HB hHeld ⊢;refine zP 0 23 #[I, O, O, O, O, O, O, O] ?_;refine zP 2 25 #[I, O, I, O, O, O, O, O] ?_;refine zP 4 27 #[I, O, I, O, I, O, O, O] ?_;refine zT 1 24 #[I, I, I, O, I, O, O, O] ?_;refine one_ (i := 3) (N := some 26) #[I, I, I, I, I, O, O, O] rfl rfl (one_of HT_.out (by kernel_rfl)) (by decide) (fun K hK => ?_);refine goes_ Tryz.func50 (by kernel_rfl) rfl #[.int .u64 (IntKind.u64.wrap (a8 + 4503599627370496))] (by rfl) rfl rfl ga ?_
   with_reducible refine (Z0D.calls k (IntKind.u64.wrap (a8 + 4503599627370496)) af _ A6.out).mono ?_
   rintro e w15 ⟨v682, rfl, ac, hb⟩;refine ⟨_, rfl, ?_⟩;have aa := zA (R_lower ac (below_size zs));replace a1 := zb a1 hb;replace a6 := zb a6 hb;replace HB := zf hb;obtain ⟨aA, aB, an⟩ := R_slice aa.out
   (first | subst an | (injection an with f1_ f2_ f3_; have f4_ := f1_.symm; have f5_ := f3_.symm; clear f1_ f2_ f3_; subst f4_; subst f5_))
   refine hK.out _ _ (zz a6) (fun hHeld => ?_);clear hK K;refine norm_ (a' := ?_) ?_ ?_;rotate_left;·show Act.put _ (some 26) _ = _;exact zq
   refine one_ (i := 5) (N := some 28) #[I, I, I, I, I, I, O, O] rfl rfl (one_of HT_.out (by kernel_rfl)) (by decide) (fun K hK => ?_);refine goes_ Tryz.func56 (by kernel_rfl) rfl #[.bool a7, .slice aA af.length aB, .int .i64 (wrap64 (a9 - 1075))] (by rfl) rfl rfl ga ?_
   with_reducible refine (Z06.calls k a7 _ _ af (wrap64 (a9 - 1075)) ak al am _ ?ad ?ae A7.out).mono ?_
   (case ad => exact zk (R_reads' aa.out).2.2);(case ae => exact (R_reads' aa.out).2.1);rintro e w17 ⟨v686, rfl, ac, hb⟩;refine ⟨_, rfl, ?_⟩;have ai := zA (R_lower (R_new' ac (R_lt (ru aa.out))) (below_size zs));replace aa := zA (R_elder' (ru aa.out) (R_base ac) hb);replace a1 := zb a1 hb;replace a6 := zb a6 hb;replace HB := zf hb;obtain ⟨aC, aD, ao⟩ := R_slice ai.out
   (first | subst ao | (injection ao with f1_ f2_ f3_; have f4_ := f1_.symm; have f5_ := f3_.symm; clear f1_ f2_ f3_; subst f4_; subst f5_))
   refine hK.out _ _ (zz a6) (fun hHeld => ?_);clear hK K;refine norm_ (a' := ?_) ?_ ?_;rotate_left;·show Act.put _ (some 28) _ = _;exact zq
   refine one_ (i := 6) (N := none) #[I, I, I, I, I, I, I, O] rfl rfl (one_of HT_.out (by kernel_rfl)) (by decide) (fun K hK => ?_);have hs18 := zM0 a1;have hfs18 := blk_frozen a1.out 0;have aO := a2.out;have aP := a5.out;have hs20 := zM1 a1;have hfs20 := blk_frozen a1.out 1;have aQ := a2.out;have aR := a5.out;have hs21 := zM2 a1;have hfs21 := blk_frozen a1.out 2;have aS := a2.out;have aT := a5.out;refine skip_ (w1 := ?_) (by rfl) rfl ?_ ?_;rotate_left;·go_simp;rfl
   refine hK.out _ _ ⟨((cell_far (p := ⟨a3, _, none⟩) a2.out _).trans (((cell_far (p := ⟨a3, _, none⟩) a2.out _).trans (((cell_far (p := ⟨a3, _, none⟩) a2.out _).trans (hHeld.1)))))), ((cell_far (p := ⟨a3, _, none⟩) a2.out _).trans (((cell_far (p := ⟨a3, _, none⟩) a2.out _).trans (((cell_far (p := ⟨a3, _, none⟩) a2.out _).trans (hHeld.2.1)))))), ((cell_far (p := ⟨a3, _, none⟩) a2.out _).trans (((cell_far (p := ⟨a3, _, none⟩) a2.out _).trans (((cell_far (p := ⟨a3, _, none⟩) a2.out _).trans (hHeld.2.2))))))⟩ (fun hHeld => ?_);clear hK K;refine zP 7 3 #[I, I, I, I, I, I, I, I] ?_;refine done_ (done_of HT_.out (by kernel_rfl)) ?_
   try go_wp2
   refine bodyPost_ret (results_ct rfl _ _ a3 34 #[.bool ak, .slice aC al.length aD, .int .i64 am] (0, 0) _ rfl (zy a1) Tryz.underlying34 rfl (by kernel_rfl)) rfl ?_;exact ⟨_, er, ru (R_mono (zr a3 (R_types ai.out a1.out (by decide)) (fun _ hk => hk.2) _ _ _) (fun _ hk => trivial)), zs⟩
  rw [if_neg c5] at H;have ay := decide_eq_false c5;clear c5;obtain ⟨ag, b6, H⟩ := zh H;obtain ⟨⟨ap, aq, ar⟩, b7, H⟩ := zh H;(try dsimp only at H);simp only [Option.some.injEq, Prod.mk.injEq] at H;obtain ⟨rfl, rfl, rfl, rfl⟩ := H;go_enter Tryz.func16, Tryz.ntmps16
  try go_wp2_with (first | ((with_reducible refine zD 2 rfl ?_); refine zn (N := 2) (cs := #[.bool false, .slice none 0 0, .int .i64 0]) (t := 34) rfl rfl ?_; intro a3 hg w24 hbox hb; have a1 := zA (hbox); have ah := zw hg; replace HB := ze hb; clear hb hbox hg) | ((with_reducible refine zG 54 rfl ?_); refine zC (some 8) Tryz.func54 (Z0q.calls a0 true _ A2.out) ?_; rintro e w' ⟨rfl, ⟨nd, rfl⟩⟩; refine ⟨_, rfl, ?_⟩; (try (rw [drewN_self w24]; generalize hq_ : World.drewN w24 _ = w24; have n0_ : Aside0 (w24.heap[a3]? = some (.cells #[.bool false, .slice none 0 0, .int .i64 0] 34 (0, 0))) := ⟨by rw [← hq_]; exact (zu a1)⟩; have n1_ : Aside0 (Below w.heap.size w w24) := ⟨by rw [← hq_]; exact zs⟩; clear a1 HB hq_; have a1 := n0_; have HB := n1_; clear n0_ n1_))) | ((with_reducible refine zG 55 rfl ?_); refine zC (some 12) Tryz.func55 (Z0I.calls a0 a7 a9 a8 _ A4.out) ?_; rintro e w25 ⟨rfl, hb⟩; refine ⟨_, rfl, ?_⟩; replace a1 := zb a1 hb; replace HB := zf hb) | ((with_reducible refine zD 4 rfl ?_); refine zn (N := 4) (cs := #[.bool false, .int .i64 0, .int .u64 0]) (t := 77) rfl rfl ?_; intro a4 hg w26 hbox hb; have a6 := zA (hbox); have aw := zx hg; replace HB := zf hb; have a5 := zl a1 hg; have a2 := zg a1 hg; replace a1 := zb a1 hb; clear hb hbox hg; have ba := a2.out; have bb := a5.out; obtain ⟨aU, aV, aW, aX, aY, az⟩ := zc a6))
  have n0_ : Aside0 ((((w26.setCell ⟨a4, 0, none⟩ (.bool a7)).setCell ⟨a4, 1, none⟩ (.int .i64 a9)).setCell ⟨a4, 2, none⟩ (.int .u64 a8)).heap[a3]? = some (.cells #[.bool false, .slice none 0 0, .int .i64 0] 34 (0, 0))) := ⟨by (with_reducible repeat (first | refine blk_drewN ?_ _ | refine blk_drew ?_ | refine blk_alloc ?_ _)); refine blk_far ?_ a5.out _; refine blk_far ?_ a5.out _; refine blk_far ?_ a5.out _; exact a1.out⟩;have n1_ : Aside0 ((((w26.setCell ⟨a4, 0, none⟩ (.bool a7)).setCell ⟨a4, 1, none⟩ (.int .i64 a9)).setCell ⟨a4, 2, none⟩ (.int .u64 a8)).heap[a4]? = some (.cells #[.bool a7, .int .i64 a9, .int .u64 a8] 77 (0, 0))) := ⟨by (with_reducible repeat (first | refine blk_drewN ?_ _ | refine blk_drew ?_ | refine blk_alloc ?_ _)); exact zp (zu a6)⟩;have n2_ : Aside0 (Below w.heap.size w (((w26.setCell ⟨a4, 0, none⟩ (.bool a7)).setCell ⟨a4, 1, none⟩ (.int .i64 a9)).setCell ⟨a4, 2, none⟩ (.int .u64 a8))) := ⟨zs⟩;generalize (((w26.setCell ⟨a4, 0, none⟩ (.bool a7)).setCell ⟨a4, 1, none⟩ (.int .i64 a9)).setCell ⟨a4, 2, none⟩ (.int .u64 a8)) = w29 at n0_ n1_ n2_ ⊢;have a1 := n0_;have a6 := n1_;have HB := n2_;clear n0_ n1_ n2_;replace a1 := zA (blk_drew a1.out);replace a6 := zA (blk_drew a6.out);replace HB := zA (below_drew1 HB.out);refine start_ (n := 8) (S := fun w' => z3 w' a4 (.bool a7) (.int .i64 a9) (.int .u64 a8)) (ds := []) #[O, O, O, O, O, O, O, O] (by kernel_rfl) rfl rfl (zz a6) (fun hHeld => ?_); refine with_tabW ZM.tab9 ZM.bits9 (fun HT_ HW_ => ?_);generalize w29.drew = w30 at a1 a6 HB hHeld ⊢;refine zP 0 23 #[I, O, O, O, O, O, O, O] ?_;refine zP 2 25 #[I, O, I, O, O, O, O, O] ?_;refine zP 4 27 #[I, O, I, O, I, O, O, O] ?_;refine zT 1 24 #[I, I, I, O, I, O, O, O] ?_;refine one_ (i := 3) (N := some 26) #[I, I, I, I, I, O, O, O] rfl rfl (one_of HT_.out (by kernel_rfl)) (by decide) (fun K hK => ?_);refine goes_ Tryz.func50 (by kernel_rfl) rfl #[.int .u64 a8] (by rfl) rfl rfl ga ?_
  with_reducible refine (Z0D.calls k a8 ag _ b6.out).mono ?_
  rintro e w31 ⟨v690, rfl, ac, hb⟩;refine ⟨_, rfl, ?_⟩;have ab := zA (R_lower ac (below_size zs));replace a1 := zb a1 hb;replace a6 := zb a6 hb;replace HB := zf hb;obtain ⟨aE, aF, au⟩ := R_slice ab.out
  (first | subst au | (injection au with f1_ f2_ f3_; have f4_ := f1_.symm; have f5_ := f3_.symm; clear f1_ f2_ f3_; subst f4_; subst f5_))
  refine hK.out _ _ (zz a6) (fun hHeld => ?_);clear hK K;refine norm_ (a' := ?_) ?_ ?_;rotate_left;·show Act.put _ (some 26) _ = _;exact zq
  refine one_ (i := 5) (N := some 28) #[I, I, I, I, I, I, O, O] rfl rfl (one_of HT_.out (by kernel_rfl)) (by decide) (fun K hK => ?_);refine goes_ Tryz.func56 (by kernel_rfl) rfl #[.bool a7, .slice aE ag.length aF, .int .i64 (-1074)] (by rfl) rfl rfl ga ?_
  with_reducible refine (Z06.calls k a7 _ _ ag (-1074) ap aq ar _ ?ad ?ae b7.out).mono ?_
  (case ad => exact zk (R_reads' ab.out).2.2);(case ae => exact (R_reads' ab.out).2.1);rintro e w33 ⟨v694, rfl, ac, hb⟩;refine ⟨_, rfl, ?_⟩;have aj := zA (R_lower (R_new' ac (R_lt (ru ab.out))) (below_size zs));replace ab := zA (R_elder' (ru ab.out) (R_base ac) hb);replace a1 := zb a1 hb;replace a6 := zb a6 hb;replace HB := zf hb;obtain ⟨aG, aH, av⟩ := R_slice aj.out
  (first | subst av | (injection av with f1_ f2_ f3_; have f4_ := f1_.symm; have f5_ := f3_.symm; clear f1_ f2_ f3_; subst f4_; subst f5_))
  refine hK.out _ _ (zz a6) (fun hHeld => ?_);clear hK K;refine norm_ (a' := ?_) ?_ ?_;rotate_left;·show Act.put _ (some 28) _ = _;exact zq
  refine one_ (i := 6) (N := none) #[I, I, I, I, I, I, I, O] rfl rfl (one_of HT_.out (by kernel_rfl)) (by decide) (fun K hK => ?_);have hs34 := zM0 a1;have hfs34 := blk_frozen a1.out 0;have aZ := a2.out;have b1 := a5.out;have hs36 := zM1 a1;have hfs36 := blk_frozen a1.out 1;have b2 := a2.out;have b3 := a5.out;have hs37 := zM2 a1;have hfs37 := blk_frozen a1.out 2;have b4 := a2.out;have b5 := a5.out;refine skip_ (w1 := ?_) (by rfl) rfl ?_ ?_;rotate_left;·go_simp;rfl
  refine hK.out _ _ ⟨((cell_far (p := ⟨a3, _, none⟩) a2.out _).trans (((cell_far (p := ⟨a3, _, none⟩) a2.out _).trans (((cell_far (p := ⟨a3, _, none⟩) a2.out _).trans (hHeld.1)))))), ((cell_far (p := ⟨a3, _, none⟩) a2.out _).trans (((cell_far (p := ⟨a3, _, none⟩) a2.out _).trans (((cell_far (p := ⟨a3, _, none⟩) a2.out _).trans (hHeld.2.1)))))), ((cell_far (p := ⟨a3, _, none⟩) a2.out _).trans (((cell_far (p := ⟨a3, _, none⟩) a2.out _).trans (((cell_far (p := ⟨a3, _, none⟩) a2.out _).trans (hHeld.2.2))))))⟩ (fun hHeld => ?_);clear hK K;refine zP 7 3 #[I, I, I, I, I, I, I, I] ?_;refine done_ (done_of HT_.out (by kernel_rfl)) ?_
  try go_wp2
  refine bodyPost_ret (results_ct rfl _ _ a3 34 #[.bool ap, .slice aG aq.length aH, .int .i64 ar] (0, 0) _ rfl (zy a1) Tryz.underlying34 rfl (by kernel_rfl)) rfl ?_;exact ⟨_, er, ru (R_mono (zr a3 (R_types aj.out a1.out (by decide)) (fun _ hk => hk.2) _ _ _) (fun _ hk => trivial)), zs⟩
 replace c3 := Bool.eq_false_iff.mpr c3;subst c3;rw [if_neg (show ¬ (false = true) by decide)] at H;simp only [Option.some.injEq, Prod.mk.injEq] at H;obtain ⟨rfl, rfl, rfl, rfl⟩ := H;go_enter Tryz.func16, Tryz.ntmps16
 go_wp2_with (first | ((with_reducible refine zD 2 rfl ?_); refine zn (N := 2) (cs := #[.bool false, .slice none 0 0, .int .i64 0]) (t := 34) rfl rfl ?_; intro a3 hg w38 hbox hb; have a1 := zA (hbox); have ah := zw hg; replace HB := ze hb; clear hb hbox hg) | ((with_reducible refine zG 54 rfl ?_); refine zC (some 8) Tryz.func54 (Z0q.calls a0 false _ A2.out) ?_; rintro e w' ⟨rfl, ⟨nd, rfl⟩⟩; refine ⟨_, rfl, ?_⟩; (try (rw [drewN_self w38]; generalize hq_ : World.drewN w38 _ = w38; have n0_ : Aside0 (w38.heap[a3]? = some (.cells #[.bool false, .slice none 0 0, .int .i64 0] 34 (0, 0))) := ⟨by rw [← hq_]; exact (zu a1)⟩; have n1_ : Aside0 (Below w.heap.size w w38) := ⟨by rw [← hq_]; exact zs⟩; clear a1 HB hq_; have a1 := n0_; have HB := n1_; clear n0_ n1_)); obtain ⟨_, _, _, _, _, _⟩ := zc a1))
 refine bodyPost_ret (results_ct rfl _ _ a3 34 #[.bool false, .slice none 0 0, .int .i64 0] (0, 0) _ rfl (zy a1) Tryz.underlying34 rfl (by kernel_rfl)) rfl ?_;exact ⟨_, er, by first | exact R_nil _ _ _ _ _ | exact Kd.N_nil _ _ _ _ _ | exact V_nil _ _ _ _ _ | exact Kd.Q_nil _ _ _ _ _ | exact Kd.S_nil _ _ _ _ _, zs⟩
def ZB.j0 : Nat → Int → Int → Bool → Option (Int)
 | 0, _, _, _ => none
 | k + 1, x3, x4, x10 => if x10 = true then (some 1) else (if x3 = 0 then (some 2) else (if x3 < 2047 then (some 3) else (if x4 = 0 then (some 4) else (if x4 ≥ 2251799813685248 then (some 5) else (some 6)))))
def ZB.f (k : Nat) (a0 : Int) : Option (Int) := if (Int.tmod (IntKind.u64.wrap (Int.tdiv a0 4503599627370496)) 2048) = 0 then (ZB.j0 k (Int.tmod (IntKind.u64.wrap (Int.tdiv a0 4503599627370496)) 2048) (Int.tmod a0 4503599627370496) ((Int.tmod a0 4503599627370496) == 0)) else (ZB.j0 k (Int.tmod (IntKind.u64.wrap (Int.tdiv a0 4503599627370496)) 2048) (Int.tmod a0 4503599627370496) false)
theorem ZB.calls (k : Nat) (a0 : Int) (r : Int) (w : World) (h : ZB.f k a0 = some r) :
  Calls Tryz.prog 38 #[.int .u64 a0] w fun e w' => e = .returned (.int .u8 r) ∧ Drawn0 w w' := by
 have H := h
 unfold ZB.f at H
 clear h;have a3 := zA H;clear H;go_enter Tryz.func38, Tryz.ntmps38
 go_upto_region 2 with (fail)
 go_cut [10] (fun v10 wc => ∃ (kq : Nat) (a1 : Bool), v10 = .bool a1 ∧ Aside0 (ZB.j0 kq (Int.tmod (IntKind.u64.wrap (Int.tdiv a0 4503599627370496)) 2048) (Int.tmod a0 4503599627370496) a1 = some r) ∧ Aside0 (kq ≤ k) ∧ Drawn0 w wc)
 case first =>
  have H := a3.out;clear a3
  by_cases c3 : (Int.tmod (IntKind.u64.wrap (Int.tdiv a0 4503599627370496)) 2048) = 0
  ·rw [if_pos c3] at H;have a2 := beq_iff_eq.mpr c3;have a4 := bne_eq_false_iff_eq.mpr c3;clear c3
   (first | rw [a2] | (simp only [i64_w, i32_w]; rw [a2]) | skip)
   have H' := zA H;clear H
   go_wp2
   go_meet
   case rel => exact ⟨_, (((Int.tmod a0 4503599627370496) == 0)), zi, H', ⟨by first | omega | exact Nat.le_refl _⟩, by repeat (first | exact Drawn0.refl _ | apply Drawn0.step)⟩
  rw [if_neg c3] at H;have a2 := beq_eq_false_iff_ne.mpr c3;have a4 := bne_iff_ne.mpr c3
  (first | rw [a2] | (simp only [i64_w, i32_w]; rw [a2]) | skip)
  have H' := zA H;clear H
  go_wp2
  go_meet
  case rel => exact ⟨_, (false), zi, H', ⟨by first | omega | exact Nat.le_refl _⟩, by repeat (first | exact Drawn0.refl _ | apply Drawn0.step)⟩
 case rest =>
  clear a3;obtain ⟨kq, a1, rfl, HA, ab, ⟨mc1, rfl⟩⟩ := hcut
  cases kq with
  | zero => exact absurd HA.out (by simp [ZB.j0])
  | succ ac =>
   have H := HA.out;clear HA;simp only [ZB.j0] at H
   by_cases c4 : a1 = true
   ·subst c4;rw [if_pos rfl] at H;obtain rfl := Option.some.inj H
    go_wp2
    go_ret;exact ⟨by first | rfl | (simp; done) | (simp [*]; done), by repeat (first | exact Drawn0.refl _ | apply Drawn0.step)⟩
   replace c4 := Bool.eq_false_iff.mpr c4;subst c4;rw [if_neg (show ¬ (false = true) by decide)] at H
   by_cases c5 : (Int.tmod (IntKind.u64.wrap (Int.tdiv a0 4503599627370496)) 2048) = 0
   ·rw [if_pos c5] at H;have a5 := beq_iff_eq.mpr c5;have a6 := bne_eq_false_iff_eq.mpr c5;clear c5;obtain rfl := Option.some.inj H
    go_wp2
    go_ret;exact ⟨by first | rfl | (simp; done) | (simp [*]; done), by repeat (first | exact Drawn0.refl _ | apply Drawn0.step)⟩
   rw [if_neg c5] at H;have a5 := beq_eq_false_iff_ne.mpr c5;have a6 := bne_iff_ne.mpr c5
   by_cases c6 : (Int.tmod (IntKind.u64.wrap (Int.tdiv a0 4503599627370496)) 2048) < 2047
   ·rw [if_pos c6] at H;have a7 := decide_eq_true c6;clear c6;obtain rfl := Option.some.inj H
    go_wp2
    go_ret;exact ⟨by first | rfl | (simp; done) | (simp [*]; done), by repeat (first | exact Drawn0.refl _ | apply Drawn0.step)⟩
   rw [if_neg c6] at H;have a7 := decide_eq_false c6;clear c6
   by_cases c7 : (Int.tmod a0 4503599627370496) = 0
   ·rw [if_pos c7] at H;have a8 := beq_iff_eq.mpr c7;have a9 := bne_eq_false_iff_eq.mpr c7;clear c7;obtain rfl := Option.some.inj H
    go_wp2
    go_ret;exact ⟨by first | rfl | (simp; done) | (simp [*]; done), by repeat (first | exact Drawn0.refl _ | apply Drawn0.step)⟩
   rw [if_neg c7] at H;have a8 := beq_eq_false_iff_ne.mpr c7;have a9 := bne_iff_ne.mpr c7
   by_cases c8 : (Int.tmod a0 4503599627370496) ≥ 2251799813685248
   ·rw [if_pos c8] at H;have aa := decide_eq_true c8;clear c8;obtain rfl := Option.some.inj H
    go_wp2
    go_ret;exact ⟨by first | rfl | (simp; done) | (simp [*]; done), by repeat (first | exact Drawn0.refl _ | apply Drawn0.step)⟩
   rw [if_neg c8] at H;have aa := decide_eq_false c8;clear c8;obtain rfl := Option.some.inj H
   go_wp2
   go_ret;exact ⟨by first | rfl | (simp; done) | (simp [*]; done), by repeat (first | exact Drawn0.refl _ | apply Drawn0.step)⟩
def ZF.l0 : Nat → Int → List Int → Int → Int → Option (Bool)
 | 0, _, _, _, _ => none
 | k + 1, x3, x6, x7, x8 => if x8 < x7 then (if 0 ≤ x8 then (if x8 < (x6.length : Int) then (if (rd x6 x8) = 0 then (ZF.l0 k x3 x6 x7 (wrap64 (x8 + 1))) else (ZF.l0 k (wrap64 (x8 + 1)) x6 x7 (wrap64 (x8 + 1)))) else (none)) else (none)) else (some (decide (x3 > 1024)))
def ZF.f (k : Nat) (l0 : List Int) : Option (Bool) := ZF.l0 k 0 l0 (l0.length : Int) 0
theorem ZF.calls (k : Nat) (A0 : Option Addr) (c0 : Nat) (l0 : List Int) (r : Bool) (w : World) (hr0 : Kd.C Zu w A0 l0.length l0) (hc0 : l0.length ≤ c0) (h : ZF.f k l0 = some r) :
  Calls Tryz.prog 95 #[.slice A0 l0.length c0] w fun e w' => e = .returned (.bool r) ∧ Drawn0 w w' := by
 have a4 := zA hr0;have aa := zA hc0;clear hr0 hc0;have H := h
 unfold ZF.f at H
 clear h;have H' := zA H;clear H;go_enter Tryz.func95, Tryz.ntmps95
 go_wp2
 go_loopg [3, 8] k (fun kq v3 v8 w' => ∃ (a2 : Int) (a1 : Int), v3 = .int .i64 a2 ∧ v8 = .int .i64 a1 ∧ Aside0 (ZF.l0 kq a2 l0 (l0.length : Int) a1 = some r) ∧ Aside0 (kq ≤ k) ∧ Drawn0 w w')
 case atStart => exact ⟨(0), (0), zi, zi, H', ⟨Nat.le_refl _⟩, by repeat (first | exact Drawn0.refl _ | apply Drawn0.step)⟩
 case round =>
  clear H';obtain ⟨a2, a1, rfl, rfl, HA, HK1, ⟨m1, rfl⟩⟩ := hrel
  cases gk with
  | zero => exact absurd HA.out (by simp [ZF.l0])
  | succ k1 =>
   have H := HA.out;clear HA;simp only [ZF.l0] at H
   by_cases c2 : a1 < (l0.length : Int)
   ·rw [if_pos c2] at H;have a5 := decide_eq_true c2;clear c2;replace H := dn H;obtain ⟨c3, H⟩ := H;have a8 := decide_eq_true c3;clear c3;replace H := dn H;obtain ⟨c4, H⟩ := H;have a9 := decide_eq_true c4;clear c4
    by_cases c5 : (rd l0 a1) = 0
    ·rw [if_pos c5] at H;have a6 := beq_iff_eq.mpr c5;have a7 := bne_eq_false_iff_eq.mpr c5;clear c5;have H' := zA H;clear H;have p1339 : 0 ≤ (a1 : Int) := od;have q1339 : a1 < (l0.length : Int) := od;obtain ⟨ad1339, e1339, a3⟩ := Kd.at_int a4.out a1 p1339 q1339;cases e1339;replace p1339 := eq_true p1339;replace q1339 := eq_true q1339
     go_wp2
     go_roundg k1
     case measure => have := HK1.out; omega
     case rel => exact ⟨(a2), (wrap64 (a1 + 1)), zi, zi, H', ⟨by have := HK1.out; omega⟩, by repeat (first | exact Drawn0.refl _ | apply Drawn0.step)⟩
    rw [if_neg c5] at H;have a6 := beq_eq_false_iff_ne.mpr c5;have a7 := bne_iff_ne.mpr c5;have H' := zA H;clear H;have p1339 : 0 ≤ (a1 : Int) := od;have q1339 : a1 < (l0.length : Int) := od;obtain ⟨ad1339, e1339, a3⟩ := Kd.at_int a4.out a1 p1339 q1339;cases e1339;replace p1339 := eq_true p1339;replace q1339 := eq_true q1339
    go_wp2
    go_roundg k1
    case measure => have := HK1.out; omega
    case rel => exact ⟨(wrap64 (a1 + 1)), (wrap64 (a1 + 1)), zi, zi, H', ⟨by have := HK1.out; omega⟩, by repeat (first | exact Drawn0.refl _ | apply Drawn0.step)⟩
   rw [if_neg c2] at H;have a5 := decide_eq_false c2;clear c2;obtain rfl := Option.some.inj H
   go_wp2
   go_ret;exact ⟨by first | rfl | (simp; done) | (simp [*]; done), by repeat (first | exact Drawn0.refl _ | apply Drawn0.step)⟩
def Z0y.f (k : Nat) (a4 : Bool) (a3 : List Int) (a1 : Int) : Option (Bool) := (ZF.f k a3).bind fun a2 => (if a2 = true then (some false) else (if a1 ≥ (-32768) then (some (decide (a1 ≤ 32768))) else (some false)))
theorem Z0y.calls (k : Nat) (a4 : Bool) (a5 : Option Addr) (a6 : Nat) (a1 : List Int) (a2 : Int) (r : Bool) (w : World) (a7 : Kd.C Zu w a5 a1.length a1) (a8 : a1.length ≤ a6) (h : Z0y.f k a4 a1 a2 = some r) :
  Calls Tryz.prog 58 #[.agg #[.bool a4, .slice a5 a1.length a6, .int .i64 a2]] w fun e w' => e = .returned (.bool r) ∧ Below w.heap.size w w' := by
 have hu34 := Tryz.underlying34;have a9 := zA a7;have aa := zA a8;clear a7 a8;have HB := zA (Below.refl w.heap.size w);have H := h
 unfold Z0y.f at H
 clear h;obtain ⟨ab, A2, H⟩ := zh H
 by_cases c3 : ab = true
 subst c3;rw [if_pos rfl] at H;rotate_left;replace c3 := Bool.eq_false_iff.mpr c3;subst c3;rw [if_neg (show ¬ (false = true) by decide)] at H
 by_cases c6 : a2 ≥ (-32768)
 rw [if_pos c6] at H;have ac := decide_eq_true c6;clear c6;rotate_left;rw [if_neg c6] at H;have ac := decide_eq_false c6;clear c6;rotate_left
 all_goals
  obtain rfl := Option.some.inj H;go_enter Tryz.func58, Tryz.ntmps58
  go_wp2_with (first | ((with_reducible refine zD 1 rfl ?_); refine zn (N := 1) (cs := #[.bool a4, .slice a5 a1.length a6, .int .i64 a2]) (t := 34) rfl rfl ?_; intro ad hg w4 hbox hb; have a3 := zA (hbox); have ae := zw hg; replace HB := ze hb; clear hb hbox hg; (try (obtain ⟨_, _, _, _, _, _⟩ := zc a3)); (try (obtain ⟨af, ag, ah, ai, aj, ak⟩ := zc a3))) | ((with_reducible refine zG 95 rfl ?_); refine zC (some 5) Tryz.func95 (ZF.calls k _ _ a1 true _ (zk (C_below a9.out HB.out)) (aa.out) A2.out) ?_; rintro e w' ⟨rfl, ⟨nd, rfl⟩⟩; refine ⟨_, rfl, ?_⟩) | ((with_reducible refine zG 95 rfl ?_); refine zC (some 5) Tryz.func95 (ZF.calls k _ _ a1 false _ (zk (C_below a9.out HB.out)) (aa.out) A2.out) ?_; rintro e w' ⟨rfl, ⟨nd, rfl⟩⟩; refine ⟨_, rfl, ?_⟩))
  go_ret;exact ⟨er, zs⟩
def Z0V.f (k : Nat) (a2 : Bool) (a3 : List Int) (a4 : Int) : Option (Bool × List Int × Int) := (Z06.f k a2 a3 a4).bind fun a1 => (some (a1.1, a1.2.1, a1.2.2))
theorem Z0V.calls (k : Nat) (a6 : Bool) (aa : Option Addr) (ab : Nat) (a3 : List Int) (a7 : Int) (r1 : Bool) (r2 : List Int) (r3 : Int) (w : World) (ac : Kd.C Zu w aa a3.length a3) (ad : a3.length ≤ ab) (h : Z0V.f k a6 a3 a7 = some (r1, r2, r3)) :
  Calls Tryz.prog 59 #[.agg #[.bool a6, .slice aa a3.length ab, .int .i64 a7]] w fun e w' => ∃ v1_ : Value, e = .returned (.agg #[.bool r1, v1_, .int .i64 r3]) ∧ Kd.R Zu 22 w' w.heap.size (fun _ => True) v1_ r2 ∧ Below w.heap.size w w' := by
 have hu34 := Tryz.underlying34;have ah := zA ac;have ai := zA ad;clear ac ad;have HB := zA (Below.refl w.heap.size w);have H := h
 unfold Z0V.f at H
 clear h;obtain ⟨⟨ae, af, ag⟩, A2, H⟩ := zh H;(try dsimp only at H);simp only [Option.some.injEq, Prod.mk.injEq] at H;obtain ⟨rfl, rfl, rfl⟩ := H;go_enter Tryz.func59, Tryz.ntmps59
 go_wp2_with (first | ((with_reducible refine zD 1 rfl ?_); refine zn (N := 1) (cs := #[.bool a6, .slice aa a3.length ab, .int .i64 a7]) (t := 34) rfl rfl ?_; intro aj hg w3 hbox hb; have a1 := zA (hbox); have ak := zw hg; replace HB := ze hb; clear hb hbox hg) | ((with_reducible refine zD 2 rfl ?_); refine zn (N := 2) (cs := #[.bool false, .slice none 0 0, .int .i64 0]) (t := 34) rfl rfl ?_; intro a8 hg w4 hbox hb; have a2 := zA (hbox); have al := zx hg; replace HB := zf hb; have a4 := zl a1 hg; have a5 := zg a1 hg; replace a1 := zb a1 hb; clear hb hbox hg; have ay := a4.out; have aA := a5.out; obtain ⟨_, _, _, _, _, _⟩ := zc a1) | ((with_reducible refine zG 56 rfl ?_); refine zC (some 9) Tryz.func56 (Z06.calls k a6 _ _ a3 a7 ae af ag _ (zk (C_below ah.out HB.out)) (ai.out) A2.out) ?_; rintro e w7 ⟨v1346, rfl, am, hb⟩; refine ⟨_, rfl, ?_⟩; have a9 := zA (R_lower am (below_size zs)); replace a1 := zb a1 hb; replace a2 := zb a2 hb; replace HB := zf hb; obtain ⟨an, ao, ap, aq, ar, au⟩ := zc a2; obtain ⟨av, aw, ax⟩ := R_slice a9.out; subst ax))
 refine bodyPost_ret (results_cell_row rfl _ _ a8 34 #[.bool ae, .slice av af.length aw, .int .i64 ag] (0, 0) _ rfl (zy a2) Tryz.underlying34 rfl (by kernel_rfl)) rfl ?_;exact ⟨_, er, ru (R_mono (zr a8 (R_types a9.out a2.out (by decide)) (fun _ hk => hk.2) _ _ _) (fun _ hk => trivial)), zs⟩
def ZQ.j0 : Nat → Bool → Bool → Int → Int → Option (Int × Int)
 | 0, _, _, _, _ => none
 | k + 1, x17, a3, a1, a2 => if x17 = true then (some (0, 2)) else (if a3 = true then (some (IntKind.u64.wrap ((IntKind.u64.wrap ((IntKind.u64.wrap ((IntKind.u64.wrap (a1)) * 4503599627370496)) + a2)) + 9223372036854775808), 0)) else (some (IntKind.u64.wrap ((IntKind.u64.wrap ((IntKind.u64.wrap (a1)) * 4503599627370496)) + a2), 0)))
def ZQ.f (k : Nat) (a3 : Bool) (a1 : Int) (a2 : Int) : Option (Int × Int) := if a1 < 0 then (ZQ.j0 k true a3 a1 a2) else (if a1 > 2047 then (ZQ.j0 k true a3 a1 a2) else (ZQ.j0 k (decide (a2 ≥ 4503599627370496)) a3 a1 a2))
theorem ZQ.calls (k : Nat) (a3 : Bool) (a2 : Int) (a4 : Int) (r1 : Int) (r2 : Int) (w : World) (h : ZQ.f k a3 a2 a4 = some (r1, r2)) :
  Calls Tryz.prog 60 #[.agg #[.bool a3, .int .i64 a2, .int .u64 a4]] w fun e w' => e = .returned (.tuple #[.int .u64 r1, .int .i64 r2]) ∧ Below w.heap.size w w' := by
 have hu77 := Tryz.underlying77;have HB := zA (Below.refl w.heap.size w);have H := h
 unfold ZQ.f at H
 clear h;have a7 := zA H;clear H;go_enter Tryz.func60, Tryz.ntmps60
 go_upto_region 1 with (first | ((with_reducible refine zD 1 rfl ?_); refine zn (N := 1) (cs := #[.bool a3, .int .i64 a2, .int .u64 a4]) (t := 77) rfl rfl ?_; intro a8 hg w3 hbox hb; have a1 := zA (hbox); have am := zw hg; replace HB := ze hb; clear hb hbox hg))
 (try simp only [Act.put, List.setIfInBounds_toArray, List.set_cons_zero, List.set_cons_succ])
 go_cut [17] (fun v17 wc => ∃ (kq : Nat) (a5 : Bool), v17 = .bool a5 ∧ Aside0 (ZQ.j0 kq a5 a3 a2 a4 = some (r1, r2)) ∧ Aside0 (kq ≤ k) ∧ Aside0 (wc.heap[a8]? = some (.cells #[.bool a3, .int .i64 a2, .int .u64 a4] 77 (0, 0))) ∧ Aside0 (Below w.heap.size w wc))
 case first =>
  have H := a7.out;clear a7
  by_cases c4 : a2 < 0
  ·rw [if_pos c4] at H;have a6 := decide_eq_true c4;clear c4
   (first | rw [a6] | (simp only [i64_w, i32_w]; rw [a6]) | skip)
   have H' := zA H;clear H;obtain ⟨_, _, _, _, _, _⟩ := zc a1
   go_wp2
   go_meet
   case rel => exact ⟨_, (true), zi, H', ⟨by first | omega | exact Nat.le_refl _⟩, ⟨zu a1⟩, ⟨zs⟩⟩
  rw [if_neg c4] at H;have a6 := decide_eq_false c4;clear c4
  (first | rw [a6] | (simp only [i64_w, i32_w]; rw [a6]) | skip)
  by_cases c6 : a2 > 2047
  ·rw [if_pos c6] at H;have af := decide_eq_true c6;clear c6;have H' := zA H;clear H;obtain ⟨_, _, _, _, _, _⟩ := zc a1
   go_wp2
   go_meet
   case rel => exact ⟨_, (true), zi, H', ⟨by first | omega | exact Nat.le_refl _⟩, ⟨zu a1⟩, ⟨zs⟩⟩
  rw [if_neg c6] at H;have af := decide_eq_false c6;clear c6;have H' := zA H;clear H;obtain ⟨a9, aa, ab, ac, ad, ae⟩ := zc a1
  go_wp2
  go_meet
  case rel => exact ⟨_, (decide (a4 ≥ 4503599627370496)), zi, H', ⟨by first | omega | exact Nat.le_refl _⟩, ⟨zu a1⟩, ⟨zs⟩⟩
 case rest =>
  clear a7
  try clear a9 aa ab ac ad ae
  obtain ⟨kq, a5, rfl, HA, an, a1, HB⟩ := hcut
  cases kq with
  | zero => exact absurd HA.out (by simp [ZQ.j0])
  | succ ao =>
   have H := HA.out;clear HA;simp only [ZQ.j0] at H
   by_cases c9 : a5 = true
   ·subst c9;rw [if_pos rfl] at H;simp only [Option.some.injEq, Prod.mk.injEq] at H;obtain ⟨rfl, rfl⟩ := H
    go_wp2
    go_ret2
    exact ⟨er, zs⟩
   replace c9 := Bool.eq_false_iff.mpr c9;subst c9;rw [if_neg (show ¬ (false = true) by decide)] at H
   by_cases c10 : a3 = true
   ·subst c10;rw [if_pos rfl] at H;simp only [Option.some.injEq, Prod.mk.injEq] at H;obtain ⟨rfl, rfl⟩ := H;obtain ⟨_, _, _, _, _, _⟩ := zc a1
    go_wp2
    go_ret2
    exact ⟨er, zs⟩
   replace c10 := Bool.eq_false_iff.mpr c10;subst c10;rw [if_neg (show ¬ (false = true) by decide)] at H;simp only [Option.some.injEq, Prod.mk.injEq] at H;obtain ⟨rfl, rfl⟩ := H;obtain ⟨ag, ah, ai, aj, ak, al⟩ := zc a1
   go_wp2
   go_ret2
   exact ⟨er, zs⟩
end Go.Proofs.YtjnfipkbgmdpaaaGreatDoor.PAll
