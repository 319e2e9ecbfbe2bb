/- Printed functions, merged by a program of this session. -/
import Derived.Test.YtnjfckadjklmfaaDoorXRoundOnceP0
import Derived.Test.YtnjfckadjklmfaaDoorXRoundOnceP14
import Derived.Test.YtnjfckadjklmfaaDoorXRoundOnceSh
namespace Go.Proofs.YtnjfckadjklmfaaDoor.PAll
open Go.RowKit Go.Proofs.YtnjfckadjklmfaaDoorW.PrintWords Go.Proofs.YtnjfckadjklmfaaDoorW.PrintLast Go.Proofs.YtnjfckadjklmfaaDoorW.PrintMore Go.Proofs.YtnjfckadjklmfaaDoorW.PrintWords.Kd
attribute [local go_sem] max2_int min2_int max_two min_two max_three min_three max_four min_four   -- for this text's walks alone
set_option linter.unusedVariables false
set_option linter.unusedSimpArgs false
attribute [local go_sem] fld75_0 fld75_1 fld75_2 ext118 ext119
def ulpref04_Sign.f (k : Nat) (a1 : Bool) (a2 : List Int) (a3 : Int) : Option (Int) := (ulpref04_Zero.f k a1 a2 a3).bind fun a4 => (if a4 = true then (some 0) else (if a1 = true then (some (-1)) else (some 1)))
set_option maxHeartbeats 8000000 in
set_option maxRecDepth 100000 in
theorem ulpref04_Sign.calls (k : Nat) (a4 : Bool) (a5 : Option Addr) (a6 : Nat) (a2 : List Int) (a3 : Int) (r : Int) (w : World) (ac : Kd.C (Kd.int .u64) w a5 a2.length a2) (ad : a2.length ≤ a6) (h : ulpref04_Sign.f k a4 a2 a3 = some r) :
  Calls Tryd.prog 38 #[.agg #[.bool a4, .slice a5 a2.length a6, .int .i64 a3]] w fun e w' => e = .returned (.int .i64 r) ∧ Below w.heap.size w w' := by
 have hu25 := Tryd.underlying25;have a9 := zA ac;have aa := zA ad;clear ac ad;have HB := zA (Below.refl w.heap.size w);have H : ((ulpref04_Zero.f k a4 a2 a3).bind fun ab => (if ab = true then (some 0) else (if a4 = true then (some (-1)) else (some 1)))) = some r := h;clear h;obtain ⟨ab, A2, H⟩ := zh H
 by_cases c3 : ab = true
 ·subst c3;rw [if_pos rfl] at H;obtain rfl := Option.some.inj H;go_enter Tryd.func38, Tryd.ntmps38
  go_wp2_with (first | ((with_reducible refine zD 1 rfl ?_); refine zn (N := 1) (cs := #[.bool a4, .slice a5 a2.length a6, .int .i64 a3]) (t := 25) rfl rfl ?_; intro ae hg w4 hbox hb; have a1 := zA (hbox); have af := zw hg; replace HB := ze hb; clear hb hbox hg; obtain ⟨_, _, _, _, _, _⟩ := zc a1) | ((with_reducible refine zG 16 rfl ?_); refine zL (some 5) rfl rfl Tryd.func16 #[.agg #[.bool a4, .slice a5 a2.length a6, .int .i64 a3]] rfl ?_; (with_reducible refine (ulpref04_Zero.calls k a4 _ _ a2 a3 true _ ?a7 ?a8 A2.out).mono ?_); (case a7 => exact zk (C_below a9.out HB.out)); (case a8 => exact aa.out); rintro e w6 ⟨rfl, hb⟩; refine ⟨_, rfl, ?_⟩; replace a1 := zb a1 hb; replace HB := zf hb))
  go_ret;exact ⟨er, zs⟩
 replace c3 := Bool.eq_false_iff.mpr c3;subst c3;rw [if_neg (show ¬ (false = true) by decide)] at H
 by_cases c7 : a4 = true
 ·subst c7;rw [if_pos rfl] at H;obtain rfl := Option.some.inj H;go_enter Tryd.func38, Tryd.ntmps38
  go_wp2_with (first | ((with_reducible refine zD 1 rfl ?_); refine zn (N := 1) (cs := #[.bool true, .slice a5 a2.length a6, .int .i64 a3]) (t := 25) rfl rfl ?_; intro ae hg w8 hbox hb; have a1 := zA (hbox); have af := zw hg; replace HB := ze hb; clear hb hbox hg; obtain ⟨_, _, _, _, _, _⟩ := zc a1) | ((with_reducible refine zG 16 rfl ?_); refine zL (some 5) rfl rfl Tryd.func16 #[.agg #[.bool true, .slice a5 a2.length a6, .int .i64 a3]] rfl ?_; (with_reducible refine (ulpref04_Zero.calls k true _ _ a2 a3 false _ ?a7 ?a8 A2.out).mono ?_); (case a7 => exact zk (C_below a9.out HB.out)); (case a8 => exact aa.out); rintro e w10 ⟨rfl, hb⟩; refine ⟨_, rfl, ?_⟩; replace a1 := zb a1 hb; replace HB := zf hb; obtain ⟨ag, ah, ai, aj, ak, al⟩ := zc a1))
  go_ret;exact ⟨er, zs⟩
 replace c7 := Bool.eq_false_iff.mpr c7;subst c7;rw [if_neg (show ¬ (false = true) by decide)] at H;obtain rfl := Option.some.inj H;go_enter Tryd.func38, Tryd.ntmps38
 go_wp2_with (first | ((with_reducible refine zD 1 rfl ?_); refine zn (N := 1) (cs := #[.bool false, .slice a5 a2.length a6, .int .i64 a3]) (t := 25) rfl rfl ?_; intro ae hg w12 hbox hb; have a1 := zA (hbox); have af := zw hg; replace HB := ze hb; clear hb hbox hg; obtain ⟨_, _, _, _, _, _⟩ := zc a1) | ((with_reducible refine zG 16 rfl ?_); refine zL (some 5) rfl rfl Tryd.func16 #[.agg #[.bool false, .slice a5 a2.length a6, .int .i64 a3]] rfl ?_; (with_reducible refine (ulpref04_Zero.calls k false _ _ a2 a3 false _ ?a7 ?a8 A2.out).mono ?_); (case a7 => exact zk (C_below a9.out HB.out)); (case a8 => exact aa.out); rintro e w14 ⟨rfl, hb⟩; refine ⟨_, rfl, ?_⟩; replace a1 := zb a1 hb; replace HB := zf hb; obtain ⟨am, an, ao, ap, aq, ar⟩ := zc a1))
 go_ret;exact ⟨er, zs⟩
def ulpref03_Len.l0 : Nat → Int → Int → Option (Int)
 | 0, _, _ => none
 | k + 1, x3, x4 => if x4 > 0 then (ulpref03_Len.l0 k (wrap64 (x3 + 1)) (IntKind.u64.wrap (Int.tdiv x4 2))) else (some x3)
def ulpref03_Len.f (k : Nat) (l0 : List Int) : Option (Int) := (ulpref03_Norm.f k l0).bind fun a1 => (if (a1.length : Int) = 0 then (some 0) else (if 0 ≤ (wrap64 ((a1.length : Int) - 1)) then (if (wrap64 ((a1.length : Int) - 1)) < (a1.length : Int) then (ulpref03_Len.l0 k (wrap64 (64 * (wrap64 ((a1.length : Int) - 1)))) (rd a1 (wrap64 ((a1.length : Int) - 1)))) else (none)) else (none)))
set_option maxHeartbeats 8000000 in
set_option maxRecDepth 100000 in
theorem ulpref03_Len.calls (k : Nat) (A0 : Option Addr) (c0 : Nat) (l0 : List Int) (r : Int) (w : World) (hr0 : Kd.C (Kd.int .u64) w A0 l0.length l0) (hc0 : l0.length ≤ c0) (h : ulpref03_Len.f k l0 = some r) :
  Calls Tryd.prog 69 #[.slice A0 l0.length c0] w fun e w' => e = .returned (.int .i64 r) ∧ Below w.heap.size w w' := by
 have ae := zA hr0;have af := zA hc0;clear hr0 hc0;have HB := zA (Below.refl w.heap.size w);have H : ((ulpref03_Norm.f k l0).bind fun a1 => (if (a1.length : Int) = 0 then (some 0) else (if 0 ≤ (wrap64 ((a1.length : Int) - 1)) then (if (wrap64 ((a1.length : Int) - 1)) < (a1.length : Int) then (ulpref03_Len.l0 k (wrap64 (64 * (wrap64 ((a1.length : Int) - 1)))) (rd a1 (wrap64 ((a1.length : Int) - 1)))) else (none)) else (none)))) = some r := h;clear h;obtain ⟨a1, A2, H⟩ := zh H
 by_cases c3 : (a1.length : Int) = 0
 ·rw [if_pos c3] at H;have ab := beq_iff_eq.mpr c3;have ac := bne_eq_false_iff_eq.mpr c3;clear c3;obtain rfl := Option.some.inj H;go_enter Tryd.func69, Tryd.ntmps69
  go_wp2_with (first | ((with_reducible refine zG 45 rfl ?_); refine zL (some 6) rfl rfl Tryd.func45 #[.slice A0 l0.length c0] rfl ?_; (with_reducible refine (ulpref03_Norm.calls k _ _ l0 a1 _ ?a6 ?a7 A2.out).mono ?_); (case a6 => exact zk ae.out); (case a7 => exact af.out); rintro e w4 ⟨v276, rfl, a9, hb⟩; refine ⟨_, rfl, ?_⟩; have a4 := zA (R_lower a9 (below_size bq)); replace HB := ze hb; (try clear a9); obtain ⟨an, ao, ak⟩ := R_slice a4.out; subst ak))
  go_ret;exact ⟨er, bq⟩
 rw [if_neg c3] at H;have ab := beq_eq_false_iff_ne.mpr c3;have ac := bne_iff_ne.mpr c3
 have ag : ¬ (a1 = []) := fun h_ => c3 (by rw [h_]; rfl)
 obtain ⟨a3, a2⟩ : ∃ j_ : Int, (wrap64 ((a1.length : Int) - 1)) = j_ := ⟨_, rfl⟩;replace H : (if 0 ≤ (a3) then (if (a3) < (a1.length : Int) then (ulpref03_Len.l0 k (wrap64 (64 * (a3))) (rd a1 (a3))) else (none)) else (none)) = some r := zQ a2 H;(try rw [a2] at A2);have hji6w : (IntKind.i64.wrap ((a1.length : Int) - 1)) = a3 := (i64_w _).trans a2;replace H := dn H;obtain ⟨c7, H⟩ := H;have ah := decide_eq_true c7;clear c7;replace H := dn H;obtain ⟨c8, H⟩ := H;have ai := decide_eq_true c8;clear c8;have H' := zA H;clear H;go_enter Tryd.func69, Tryd.ntmps69
 go_wp2_with (first | ((with_reducible refine zG 45 rfl ?_); refine zL (some 6) rfl rfl Tryd.func45 #[.slice A0 l0.length c0] rfl ?_; (with_reducible refine (ulpref03_Norm.calls k _ _ l0 a1 _ ?a6 ?a7 A2.out).mono ?_); (case a6 => exact zk ae.out); (case a7 => exact af.out); rintro e w9 ⟨v276, rfl, a9, hb⟩; refine ⟨_, rfl, ?_⟩; have a4 := zA (R_lower a9 (below_size bq)); replace HB := ze hb; (try clear a9); obtain ⟨al, am, aj⟩ := R_slice a4.out; subst aj; have p278 : 0 ≤ ((a3) : Int) := od; have q278 : (a3) < (a1.length : Int) := od; obtain ⟨ad278, e278, aa⟩ := Kd.at_int (R_reads' a4.out).2.2 (a3) p278 q278; cases e278; replace p278 := eq_true p278; replace q278 := eq_true q278))
 go_loopg [3, 4] k (fun kq v3 v4 w' => ∃ (a8 : Int) (a5 : Int), v3 = .int .i64 a8 ∧ v4 = .int .u64 a5 ∧ Aside0 (ulpref03_Len.l0 kq a8 a5 = some r) ∧ Aside0 (kq ≤ k) ∧ Aside0 (Below w.heap.size w w'))
 case atStart => exact ⟨(wrap64 (64 * (a3))), (rd a1 (a3)), (by first | rfl | (simp; done) | (simp only [← a2] <;> (first | rfl | simp)) | (simp [*]; done)), (by first | rfl | (simp; done) | (simp only [← a2] <;> (first | rfl | simp)) | (simp [*]; done)), H', ⟨Nat.le_refl _⟩, ⟨bq⟩⟩
 case round =>
  clear H'
  try clear c3
  try clear ab
  try clear ac
  try clear ag
  try clear c4
  try clear c7
  try clear ah
  try clear c8
  try clear ai
  try clear aa
  try clear p278
  try clear q278
  obtain ⟨a8, a5, rfl, rfl, HA, HK1, HB⟩ := hrel
  cases gk with
  | zero => exact absurd HA.out (by simp [ulpref03_Len.l0])
  | succ k1 =>
   have H := HA.out;clear HA;simp only [ulpref03_Len.l0] at H
   by_cases c11 : a5 > 0
   ·rw [if_pos c11] at H;have ad := decide_eq_true c11;clear c11;have H' := zA H;clear H
    go_wp2
    go_roundg k1
    case measure => have := HK1.out; omega
    case rel => exact ⟨(wrap64 (a8 + 1)), (IntKind.u64.wrap (Int.tdiv a5 2)), zi, zi, (by first | exact H' | (simp only [a2]; exact H') | (simp only [a2] at H' ⊢; exact H')), ⟨by have := HK1.out; omega⟩, ⟨bq⟩⟩
   rw [if_neg c11] at H;have ad := decide_eq_false c11;clear c11;obtain rfl := Option.some.inj H
   go_wp2
   go_ret;exact ⟨by first | rfl | (simp [errW_none, errW_some] <;> rfl) | (simp only [← a2]; first | rfl | (simp [errW_none, errW_some] <;> rfl)) | (simp [*, errW_none, errW_some] <;> rfl), bq⟩
def ulpref04_Top.f (k : Nat) (a4 : Bool) (a1 : List Int) (a2 : Int) : Option (Int) := (ulpref03_Len.f k a1).bind fun a3 => (some (wrap64 ((wrap64 (a2 + a3)) - 1)))
def ulpref04_Top.T1 : Bool × List (List Nat × List Nat) := (true, [([], []), ([0], [0]), ([], []), ([2], [2]), ([3], [3]), ([1, 4], [1, 4]), ([5], [5]), ([6, 4, 0, 1, 2, 3, 4, 5, 6], [6])])
def ulpref04_Top.B1 : List Nat := [0, 1, 0, 4, 12, 31, 63, 127]
theorem ulpref04_Top.tab1 : rtab .any (opsOf Tryd.f39 1) = ulpref04_Top.T1 := by kernel_rfl
theorem ulpref04_Top.bits1 : waitsOk ulpref04_Top.T1.2 ulpref04_Top.B1 = true := by kernel_rfl
set_option maxHeartbeats 8000000 in
set_option maxRecDepth 100000 in
theorem ulpref04_Top.calls (k : Nat) (a6 : Bool) (a3 : Option Addr) (a4 : Nat) (a1 : List Int) (a5 : Int) (r : Int) (w : World) (a8 : Kd.C (Kd.int .u64) w a3 a1.length a1) (a9 : a1.length ≤ a4) (h : ulpref04_Top.f k a6 a1 a5 = some r) :
  Calls Tryd.prog 39 #[.agg #[.bool a6, .slice a3 a1.length a4, .int .i64 a5]] w fun e w' => e = .returned (.int .i64 r) ∧ Below w.heap.size w w' := by
 have hu25 := Tryd.underlying25;have aa := zA a8;have ab := zA a9;clear a8 a9;have HB := zA (Below.refl w.heap.size w);have H : ((ulpref03_Len.f k a1).bind fun a7 => (some (wrap64 ((wrap64 (a5 + a7)) - 1)))) = some r := h;clear h;obtain ⟨a7, A2, H⟩ := zh H;obtain rfl := Option.some.inj H;go_enter Tryd.func39, Tryd.ntmps39
 try go_wp2_with (first | ((with_reducible refine zD 1 rfl ?_); refine zn (N := 1) (cs := #[.bool a6, .slice a3 a1.length a4, .int .i64 a5]) (t := 25) rfl rfl ?_; intro ac hg w3 hbox hb; have a2 := zA (hbox); have af := zw hg; replace HB := ze hb; clear hb hbox hg))
 replace a2 := zA (blk_drew a2.out);replace HB := zA (below_drew1 HB.out);refine start_ (n := 8) (S := fun w' => z3 w' ac (.bool a6) (.slice a3 a1.length a4) (.int .i64 a5)) (ds := []) #[false, false, false, false, false, false, false, false] (by kernel_rfl) rfl rfl (zz a2) (fun hHeld => ?_); refine with_tabW ulpref04_Top.tab1 ulpref04_Top.bits1 (fun HT_ HW_ => ?_);generalize w3.drew = w4 at a2 HB hHeld ⊢;refine pure_ (i := 0) (N := some 3) (v := ?_) (a' := ?_) #[true, false, false, false, false, false, false, false] rfl rfl (any_of HT_.out (by kernel_rfl)) (fun _ _ _ h => h) (Or.inl ⟨by rfl, ?_⟩) ?_ ?_;rotate_left;·intro w';go_simp;with_reducible rfl
 rotate_left;·exact zq
 refine pure_ (i := 2) (N := some 5) (v := ?_) (a' := ?_) #[true, false, true, false, false, false, false, false] rfl rfl (any_of HT_.out (by kernel_rfl)) (fun _ _ _ h => h) (Or.inl ⟨by rfl, ?_⟩) ?_ ?_;rotate_left;·intro w';go_simp;with_reducible rfl
 rotate_left;·exact zq
 refine take_ (i := 1) (N := some 4) (v := ?_) (a' := ?_) #[true, true, true, false, false, false, false, false] rfl rfl (take_ofW HT_.out HW_.out (by kernel_rfl)) (fun _ _ _ h => h) (Or.inl ⟨by rfl, ?_⟩) hHeld ?_ ?_;rotate_left;·rintro w' ⟨s0, s1, s2⟩;go_simp;with_reducible rfl
 rotate_left;·exact zq
 refine take_ (i := 3) (N := some 6) (v := ?_) (a' := ?_) #[true, true, true, true, false, false, false, false] rfl rfl (take_ofW HT_.out HW_.out (by kernel_rfl)) (fun _ _ _ h => h) (Or.inl ⟨by rfl, ?_⟩) hHeld ?_ ?_;rotate_left;·rintro w' ⟨s0, s1, s2⟩;go_simp;with_reducible rfl
 rotate_left;·exact zq
 refine one_ (i := 4) (N := some 7) #[true, true, true, true, true, false, false, false] rfl rfl (one_of HT_.out (by kernel_rfl)) (by decide) (fun K hK => ?_);refine goes_ Tryd.func69 (by kernel_rfl) rfl #[.slice a3 a1.length a4] (by rfl) rfl rfl ga ?_
 with_reducible refine (ulpref03_Len.calls k _ _ a1 a7 _ ?ad ?ae A2.out).mono ?_
 (case ad => exact zk (C_below aa.out HB.out));(case ae => exact ab.out);rintro e w5 ⟨rfl, hb⟩;refine ⟨_, rfl, ?_⟩;replace a2 := zb a2 hb;replace HB := zf hb;(try clear hb);(try clear hb2);(try clear hk);(try clear hi);refine hK.out _ _ (zz a2) (fun hHeld => ?_);clear hK K;refine norm_ (a' := ?_) ?_ ?_;rotate_left;·show Act.put _ (some 7) _ = _;exact zq
 refine pure_ (i := 5) (N := some 8) (v := ?_) (a' := ?_) #[true, true, true, true, true, true, false, false] rfl rfl (any_of HT_.out (by kernel_rfl)) (fun _ _ _ h => h) (Or.inl ⟨by rfl, ?_⟩) ?_ ?_;rotate_left;·intro w';go_simp;with_reducible rfl
 rotate_left;·exact zq
 refine pure_ (i := 6) (N := some 9) (v := ?_) (a' := ?_) #[true, true, true, true, true, true, true, false] rfl rfl (any_of HT_.out (by kernel_rfl)) (fun _ _ _ h => h) (Or.inl ⟨by rfl, ?_⟩) ?_ ?_;rotate_left;·intro w';go_simp;with_reducible rfl
 rotate_left;·exact zq
 refine pure_ (i := 7) (N := some 2) (v := ?_) (a' := ?_) #[true, true, true, true, true, true, true, true] rfl rfl (any_of HT_.out (by kernel_rfl)) (fun _ _ _ h => h) (Or.inl ⟨by rfl, ?_⟩) ?_ ?_;rotate_left;·intro w';go_simp;with_reducible rfl
 rotate_left;·exact zq
 refine done_ (done_of HT_.out (by kernel_rfl)) ?_
 try go_wp2
 go_ret;exact ⟨er, zs⟩
def ulpref03_Shl.l0 : Nat → List Int → Int → Int → List Int → Int → Int → Option (List Int)
 | 0, _, _, _, _, _, _ => none
 | k + 1, x5, x6, x7, x16, x17, x18 => if x18 < x17 then (if 0 ≤ x18 then (if x18 < (x16.length : Int) then (if 0 ≤ x6 then (if x5.length < 17592186044416 then ((some (x5 ++ [Go.bits .or .u64 (shl .u64 (rd x16 x18) x6) x7] : List Int)).bind fun a1 => (if x6 > 0 then (if 0 ≤ (IntKind.u64.wrap (64 - x6)) then (ulpref03_Shl.l0 k a1 x6 (shr .u64 (rd x16 x18) (IntKind.u64.wrap (64 - x6))) x16 x17 (wrap64 (x18 + 1))) else (none)) else (ulpref03_Shl.l0 k a1 x6 0 x16 x17 (wrap64 (x18 + 1))))) else (none)) else (none)) else (none)) else (none)) else (if x5.length < 17592186044416 then ((ulpref03_Norm.f k (x5 ++ [x7])).bind fun a2 => (some a2)) else (none))
def ulpref03_Shl.f (k : Nat) (l0 : List Int) (a1 : Int) : Option (List Int) := if 0 ≤ (wrap64 (Int.tdiv a1 64)) then (if (wrap64 (Int.tdiv a1 64) : Int).toNat ≤ 35184372088832 then (ulpref03_Shl.l0 k (List.replicate (wrap64 (Int.tdiv a1 64) : Int).toNat 0) (IntKind.u64.wrap (Int.tmod a1 64)) 0 l0 (l0.length : Int) 0) else (none)) else (none)
set_option maxHeartbeats 8000000 in
set_option maxRecDepth 100000 in
theorem ulpref03_Shl.calls (k : Nat) (A0 : Option Addr) (c0 : Nat) (l0 : List Int) (a1 : Int) (r : List Int) (w : World) (hr0 : Kd.C (Kd.int .u64) w A0 l0.length l0) (hc0 : l0.length ≤ c0) (h : ulpref03_Shl.f k l0 a1 = some r) :
  Calls Tryd.prog 97 #[.slice A0 l0.length c0, .int .i64 a1] w fun e w' => ∃ v0_ : Value, e = .returned (v0_) ∧ Kd.R (Kd.int .u64) 26 w' w.heap.size (fun _ => True) v0_ r ∧ Below w.heap.size w w' := by
 have aH := zA hr0;have b1 := zA hc0;clear hr0 hc0;have HB := zA (Below.refl w.heap.size w);have H : (if 0 ≤ (wrap64 (Int.tdiv a1 64)) then (if (wrap64 (Int.tdiv a1 64) : Int).toNat ≤ 35184372088832 then (ulpref03_Shl.l0 k (List.replicate (wrap64 (Int.tdiv a1 64) : Int).toNat 0) (IntKind.u64.wrap (Int.tmod a1 64)) 0 l0 (l0.length : Int) 0) else (none)) else (none)) = some r := h;clear h;obtain ⟨ah, ad⟩ : ∃ j_ : Int, (wrap64 (Int.tdiv a1 64)) = j_ := ⟨_, rfl⟩;replace H : (if 0 ≤ (ah) then (if (ah : Int).toNat ≤ 35184372088832 then (ulpref03_Shl.l0 k (List.replicate (ah : Int).toNat 0) (IntKind.u64.wrap (Int.tmod a1 64)) 0 l0 (l0.length : Int) 0) else (none)) else (none)) = some r := zQ ad H;have hji3w : (IntKind.i64.wrap (Int.tdiv a1 64)) = ah := (i64_w _).trans ad;replace H := dn H;obtain ⟨c4, H⟩ := H;have aI := eq_true c4;have aJ := decide_eq_true c4;clear c4;replace H := dn H;obtain ⟨c5, H⟩ := H;have aK := eq_true c5;have aM := decide_eq_true c5;clear c5;obtain ⟨av, ai⟩ : ∃ y_ : List Int, y_ = (List.replicate (ah : Int).toNat 0) := ⟨_, rfl⟩;replace H : (ulpref03_Shl.l0 k av (IntKind.u64.wrap (Int.tmod a1 64)) 0 l0 (l0.length : Int) 0) = some r := zR ai H;have aq := zA ai;clear ai;have H' := zA H;clear H;go_enter Tryd.func97, Tryd.ntmps97
 go_wp2_with (first | ((with_reducible refine zD 12 rfl ?_); refine R_make (Kd.int .u64) _ 26 rfl (N := 12) rfl 23 _ _ rfl ah rfl rfl Tryd.underlying23 (.int .u64 0) 8 info26 rfl (by decide) (by omega) 0 (ok := fun _ => True) (okp := fun _ => True) rfl (fun _ hk => hk) trivial (od) (Nat.le_trans (Nat.mul_le_mul_right _ (od : ah.toNat ≤ 35184372088832)) (by omega)) (Below.refl _ _) (Nat.le_refl _) ?_; intro v304 w6 an hb hg_ hnew_; clear hg_ hnew_; (first | rw [← aq.out] at an | (simp only [Int.reduceToNat] at an; rw [← aq.out] at an)); have ax := zA (R_lower an (below_size bq)); replace HB := ze hb; clear hb an))
 go_loopg [5, 7, 18] k (fun kq v5 v7 v18 w' => ∃ (a6 : List Int) (a4 : Int) (a2 : Int), v7 = .int .u64 a4 ∧ v18 = .int .i64 a2 ∧ Aside0 (ulpref03_Shl.l0 kq a6 (IntKind.u64.wrap (Int.tmod a1 64)) a4 l0 (l0.length : Int) a2 = some r) ∧ Aside0 (kq ≤ k) ∧ Aside0 (Kd.R (Kd.int .u64) 26 w' w.heap.size (fun _ => True) v5 a6) ∧ Aside0 (Below w.heap.size w w'))
 case atStart => exact ⟨(av), (0), (0), zi, zi, H', ⟨Nat.le_refl _⟩, ⟨ru ax.out⟩, ⟨bq⟩⟩
 case round =>
  clear H'
  try clear c4
  try clear aI
  try clear aJ
  try clear c5
  try clear aK
  try clear aM
  obtain ⟨a6, a4, a2, rfl, rfl, HA, HK1, ae, HB⟩ := hrel
  cases gk with
  | zero => exact absurd HA.out (by simp [ulpref03_Shl.l0])
  | succ k1 =>
   have H := HA.out;clear HA;simp only [ulpref03_Shl.l0] at H
   by_cases c8 : a2 < (l0.length : Int)
   ·rw [if_pos c8] at H;have aN := decide_eq_true c8;clear c8;replace H := dn H;obtain ⟨c9, H⟩ := H;have aZ := decide_eq_true c9;clear c9;replace H := dn H;obtain ⟨c10, H⟩ := H;have aV := decide_eq_true c10;clear c10;obtain ⟨a3, a8⟩ : ∃ j_ : Int, (IntKind.u64.wrap (Int.tmod a1 64)) = j_ := ⟨_, rfl⟩;replace H : (if 0 ≤ (a3) then (if a6.length < 17592186044416 then ((some (a6 ++ [Go.bits .or .u64 (shl .u64 (rd l0 a2) (a3)) a4] : List Int)).bind fun a7 => (if (a3) > 0 then (if 0 ≤ (IntKind.u64.wrap (64 - (a3))) then (ulpref03_Shl.l0 k1 a7 (a3) (shr .u64 (rd l0 a2) (IntKind.u64.wrap (64 - (a3)))) l0 (l0.length : Int) (wrap64 (a2 + 1))) else (none)) else (ulpref03_Shl.l0 k1 a7 (a3) 0 l0 (l0.length : Int) (wrap64 (a2 + 1))))) else (none)) else (none)) = some r := zQ a8 H;replace H := dn H;obtain ⟨c12, H⟩ := H;have aW := eq_true c12;have aX := decide_eq_true c12;clear c12;obtain ⟨aa, a9⟩ : ∃ j_ : Int, (shl .u64 (rd l0 a2) (a3)) = j_ := ⟨_, rfl⟩;replace H : (if a6.length < 17592186044416 then ((some (a6 ++ [Go.bits .or .u64 (aa) a4] : List Int)).bind fun a7 => (if (a3) > 0 then (if 0 ≤ (IntKind.u64.wrap (64 - (a3))) then (ulpref03_Shl.l0 k1 a7 (a3) (shr .u64 (rd l0 a2) (IntKind.u64.wrap (64 - (a3)))) l0 (l0.length : Int) (wrap64 (a2 + 1))) else (none)) else (ulpref03_Shl.l0 k1 a7 (a3) 0 l0 (l0.length : Int) (wrap64 (a2 + 1))))) else (none)) = some r := zQ a9 H;have hji13_ : (IntKind.u64.wrap ((rd l0 a2) * 2 ^ min (a3).toNat 64)) = aa := a9;have hji13z : (a3) ≤ 64 → (IntKind.u64.wrap ((rd l0 a2) * 2 ^ (a3).toNat)) = aa := shl_small a9;replace H := dn H;obtain ⟨c14, H⟩ := H;have ar := zA c14;clear c14;obtain ⟨a7, aj⟩ : ∃ y_ : List Int, y_ = (a6 ++ [Go.bits .or .u64 (aa) a4]) := ⟨_, rfl⟩;replace H : (if (a3) > 0 then (if 0 ≤ (IntKind.u64.wrap (64 - (a3))) then (ulpref03_Shl.l0 k1 a7 (a3) (shr .u64 (rd l0 a2) (IntKind.u64.wrap (64 - (a3)))) l0 (l0.length : Int) (wrap64 (a2 + 1))) else (none)) else (ulpref03_Shl.l0 k1 a7 (a3) 0 l0 (l0.length : Int) (wrap64 (a2 + 1)))) = some r := zR aj H;have au := zA aj;clear aj
    by_cases c15 : (a3) > 0
    ·rw [if_pos c15] at H;have ay := decide_eq_true c15;clear c15;obtain ⟨af, ag⟩ : ∃ j_ : Int, (IntKind.u64.wrap (64 - (a3))) = j_ := ⟨_, rfl⟩;replace H : (if 0 ≤ (af) then (ulpref03_Shl.l0 k1 a7 (a3) (shr .u64 (rd l0 a2) (af)) l0 (l0.length : Int) (wrap64 (a2 + 1))) else (none)) = some r := zQ ag H;replace H := dn H;obtain ⟨c17, H⟩ := H;have aY := eq_true c17;have az := decide_eq_true c17;clear c17;obtain ⟨ak, ab⟩ : ∃ j_ : Int, (shr .u64 (rd l0 a2) (af)) = j_ := ⟨_, rfl⟩;replace H : (ulpref03_Shl.l0 k1 a7 (a3) ak l0 (l0.length : Int) (wrap64 (a2 + 1))) = some r := zQ ab H;have hji18_ : ((rd l0 a2) / 2 ^ min (af).toNat 64) = ak := ab;have hji18z : (af) ≤ 64 → ((rd l0 a2) / 2 ^ (af).toNat) = ak := shr_small ab;have H' := zA H;clear H;have p306 : 0 ≤ (a2 : Int) := od;have q306 : a2 < (l0.length : Int) := od;obtain ⟨ad306, e306, a5⟩ := Kd.at_int aH.out a2 p306 q306;cases e306;replace a5 := (HB.out.cell (World.block_lt_of_cell? w _ a5)).trans a5;replace p306 := eq_true p306;replace q306 := eq_true q306
     go_wp2_with (first | ((with_reducible refine gate_builtin (b := .append) (xs := #[.tmp 22, .tmp 28]) rfl ?_); at_builtin; refine R_append (Kd.int .u64) (w0 := w) w.heap.size rfl (.tmp 22) (.tmp 28) 23 26 (.int .u64 0) 8 rfl Tryd.underlying23 info26 rfl (by decide) (by omega) u5 a6 (Go.bits .or .u64 (aa) a4) [.int .u64 (Go.bits .or .u64 (aa) a4)] (fun _ => True) (fun _ => False) rfl rfl ?aP (fun _ hk => hk.elim) ?aF ?aO ?aB ?aS ?aL ?_; (case aP => exact rfl); (case aB => exact bq); (case aF => exact (fun _ _ => trivial)); (case aO => exact (ru ae.out)); (case aS => exact (below_size bq)); (case aL => have := ar.out; omega); intro v308 w19 ho hb hg hat; rw [← au.out] at ho; have n0_ := zA (hb); have n1_ := zA (ho); clear HB; clear ae; have HB := n0_; have al := n1_; clear n0_ n1_; clear ho hb hg hat))
     (try simp only [← a8, ← ag])
     go_roundg k1
     case measure => have := HK1.out; omega
     case rel => exact ⟨(a7), (ak), (wrap64 (a2 + 1)), (by first | rfl | (simp; done) | (simp only [← ab] <;> (first | rfl | simp)) | (simp [*]; done)), zi, (by first | exact H' | (simp only [ad, a8, a9, ag, ab]; exact H') | (simp only [ad, a8, a9, ag, ab] at H' ⊢; exact H')), ⟨by have := HK1.out; omega⟩, ⟨ru al.out⟩, ⟨bq⟩⟩
    rw [if_neg c15] at H;have ay := decide_eq_false c15;clear c15;have H' := zA H;clear H;have p306 : 0 ≤ (a2 : Int) := od;have q306 : a2 < (l0.length : Int) := od;obtain ⟨ad306, e306, a5⟩ := Kd.at_int aH.out a2 p306 q306;cases e306;replace a5 := (HB.out.cell (World.block_lt_of_cell? w _ a5)).trans a5;replace p306 := eq_true p306;replace q306 := eq_true q306
    go_wp2_with (first | ((with_reducible refine gate_builtin (b := .append) (xs := #[.tmp 22, .tmp 28]) rfl ?_); at_builtin; refine R_append (Kd.int .u64) (w0 := w) w.heap.size rfl (.tmp 22) (.tmp 28) 23 26 (.int .u64 0) 8 rfl Tryd.underlying23 info26 rfl (by decide) (by omega) u5 a6 (Go.bits .or .u64 (aa) a4) [.int .u64 (Go.bits .or .u64 (aa) a4)] (fun _ => True) (fun _ => False) rfl rfl ?aP (fun _ hk => hk.elim) ?aF ?aO ?aB ?aS ?aL ?_; (case aP => exact rfl); (case aB => exact bq); (case aF => exact (fun _ _ => trivial)); (case aO => exact (ru ae.out)); (case aS => exact (below_size bq)); (case aL => have := ar.out; omega); intro v308 w20 ho hb hg hat; rw [← au.out] at ho; have n0_ := zA (hb); have n1_ := zA (ho); clear HB; clear ae; have HB := n0_; have al := n1_; clear n0_ n1_; clear ho hb hg hat))
    (try simp only [← a8])
    go_roundg k1
    case measure => have := HK1.out; omega
    case rel => exact ⟨(a7), (0), (wrap64 (a2 + 1)), zi, zi, (by first | exact H' | (simp only [ad, a8, a9]; exact H') | (simp only [ad, a8, a9] at H' ⊢; exact H')), ⟨by have := HK1.out; omega⟩, ⟨ru al.out⟩, ⟨bq⟩⟩
   rw [if_neg c8] at H;have aN := decide_eq_false c8;clear c8;replace H := dn H;obtain ⟨c21, H⟩ := H;have aA := zA c21;clear c21;obtain ⟨ao, am⟩ : ∃ y_ : List Int, y_ = (a6 ++ [a4]) := ⟨_, rfl⟩;replace H : ((ulpref03_Norm.f k1 ao).bind fun ap => (some ap)) = some r := zR am H;have aC := zA am;clear am;obtain ⟨ap, aU, H⟩ := zh H;obtain rfl := Option.some.inj H
   go_wp2_with (first | ((with_reducible refine gate_builtin (b := .append) (xs := #[.tmp 37, .tmp 39]) rfl ?_); at_builtin; refine R_append (Kd.int .u64) (w0 := w) w.heap.size rfl (.tmp 37) (.tmp 39) 23 26 (.int .u64 0) 8 rfl Tryd.underlying23 info26 rfl (by decide) (by omega) u5 a6 a4 [.int .u64 a4] (fun _ => True) (fun _ => False) rfl rfl ?aP (fun _ hk => hk.elim) ?aF ?aO ?aB ?aS ?aL ?_; (case aP => exact rfl); (case aB => exact bq); (case aF => exact (fun _ _ => trivial)); (case aO => exact (ru ae.out)); (case aS => exact (below_size bq)); (case aL => have := aA.out; omega); intro v311 w23 ho hb hg hat; rw [← aC.out] at ho; have n0_ := zA (hb); have n1_ := zA (ho); clear HB; clear ae; have HB := n0_; have ac := n1_; clear n0_ n1_; clear ho hb hg hat; obtain ⟨aQ, aR, aT⟩ := R_slice ac.out; subst aT) | ((with_reducible refine zG 45 rfl ?_); refine zL (some 41) rfl rfl Tryd.func45 #[.slice aQ ao.length aR] rfl ?_; (with_reducible refine (ulpref03_Norm.calls k1 _ _ ao ap _ ?aD ?aE aU.out).mono ?_); (case aD => exact zk (R_reads' ac.out).2.2); (case aE => exact (R_reads' ac.out).2.1); rintro e w25 ⟨v314, rfl, aw, hb⟩; refine ⟨_, rfl, ?_⟩; have aG := zA (R_lower (R_new' aw (R_lt (ru ac.out))) (below_size bq)); replace ac := zA (R_elder' (ru ac.out) (R_base aw) hb); replace HB := ze hb; (try clear aw)))
   go_ret;exact ⟨_, by first | rfl | (simp [errW_none, errW_some] <;> rfl) | (simp only [← ad]; first | rfl | (simp [errW_none, errW_some] <;> rfl)) | (simp [*, errW_none, errW_some] <;> rfl), ru (R_mono aG.out (fun _ hk => trivial)), bq⟩
def ulpref03_word.f (l0 : List Int) (a1 : Int) : Option (Int) := if a1 < (l0.length : Int) then (if 0 ≤ a1 then (some (rd l0 a1)) else (none)) else (some 0)
set_option maxHeartbeats 8000000 in
set_option maxRecDepth 100000 in
theorem ulpref03_word.calls (A0 : Option Addr) (c0 : Nat) (l0 : List Int) (a1 : Int) (r : Int) (w : World) (hr0 : Kd.C (Kd.int .u64) w A0 l0.length l0) (hc0 : l0.length ≤ c0) (h : ulpref03_word.f l0 a1 = some r) :
  Calls Tryd.prog 102 #[.slice A0 l0.length c0, .int .i64 a1] w fun e w' => e = .returned (.int .u64 r) ∧ Drawn0 w w' := by
 have a4 := zA hr0;have a6 := zA hc0;clear hr0 hc0;have H : (if a1 < (l0.length : Int) then (if 0 ≤ a1 then (some (rd l0 a1)) else (none)) else (some 0)) = some r := h;clear h
 by_cases c3 : a1 < (l0.length : Int)
 ·rw [if_pos c3] at H;have a2 := decide_eq_true c3;clear c3;replace H := dn H;obtain ⟨c4, H⟩ := H;have a5 := decide_eq_true c4;clear c4;obtain rfl := Option.some.inj H;have p281 : 0 ≤ (a1 : Int) := od;have q281 : a1 < (l0.length : Int) := od;obtain ⟨ad281, e281, a3⟩ := Kd.at_int a4.out a1 p281 q281;cases e281;replace p281 := eq_true p281;replace q281 := eq_true q281;go_enter Tryd.func102, Tryd.ntmps102
  go_wp2
  go_ret;exact ⟨by first | rfl | (simp; done) | (simp [*]; done), by repeat (first | exact Drawn0.refl _ | apply Drawn0.step)⟩
 rw [if_neg c3] at H;have a2 := decide_eq_false c3;clear c3;obtain rfl := Option.some.inj H;go_enter Tryd.func102, Tryd.ntmps102
 go_wp2
 go_ret;exact ⟨by first | rfl | (simp; done) | (simp [*]; done), by repeat (first | exact Drawn0.refl _ | apply Drawn0.step)⟩
end Go.Proofs.YtnjfckadjklmfaaDoor.PAll
