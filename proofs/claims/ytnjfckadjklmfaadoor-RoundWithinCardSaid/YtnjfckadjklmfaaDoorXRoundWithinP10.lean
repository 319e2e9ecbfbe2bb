/- Printed functions. -/
import Derived.Test.YtnjfckadjklmfaaDoorXRoundWithinP9
namespace Go.Proofs.YtnjfckadjklmfaaDoor.PAll
open RowKit YtnjfckadjklmfaaDoorW.PrintWords YtnjfckadjklmfaaDoorW.PrintLast YtnjfckadjklmfaaDoorW.PrintMore YtnjfckadjklmfaaDoorW.PrintWords.Kd
attribute [local go_sem] Z0V Z0W Z1d Z1e Z0E Z0F Z0X Z0Y
set_option linter.unusedVariables false
set_option maxHeartbeats 8000000
set_option maxRecDepth 100000
set_option linter.unusedSimpArgs false
attribute [local go_sem] fld75_0 fld75_1 fld75_2 ext118 ext119
def Z0b.l0 : Nat → List Int → List Int → List Int → Int → Int → Option (List Int)
 | 0, _, _, _, _, _ => none
 | k + 1, x0, x1, x5, x6, x7 => if x7 < (mx (x0.length : Int) (x1.length : Int)) then ((Z05.f x0 x7).bind fun a1 => ((Z05.f x1 x7).bind fun a2 => (if (IntKind.u64.wrap ((IntKind.u64.wrap (a1 + a2)) + x6)) < a1 then (if x5.length < 17592186044416 then (Z0b.l0 k x0 x1 (x5 ++ [IntKind.u64.wrap ((IntKind.u64.wrap (a1 + a2)) + x6)]) 1 (wrap64 (x7 + 1))) else (none)) else (if (IntKind.u64.wrap ((IntKind.u64.wrap (a1 + a2)) + x6)) = a1 then (if x6 = 1 then (if a2 > 0 then (if x5.length < 17592186044416 then (Z0b.l0 k x0 x1 (x5 ++ [IntKind.u64.wrap ((IntKind.u64.wrap (a1 + a2)) + x6)]) 1 (wrap64 (x7 + 1))) else (none)) else (if x5.length < 17592186044416 then (Z0b.l0 k x0 x1 (x5 ++ [IntKind.u64.wrap ((IntKind.u64.wrap (a1 + a2)) + x6)]) 0 (wrap64 (x7 + 1))) else (none))) else (if x5.length < 17592186044416 then (Z0b.l0 k x0 x1 (x5 ++ [IntKind.u64.wrap ((IntKind.u64.wrap (a1 + a2)) + x6)]) 0 (wrap64 (x7 + 1))) else (none))) else (if x5.length < 17592186044416 then (Z0b.l0 k x0 x1 (x5 ++ [IntKind.u64.wrap ((IntKind.u64.wrap (a1 + a2)) + x6)]) 0 (wrap64 (x7 + 1))) else (none)))))) else (if x5.length < 17592186044416 then ((ZB.f k (x5 ++ [x6])).bind fun a3 => (some a3)) else (none))
def Z0b.f (k : Nat) (l0 : List Int) (l1 : List Int) : Option (List Int) := Z0b.l0 k l0 l1 ([] : List Int) 0 0
theorem Z0b.calls (k : Nat) (A0 : Option Addr) (c0 : Nat) (l0 : List Int) (A1 : Option Addr) (c1 : Nat) (l1 : List Int) (r : List Int) (w : World) (hr0 : Kd.C Zu w A0 l0.length l0) (hc0 : l0.length ≤ c0) (hr1 : Kd.C Zu w A1 l1.length l1) (hc1 : l1.length ≤ c1) (h : Z0b.f k l0 l1 = some r) :
  Calls Tryd.prog 100 #[.slice A0 l0.length c0, .slice A1 l1.length c1] w fun e w' => ∃ v0_ : Value, e = .returned (v0_) ∧ Kd.R Zu 26 w' w.heap.size (fun _ => True) v0_ r ∧ Below w.heap.size w w' := by
 have aw := zA hr0;have ax := zA hc0;clear hr0 hc0;have ay := zA hr1;have aA := zA hc1;clear hr1 hc1;have HB := zA (Below.refl w.heap.size w);have H := h
 unfold Z0b.f at H
 clear h;have H' := zA H;clear H;go_enter Tryd.func100, Tryd.ntmps100
 go_wp2
 go_loopg [5, 6, 7] k (fun kq v5 v6 v7 w' => ∃ (a6 : List Int) (a2 : Int) (a7 : Int), v6 = .int .u64 a2 ∧ v7 = .int .i64 a7 ∧ Aside0 (Z0b.l0 kq l0 l1 a6 a2 a7 = some r) ∧ Aside0 (kq ≤ k) ∧ Aside0 (Kd.R Zu 26 w' w.heap.size (fun _ => True) v5 a6) ∧ Aside0 (Below w.heap.size w w'))
 case atStart => exact ⟨(([] : List Int)), (0), (0), zi, zi, H', zB2, ⟨by first | exact Z1S _ _ _ _ _ | exact Kd.Z2w _ _ _ _ _ | exact Z1h _ _ _ _ _ | exact Kd.Z2u _ _ _ _ _ | exact Kd.Z2v _ _ _ _ _⟩, ⟨bq⟩⟩
 case round =>
  clear H';obtain ⟨a6, a2, a7, rfl, rfl, HA, HK1, ae, HB⟩ := hrel
  cases gk with
  | zero => exact absurd HA.out (by simp [Z0b.l0])
  | succ k1 =>
   have H := HA.out;clear HA;simp only [Z0b.l0] at H;generalize a3 : mx (l0.length : Int) (l1.length : Int) = af at H;have hji3_ : (if (l0.length : Int) < (l1.length : Int) then (l1.length : Int) else (l0.length : Int)) = af := a3
   have hji3n : (if l0.length < l1.length then (l1.length : Int) else (l0.length : Int)) = af := by rw [← hji3_]; (repeat' split) <;> omega
   by_cases c4 : a7 < (af)
   rw [if_pos c4] at H;have ap := dT c4;clear c4;obtain ⟨a4, A5, H⟩ := zh H;obtain ⟨a5, A6, H⟩ := zh H
   by_cases c7 : (IntKind.u64.wrap ((IntKind.u64.wrap (a4 + a5)) + a2)) < a4
   rw [if_pos c7] at H;have aq : decide ((IntKind.u64.wrap ((IntKind.u64.wrap (a4 + a5)) + a2)) < a4) = true := dT c7;clear c7;replace H := dn H;obtain ⟨c8, H⟩ := H;have ad := zA c8;clear c8;obtain ⟨a8, a1⟩ : ∃ y_ : List Int, y_ = (a6 ++ [IntKind.u64.wrap ((IntKind.u64.wrap (a4 + a5)) + a2)]) := ⟨_, rfl⟩;(first | replace H := zRb a1 H | rw [← a1] at H | skip);have aa := zA a1;clear a1;have H' := zA H;clear H;rotate_left;rw [if_neg c7] at H;have aq : decide ((IntKind.u64.wrap ((IntKind.u64.wrap (a4 + a5)) + a2)) < a4) = false := dF c7;clear c7
   by_cases c10 : (IntKind.u64.wrap ((IntKind.u64.wrap (a4 + a5)) + a2)) = a4
   rw [if_pos c10] at H;have ag := eT c10;have ah := nF c10;clear c10
   by_cases c11 : a2 = 1
   rw [if_pos c11] at H;have ai := eT c11;have aj := nF c11;clear c11
   by_cases c12 : a5 > 0
   rw [if_pos c12] at H;have ak := dT c12;clear c12;replace H := dn H;obtain ⟨c8, H⟩ := H;have ad := zA c8;clear c8;obtain ⟨a8, a1⟩ : ∃ y_ : List Int, y_ = (a6 ++ [IntKind.u64.wrap ((IntKind.u64.wrap (a4 + a5)) + a2)]) := ⟨_, rfl⟩;(first | replace H := zRb a1 H | rw [← a1] at H | skip);have aa := zA a1;clear a1;have H' := zA H;clear H;rotate_left;rw [if_neg c12] at H;have ak := dF c12;clear c12;replace H := dn H;obtain ⟨c8, H⟩ := H;have ad := zA c8;clear c8;obtain ⟨a8, a1⟩ : ∃ y_ : List Int, y_ = (a6 ++ [IntKind.u64.wrap ((IntKind.u64.wrap (a4 + a5)) + a2)]) := ⟨_, rfl⟩;(first | replace H := zRb a1 H | rw [← a1] at H | skip);have aa := zA a1;clear a1;have H' := zA H;clear H;rotate_left;rw [if_neg c11] at H;have ai := eF c11;have aj := nT c11;replace H := dn H;obtain ⟨c8, H⟩ := H;have ad := zA c8;clear c8;obtain ⟨a8, a1⟩ : ∃ y_ : List Int, y_ = (a6 ++ [IntKind.u64.wrap ((IntKind.u64.wrap (a4 + a5)) + a2)]) := ⟨_, rfl⟩;(first | replace H := zRb a1 H | rw [← a1] at H | skip);have aa := zA a1;clear a1;have H' := zA H;clear H;rotate_left;rw [if_neg c10] at H;have ag := eF c10;have ah := nT c10;replace H := dn H;obtain ⟨c8, H⟩ := H;have ad := zA c8;clear c8;obtain ⟨a8, a1⟩ : ∃ y_ : List Int, y_ = (a6 ++ [IntKind.u64.wrap ((IntKind.u64.wrap (a4 + a5)) + a2)]) := ⟨_, rfl⟩;(first | replace H := zRb a1 H | rw [← a1] at H | skip);have aa := zA a1;clear a1;have H' := zA H;clear H;rotate_left;rw [if_neg c4] at H;have ap := dF c4;clear c4;replace H := dn H;obtain ⟨c21, H⟩ := H;have al := zA c21;clear c21;obtain ⟨ar, ac⟩ : ∃ y_ : List Int, y_ = (a6 ++ [a2]) := ⟨_, rfl⟩;(first | replace H := zRb ac H | rw [← ac] at H | skip);have am := zA ac;clear ac;obtain ⟨au, aC, H⟩ := zh H;obtain rfl := zk1 H;rotate_left
   all_goals
    go_wp2_with (first | ((with_reducible refine zG 102 rfl ?_); refine zC (some 22) Tryd.func102 (Z05.calls _ _ l0 a7 a4 _ (zk (Za aw.out HB.out)) (ax.out) A5.out) ?_; rintro e w' ⟨rfl, ⟨nd, rfl⟩⟩; refine ⟨_, rfl, ?_⟩) | ((with_reducible refine zG 102 rfl ?_); refine zC (some 25) Tryd.func102 (Z05.calls _ _ l1 a7 a5 _ (zk (Za ay.out bq)) (aA.out) A6.out) ?_; rintro e w' ⟨rfl, ⟨nd, rfl⟩⟩; refine ⟨_, rfl, ?_⟩) | ((with_reducible refine Z1i (b := .append) (xs := #[.tmp 47, .tmp 49]) rfl ?_); at_builtin; refine Z2s Zu (w0 := w) w.heap.size rfl (.tmp 47) (.tmp 49) 23 26 (.int .u64 0) 8 rfl Tryd.underlying23 info26 rfl (by decide) (by omega) u5 a6 (IntKind.u64.wrap ((IntKind.u64.wrap (a4 + a5)) + a2)) [.int .u64 (IntKind.u64.wrap ((IntKind.u64.wrap (a4 + a5)) + a2))] (fun _ => True) (fun _ => False) rfl rfl ?aP (fun _ hk => hk.elim) ?aF ?aO ?aB ?aS ?aL ?_; (case aP => exact rfl); (case aB => exact bq); (case aF => exact (fun _ _ => trivial)); (case aO => exact (ru ae.out)); (case aS => exact (Z7 bq)); (case aL => have := ad.out; omega); intro v328 w9 ho hb hg hat; rw [← aa.out] at ho; have n0_ := zA (hb); have n1_ := zA (ho); clear HB; clear ae; have HB := n0_; have ab := n1_; clear n0_ n1_; clear ho hb hg hat) | ((with_reducible refine Z1i (b := .append) (xs := #[.tmp 51, .tmp 53]) rfl ?_); at_builtin; refine Z2s Zu (w0 := w) w.heap.size rfl (.tmp 51) (.tmp 53) 23 26 (.int .u64 0) 8 rfl Tryd.underlying23 info26 rfl (by decide) (by omega) u5 a6 a2 [.int .u64 a2] (fun _ => True) (fun _ => False) rfl rfl ?aP (fun _ hk => hk.elim) ?aF ?aO ?aB ?aS ?aL ?_; (case aP => exact rfl); (case aB => exact bq); (case aF => exact (fun _ _ => trivial)); (case aO => exact (ru ae.out)); (case aS => exact (Z7 bq)); (case aL => have := al.out; omega); intro v320 w23 ho hb hg hat; rw [← am.out] at ho; have n0_ := zA (hb); have n1_ := zA (ho); clear HB; clear ae; have HB := n0_; have a9 := n1_; clear n0_ n1_; clear ho hb hg hat; obtain ⟨aD, aE, av⟩ := ZO a9.out; subst av) | ((with_reducible refine zG 45 rfl ?_); refine zC (some 55) Tryd.func45 (ZB.calls k1 _ _ ar au _ (zk (Zi a9.out).2.2) ((Zi a9.out).2.1) aC.out) ?_; rintro e w25 ⟨v323, rfl, ao, hb⟩; refine ⟨_, rfl, ?_⟩; have an := zA (ZH (ZN ao (Z0d (ru a9.out))) (Z7 bq)); replace a9 := zA (Zx (ru a9.out) (ZA ao) hb); replace HB := ze hb))
   ·(try simp only [← a3])
    go_roundg k1
    case measure => have := HK1.out; omega
    case rel => exact ⟨(a8), (1), (wrap64 (a7 + 1)), zi, zi, (by first | exact H' | (simp only [a3]; exact H') | (simp only [a3] at H' ⊢; exact H')), zB1, ⟨ru ab.out⟩, ⟨bq⟩⟩
   ·(try simp only [← a3])
    go_roundg k1
    case measure => have := HK1.out; omega
    case rel => exact ⟨(a8), (1), (wrap64 (a7 + 1)), zi, zi, (by first | exact H' | (simp only [a3]; exact H') | (simp only [a3] at H' ⊢; exact H')), zB1, ⟨ru ab.out⟩, ⟨bq⟩⟩
   ·(try simp only [← a3])
    go_roundg k1
    case measure => have := HK1.out; omega
    case rel => exact ⟨(a8), (0), (wrap64 (a7 + 1)), zi, zi, (by first | exact H' | (simp only [a3]; exact H') | (simp only [a3] at H' ⊢; exact H')), zB1, ⟨ru ab.out⟩, ⟨bq⟩⟩
   ·(try simp only [← a3])
    go_roundg k1
    case measure => have := HK1.out; omega
    case rel => exact ⟨(a8), (0), (wrap64 (a7 + 1)), zi, zi, (by first | exact H' | (simp only [a3]; exact H') | (simp only [a3] at H' ⊢; exact H')), zB1, ⟨ru ab.out⟩, ⟨bq⟩⟩
   ·(try simp only [← a3])
    go_roundg k1
    case measure => have := HK1.out; omega
    case rel => exact ⟨(a8), (0), (wrap64 (a7 + 1)), zi, zi, (by first | exact H' | (simp only [a3]; exact H') | (simp only [a3] at H' ⊢; exact H')), zB1, ⟨ru ab.out⟩, ⟨bq⟩⟩
   go_ret;exact ⟨_, by first | rfl | (simp [errW_none, errW_some] <;> rfl) | (simp only [← a3]; first | rfl | (simp [errW_none, errW_some] <;> rfl)) | (simp [*, errW_none, errW_some] <;> rfl), ru (ZC an.out (fun _ hk => trivial)), bq⟩
mutual
def ZS.l0 : Nat → List Int → Int → Bool → List Int → Int → Int → Option (List Int × Bool)
 | 0, _, _, _, _, _, _ => none
 | k + 1, x0, x1, x6, x24, x25, x26 => if x26 < x25 then (if 0 ≤ x26 then (if x26 < (x24.length : Int) then (if x6 = true then (ZS.l0 k x0 x1 true x24 x25 (wrap64 (x26 + 1))) else (ZS.l0 k x0 x1 ((rd x24 x26) != 0) x24 x25 (wrap64 (x26 + 1)))) else (none)) else (none)) else (ZS.l1 k x0 x1 x6 (IntKind.u64.wrap (Int.tmod x1 64)) ([] : List Int) (wrap64 (Int.tdiv x1 64)))
def ZS.l1 : Nat → List Int → Int → Bool → Int → List Int → Int → Option (List Int × Bool)
 | 0, _, _, _, _, _, _ => none
 | k + 1, x0, x1, x6, x9, x10, x11 => if x11 < (x0.length : Int) then (if 0 ≤ x11 then (if 0 ≤ x9 then (if x9 > 0 then ((Z05.f x0 (wrap64 (x11 + 1))).bind fun a1 => (if 0 ≤ (IntKind.u64.wrap (64 - x9)) then (if x10.length < 17592186044416 then (ZS.l1 k x0 x1 x6 x9 (x10 ++ [Go.bits .or .u64 (shr .u64 (rd x0 x11) x9) (shl .u64 a1 (IntKind.u64.wrap (64 - x9)))]) (wrap64 (x11 + 1))) else (none)) else (none))) else (if x10.length < 17592186044416 then (ZS.l1 k x0 x1 x6 x9 (x10 ++ [shr .u64 (rd x0 x11) x9]) (wrap64 (x11 + 1))) else (none))) else (none)) else (none)) else (if x9 > 0 then (if x6 = true then ((ZB.f k x10).bind fun a2 => (some (a2, true))) else (if 0 ≤ (wrap64 (Int.tdiv x1 64)) then (if (wrap64 (Int.tdiv x1 64)) < (x0.length : Int) then (if 0 ≤ (IntKind.u64.wrap (64 - x9)) then ((ZB.f k x10).bind fun a3 => (some (a3, ((shl .u64 (rd x0 (wrap64 (Int.tdiv x1 64))) (IntKind.u64.wrap (64 - x9))) != 0)))) else (none)) else (none)) else (none))) else ((ZB.f k x10).bind fun a4 => (some (a4, x6))))
end
def ZS.f (k : Nat) (l0 : List Int) (a1 : Int) : Option (List Int × Bool) := if a1 ≥ (wrap64 (64 * (l0.length : Int))) then ((Z0g.f k l0).bind fun a2 => (some (([] : List Int), decide (a2 > 0)))) else (if 0 ≤ (wrap64 (Int.tdiv a1 64)) then (if (wrap64 (Int.tdiv a1 64)) ≤ (l0.length : Int) then (ZS.l0 k l0 a1 false (l0.take ((wrap64 (Int.tdiv a1 64)) : Int).toNat) (max (wrap64 (Int.tdiv a1 64)) 0) 0) else (none)) else (none))
theorem ZS.calls (k : Nat) (A0 : Option Addr) (c0 : Nat) (l0 : List Int) (a1 : Int) (r1 : List Int) (r2 : Bool) (w : World) (hr0 : Kd.C Zu w A0 l0.length l0) (hc0 : l0.length ≤ c0) (h : ZS.f k l0 a1 = some (r1, r2)) :
  Calls Tryd.prog 72 #[.slice A0 l0.length c0, .int .i64 a1] w fun e w' => ∃ v0_ : Value, e = .returned (.tuple #[v0_, .bool r2]) ∧ Kd.R Zu 26 w' w.heap.size (fun _ => True) v0_ r1 ∧ Below w.heap.size w w' := by
 have an := zA hr0;have aw := zA hc0;clear hr0 hc0;have HB := zA (Below.refl w.heap.size w);have H := h
 unfold ZS.f at H
 clear h
 by_cases c3 : a1 ≥ (wrap64 (64 * (l0.length : Int)))
 ·rw [if_pos c3] at H;have aU := dT c3;clear c3;obtain ⟨aV, A4, H⟩ := zh H;simp only [zk3, zk7] at H;obtain ⟨rfl, rfl⟩ := H;go_enter Tryd.func72, Tryd.ntmps72
  go_wp2_with (first | ((with_reducible refine zG 69 rfl ?_); refine zC (some 19) Tryd.func69 (Z0g.calls k _ _ l0 aV _ (zk an.out) (aw.out) A4.out) ?_; rintro e w5 ⟨rfl, hb⟩; refine ⟨_, rfl, ?_⟩; replace HB := ze hb))
  go_ret2
  exact ⟨_, er, by first | exact Z1S _ _ _ _ _ | exact Kd.Z2w _ _ _ _ _ | exact Z1h _ _ _ _ _ | exact Kd.Z2u _ _ _ _ _ | exact Kd.Z2v _ _ _ _ _, bq⟩
 rw [if_neg c3] at H;have aU := dF c3;clear c3;generalize a6 : wrap64 (Int.tdiv a1 64) = a5 at H;have hji6w : (IntKind.i64.wrap (Int.tdiv a1 64)) = a5 := (Z1b _).trans a6;replace H := dn H;obtain ⟨c7, H⟩ := H;have bj := eq_true c7;have bk := dT c7;clear c7;replace H := dn H;obtain ⟨c8, H⟩ := H;have bl := eq_true c8;have bm := dT c8;clear c8;have H' := zA H;clear H;obtain ⟨i09, hi09, _, hsz9, _⟩ := info_parts info26;obtain ⟨hcut9, hA9, hC9⟩ := Z2F (P := Tryd.prog) (Value.int .u64) 0 23 26 .i64 Tryd.underlying23 hi09 hsz9 A0 c0 l0 (a5) (od) (od) aw.out;have av := zA (Z1T (h1 := fun _ => rfl) (hA9 _ (Kd.Z2W an.out)));have b7 := zA hC9;clear hA9 hC9 hi09 hsz9;go_enter Tryd.func72, Tryd.ntmps72
 go_wp2
 go_loopg [6, 26] k (fun kq v6 v26 w' => ∃ (ae : Bool) (a4 : Int), v6 = .bool ae ∧ v26 = .int .i64 a4 ∧ Aside0 (ZS.l0 kq l0 a1 ae (l0.take ((a5) : Int).toNat) (max (a5) 0) a4 = some (r1, r2)) ∧ Aside0 (kq ≤ k) ∧ Aside0 (Below w.heap.size w w'))
 case atStart => exact ⟨(false), (0), zi, zi, H', zB2, ⟨bq⟩⟩
 case round =>
  clear H';obtain ⟨ae, a4, rfl, rfl, HA, HK1, HB⟩ := hrel
  cases gk with
  | zero => exact absurd HA.out (by simp [ZS.l0])
  | succ k1 =>
   have H := HA.out;clear HA;simp only [ZS.l0] at H
   by_cases c10 : a4 < (max (a5) 0)
   ·rw [if_pos c10] at H;have aA := dT c10;have c10bx : (a4 < (max (a5) 0)) = True := eq_true c10;clear c10;replace H := dn H;obtain ⟨c11, H⟩ := H;have b8 := dT c11;clear c11;replace H := dn H;obtain ⟨c12, H⟩ := H;have b9 : decide (a4 < ((l0.take ((a5) : Int).toNat).length : Int)) = true := dT c12;clear c12
    by_cases c13 : ae = true
    ·subst c13;rw [if_pos rfl] at H;have H' := zA H;clear H;have p284 : 0 ≤ (a4 : Int) := od;have q284 : a4 < ((l0.take ((a5) : Int).toNat).length : Int) := od;obtain ⟨ad284, e284, a8⟩ := Kd.ZF av.out a4 p284 q284;cases e284;replace a8 := (HB.out.cell (World.block_lt_of_cell? w _ a8)).trans a8;replace p284 := eq_true p284;replace q284 := eq_true q284
     go_wp2
     go_roundg k1
     case measure => have := HK1.out; omega
     case rel => exact ⟨(true), (wrap64 (a4 + 1)), zi, zi, (by first | exact H' | (simp only [a6]; exact H') | (simp only [a6] at H' ⊢; exact H')), zB1, ⟨bq⟩⟩
    replace c13 := Bool.eq_false_iff.mpr c13;subst c13;rw [if_neg (show ¬ (false = true) by decide)] at H;have H' := zA H;clear H;have p284 : 0 ≤ (a4 : Int) := od;have q284 : a4 < ((l0.take ((a5) : Int).toNat).length : Int) := od;obtain ⟨ad284, e284, a8⟩ := Kd.ZF av.out a4 p284 q284;cases e284;replace a8 := (HB.out.cell (World.block_lt_of_cell? w _ a8)).trans a8;replace p284 := eq_true p284;replace q284 := eq_true q284
    go_wp2
    go_roundg k1
    case measure => have := HK1.out; omega
    case rel => exact ⟨(((rd (l0.take ((a5) : Int).toNat) a4) != 0)), (wrap64 (a4 + 1)), (by first | rfl | (simp; done) | (simp only [← a6] <;> (first | rfl | simp)) | (simp [*]; done)), zi, (by first | exact H' | (simp only [a6]; exact H') | (simp only [a6] at H' ⊢; exact H')), zB1, ⟨bq⟩⟩
   rw [if_neg c10] at H;have aA := dF c10;clear c10;have H' := zA H;clear H
   go_wp2
   go_loopg [10, 11] k1 (fun kq v10 v11 w' => ∃ (a7 : List Int) (a3 : Int), v11 = .int .i64 a3 ∧ Aside0 (ZS.l1 kq l0 a1 ae (IntKind.u64.wrap (Int.tmod a1 64)) a7 a3 = some (r1, r2)) ∧ Aside0 (kq ≤ k1) ∧ Aside0 (Kd.R Zu 26 w' w.heap.size (fun _ => True) v10 a7) ∧ Aside0 (Below w.heap.size w w'))
   case atStart => exact ⟨(([] : List Int)), (wrap64 (Int.tdiv a1 64)), zi, H', zB2, ⟨by first | exact Z1S _ _ _ _ _ | exact Kd.Z2w _ _ _ _ _ | exact Z1h _ _ _ _ _ | exact Kd.Z2u _ _ _ _ _ | exact Kd.Z2v _ _ _ _ _⟩, ⟨bq⟩⟩
   case round =>
    clear H';obtain ⟨a7, a3, rfl, HA, HK2, a2, HB⟩ := hrel
    cases gk with
    | zero => exact absurd HA.out (by simp [ZS.l1])
    | succ k2 =>
     have H := HA.out;clear HA;simp only [ZS.l1] at H
     by_cases c14 : a3 < (l0.length : Int)
     ·rw [if_pos c14] at H;have aC := dT c14;clear c14;replace H := dn H;obtain ⟨c15, H⟩ := H;have ba := dT c15;clear c15;generalize ab : IntKind.u64.wrap (Int.tmod a1 64) = af at H;replace H := dn H;obtain ⟨c17, H⟩ := H;have bb := eq_true c17;have bc := dT c17;clear c17;generalize ac : shr .u64 (rd l0 a3) (af) = aa at H;have hji18_ : ((rd l0 a3) / 2 ^ min (af).toNat 64) = aa := ac;have hji18z : (af) ≤ 64 → ((rd l0 a3) / 2 ^ (af).toNat) = aa := Z2i ac
      by_cases c19 : (af) > 0
      ·rw [if_pos c19] at H;have aD := dT c19;clear c19;obtain ⟨ao, ax, H⟩ := zh H;generalize ai : IntKind.u64.wrap (64 - (af)) = ap at H;(try rw [ai] at ax);replace H := dn H;obtain ⟨c22, H⟩ := H;have bd := eq_true c22;have be := dT c22;clear c22;generalize ad : shl .u64 ao (ap) = am at H;(try rw [ad] at ax);have hji23_ : (IntKind.u64.wrap (ao * 2 ^ min (ap).toNat 64)) = am := ad;have hji23z : (ap) ≤ 64 → (IntKind.u64.wrap (ao * 2 ^ (ap).toNat)) = am := Z28 ad;replace H := dn H;obtain ⟨c24, H⟩ := H;have aE := zA c24;clear c24;obtain ⟨aW, aj⟩ : ∃ y_ : List Int, y_ = (a7 ++ [Go.bits .or .u64 (aa) (am)]) := ⟨_, rfl⟩;(first | replace H := zRb aj H | rw [← aj] at H | skip);have aG := zA aj;clear aj;have H' := zA H;clear H;have p285 : 0 ≤ (a3 : Int) := od;have q285 : a3 < (l0.length : Int) := od;obtain ⟨ad285, e285, a9⟩ := Kd.ZF an.out a3 p285 q285;cases e285;replace a9 := (HB.out.cell (World.block_lt_of_cell? w _ a9)).trans a9;replace p285 := eq_true p285;replace q285 := eq_true q285
       go_wp2_with (first | ((with_reducible refine zG 102 rfl ?_); refine zC (some 59) Tryd.func102 (Z05.calls _ _ l0 (wrap64 (a3 + 1)) ao _ (zk (Za an.out HB.out)) (aw.out) ax.out) ?_; rintro e w' ⟨rfl, ⟨nd, rfl⟩⟩; refine ⟨_, rfl, ?_⟩) | ((with_reducible refine Z1i (b := .append) (xs := #[.tmp 64, .tmp 66]) rfl ?_); at_builtin; refine Z2s Zu (w0 := w) w.heap.size rfl (.tmp 64) (.tmp 66) 23 26 (.int .u64 0) 8 rfl Tryd.underlying23 info26 rfl (by decide) (by omega) u10 a7 (Go.bits .or .u64 (aa) (am)) [.int .u64 (Go.bits .or .u64 (aa) (am))] (fun _ => True) (fun _ => False) rfl rfl ?aP (fun _ hk => hk.elim) ?aF ?aO ?aB ?aS ?aL ?_; (case aP => exact rfl); (case aB => exact bq); (case aF => exact (fun _ _ => trivial)); (case aO => exact (ru a2.out)); (case aS => exact (Z7 bq)); (case aL => have := aE.out; omega); intro v288 w25 ho hb hg hat; rw [← aG.out] at ho; have n0_ := zA (hb); have n1_ := zA (ho); clear HB; clear a2; have HB := n0_; have aH := n1_; clear n0_ n1_; clear ho hb hg hat))
       (try simp only [← ab, ← ai])
       go_roundg k2
       case measure => have := HK1.out; have := HK2.out; omega
       case rel => exact ⟨(aW), (wrap64 (a3 + 1)), zi, (by first | exact H' | (simp only [a6, ab, ac, ai, ad]; exact H') | (simp only [a6, ab, ac, ai, ad] at H' ⊢; exact H')), ⟨by have := HK1.out; have := HK2.out; omega⟩, ⟨ru aH.out⟩, ⟨bq⟩⟩
      rw [if_neg c19] at H;have aD := dF c19;clear c19;replace H := dn H;obtain ⟨c26, H⟩ := H;have aI := zA c26;clear c26;obtain ⟨aX, ak⟩ : ∃ y_ : List Int, y_ = (a7 ++ [aa]) := ⟨_, rfl⟩;(first | replace H := zRb ak H | rw [← ak] at H | skip);have aJ := zA ak;clear ak;have H' := zA H;clear H;have p285 : 0 ≤ (a3 : Int) := od;have q285 : a3 < (l0.length : Int) := od;obtain ⟨ad285, e285, a9⟩ := Kd.ZF an.out a3 p285 q285;cases e285;replace a9 := (HB.out.cell (World.block_lt_of_cell? w _ a9)).trans a9;replace p285 := eq_true p285;replace q285 := eq_true q285
      go_wp2_with (first | ((with_reducible refine Z1i (b := .append) (xs := #[.tmp 64, .tmp 66]) rfl ?_); at_builtin; refine Z2s Zu (w0 := w) w.heap.size rfl (.tmp 64) (.tmp 66) 23 26 (.int .u64 0) 8 rfl Tryd.underlying23 info26 rfl (by decide) (by omega) u10 a7 aa [.int .u64 aa] (fun _ => True) (fun _ => False) rfl rfl ?aP (fun _ hk => hk.elim) ?aF ?aO ?aB ?aS ?aL ?_; (case aP => exact rfl); (case aB => exact bq); (case aF => exact (fun _ _ => trivial)); (case aO => exact (ru a2.out)); (case aS => exact (Z7 bq)); (case aL => have := aI.out; omega); intro v291 w27 ho hb hg hat; rw [← aJ.out] at ho; have n0_ := zA (hb); have n1_ := zA (ho); clear HB; clear a2; have HB := n0_; have aK := n1_; clear n0_ n1_; clear ho hb hg hat))
      (try simp only [← ab])
      go_roundg k2
      case measure => have := HK1.out; have := HK2.out; omega
      case rel => exact ⟨(aX), (wrap64 (a3 + 1)), zi, (by first | exact H' | (simp only [a6, ab, ac]; exact H') | (simp only [a6, ab, ac] at H' ⊢; exact H')), ⟨by have := HK1.out; have := HK2.out; omega⟩, ⟨ru aK.out⟩, ⟨bq⟩⟩
     rw [if_neg c14] at H;have aC := dF c14;clear c14
     by_cases c28 : (IntKind.u64.wrap (Int.tmod a1 64)) > 0
     ·rw [if_pos c28] at H;have aM := dT c28;clear c28
      by_cases c29 : ae = true
      ·subst c29;rw [if_pos rfl] at H;obtain ⟨aY, b4, H⟩ := zh H;simp only [zk3, zk7] at H;obtain ⟨rfl, rfl⟩ := H;obtain ⟨bn, bo, az⟩ := ZO a2.out;subst az
       go_wp2_with (first | ((with_reducible refine zG 45 rfl ?_); refine zC (some 83) Tryd.func45 (ZB.calls k2 _ _ a7 aY _ (zk (Zi a2.out).2.2) ((Zi a2.out).2.1) b4.out) ?_; rintro e w32 ⟨v294, rfl, ah, hb⟩; refine ⟨_, rfl, ?_⟩; have aN := zA (ZH (ZN ah (Z0d (ru a2.out))) (Z7 bq)); replace a2 := zA (Zx (ru a2.out) (ZA ah) hb); replace HB := ze hb))
       go_ret2
       exact ⟨_, by first | rfl | (simp [errW_none, errW_some] <;> rfl) | (simp only [← a6]; first | rfl | (simp [errW_none, errW_some] <;> rfl)) | (simp [*, errW_none, errW_some] <;> rfl), ru (ZC aN.out (fun _ hk => trivial)), bq⟩
      replace c29 := Bool.eq_false_iff.mpr c29;subst c29;rw [if_neg (show ¬ (false = true) by decide)] at H;obtain ⟨aZ, al⟩ : ∃ j_ : Int, (wrap64 (Int.tdiv a1 64)) = j_ := ⟨_, rfl⟩;obtain rfl : a5 = aZ := a6.symm.trans al;replace H : (if 0 ≤ (a5) then (if (a5) < (l0.length : Int) then (if 0 ≤ (IntKind.u64.wrap (64 - (IntKind.u64.wrap (Int.tmod a1 64)))) then ((ZB.f k2 a7).bind fun au => (some (au, ((shl .u64 (rd l0 (a5)) (IntKind.u64.wrap (64 - (IntKind.u64.wrap (Int.tmod a1 64))))) != 0)))) else (none)) else (none)) else (none)) = some (r1, r2) := zQ al H;have hji33w : (IntKind.i64.wrap (Int.tdiv a1 64)) = a5 := (Z1b _).trans al;replace H := dn H;obtain ⟨c34, H⟩ := H;have bf := dT c34;clear c34;replace H := dn H;obtain ⟨c35, H⟩ := H;have bg := dT c35;clear c35;generalize aQ : IntKind.u64.wrap (64 - (IntKind.u64.wrap (Int.tmod a1 64))) = aq at H;replace H := dn H;obtain ⟨c37, H⟩ := H;have bh := eq_true c37;have bi := dT c37;clear c37;generalize ar : shl .u64 (rd l0 (a5)) (aq) = ay at H;have hji38_ : (IntKind.u64.wrap ((rd l0 (a5)) * 2 ^ min (aq).toNat 64)) = ay := ar;have hji38z : (aq) ≤ 64 → (IntKind.u64.wrap ((rd l0 (a5)) * 2 ^ (aq).toNat)) = ay := Z28 ar;obtain ⟨au, b5, H⟩ := zh H;simp only [zk3, zk7] at H;obtain ⟨rfl, rfl⟩ := H;have p296 : 0 ≤ ((a5) : Int) := od;have q296 : (a5) < (l0.length : Int) := od;obtain ⟨ad296, e296, ag⟩ := Kd.ZF an.out (a5) p296 q296;cases e296;replace ag := (HB.out.cell (World.block_lt_of_cell? w _ ag)).trans ag;replace p296 := eq_true p296;replace q296 := eq_true q296;obtain ⟨bp, br, b1⟩ := ZO a2.out;subst b1
      go_wp2_with (first | ((with_reducible refine zG 45 rfl ?_); refine zC (some 83) Tryd.func45 (ZB.calls k2 _ _ a7 au _ (zk (Zi a2.out).2.2) ((Zi a2.out).2.1) b5.out) ?_; rintro e w41 ⟨v298, rfl, ah, hb⟩; refine ⟨_, rfl, ?_⟩; have aR := zA (ZH (ZN ah (Z0d (ru a2.out))) (Z7 bq)); replace a2 := zA (Zx (ru a2.out) (ZA ah) hb); replace HB := ze hb))
      go_ret2
      exact ⟨_, by first | rfl | (simp [errW_none, errW_some] <;> rfl) | (simp only [← a6, ← al, ← aQ, ← ar]; first | rfl | (simp [errW_none, errW_some] <;> rfl)) | (simp [*, errW_none, errW_some] <;> rfl), ru (ZC aR.out (fun _ hk => trivial)), bq⟩
     rw [if_neg c28] at H;have aM := dF c28;clear c28;obtain ⟨b2, b6, H⟩ := zh H;simp only [zk3, zk7] at H;obtain ⟨rfl, rfl⟩ := H;obtain ⟨bs, bt, b3⟩ := ZO a2.out;subst b3
     go_wp2_with (first | ((with_reducible refine zG 45 rfl ?_); refine zC (some 83) Tryd.func45 (ZB.calls k2 _ _ a7 b2 _ (zk (Zi a2.out).2.2) ((Zi a2.out).2.1) b6.out) ?_; rintro e w44 ⟨v301, rfl, ah, hb⟩; refine ⟨_, rfl, ?_⟩; have aT := zA (ZH (ZN ah (Z0d (ru a2.out))) (Z7 bq)); replace a2 := zA (Zx (ru a2.out) (ZA ah) hb); replace HB := ze hb))
     go_ret2
     exact ⟨_, by first | rfl | (simp [errW_none, errW_some] <;> rfl) | (simp only [← a6]; first | rfl | (simp [errW_none, errW_some] <;> rfl)) | (simp [*, errW_none, errW_some] <;> rfl), ru (ZC aT.out (fun _ hk => trivial)), bq⟩
def Z1I.f (l0 : List Int) (a1 : Int) : Option (Bool) := if a1 ≥ 0 then ((Z05.f l0 (wrap64 (Int.tdiv a1 64))).bind fun a2 => (if 0 ≤ (IntKind.u64.wrap (Int.tmod a1 64)) then (some ((Int.tmod (shr .u64 a2 (IntKind.u64.wrap (Int.tmod a1 64))) 2) == 1)) else (none))) else (some false)
theorem Z1I.calls (A0 : Option Addr) (c0 : Nat) (l0 : List Int) (a1 : Int) (r : Bool) (w : World) (hr0 : Kd.C Zu w A0 l0.length l0) (hc0 : l0.length ≤ c0) (h : Z1I.f l0 a1 = some r) :
  Calls Tryd.prog 98 #[.slice A0 l0.length c0, .int .i64 a1] w fun e w' => e = .returned (.bool r) ∧ Drawn0 w w' := by
 have aa := zA hr0;have ab := zA hc0;clear hr0 hc0;have H := h
 unfold Z1I.f at H
 clear h
 by_cases c3 : a1 ≥ 0
 ·rw [if_pos c3] at H;have a9 := dT c3;clear c3;obtain ⟨a2, A4, H⟩ := zh H;generalize a5 : IntKind.u64.wrap (Int.tmod a1 64) = a4 at H;(try rw [a5] at A4);replace H := dn H;obtain ⟨c6, H⟩ := H;have ac := eq_true c6;have ad := dT c6;clear c6;generalize a3 : shr .u64 a2 (a4) = a8 at H;(try rw [a3] at A4);have hji7_ : (a2 / 2 ^ min (a4).toNat 64) = a8 := a3;have hji7z : (a4) ≤ 64 → (a2 / 2 ^ (a4).toNat) = a8 := Z2i a3;obtain rfl := zk1 H;go_enter Tryd.func98, Tryd.ntmps98
  go_wp2_with (first | (go_at_call 102; (with_reducible refine (Z05.calls _ _ l0 (wrap64 (Int.tdiv a1 64)) a2 _ ?a6 ?a7 A4.out).mono ?_); (case a6 => exact zk aa.out); (case a7 => exact ab.out); rintro e w' ⟨rfl, ⟨nd, rfl⟩⟩))
  go_ret;exact ⟨by first | rfl | (simp; done) | (simp only [← a5, ← a3] <;> (first | rfl | simp)) | (simp [*]; done), by repeat (first | exact Drawn0.refl _ | apply Drawn0.step)⟩
 rw [if_neg c3] at H;have a9 := dF c3;clear c3;obtain rfl := zk1 H;go_enter Tryd.func98, Tryd.ntmps98
 go_wp2
 go_ret;exact ⟨by first | rfl | (simp; done) | (simp [*]; done), by repeat (first | exact Drawn0.refl _ | apply Drawn0.step)⟩
def Z0x.l0 : Nat → List Int → Int → Option (Int)
 | 0, _, _ => none
 | k + 1, x0, x3 => (Z1I.f x0 x3).bind fun a1 => (if a1 = true then (some x3) else (Z0x.l0 k x0 (wrap64 (x3 + 1))))
def Z0x.f (k : Nat) (l0 : List Int) : Option (Int) := (Z0g.f k l0).bind fun a1 => (if a1 = 0 then (some 0) else (Z0x.l0 k l0 0))
theorem Z0x.calls (k : Nat) (A0 : Option Addr) (c0 : Nat) (l0 : List Int) (r : Int) (w : World) (hr0 : Kd.C Zu w A0 l0.length l0) (hc0 : l0.length ≤ c0) (h : Z0x.f k l0 = some r) :
  Calls Tryd.prog 99 #[.slice A0 l0.length c0] w fun e w' => e = .returned (.int .i64 r) ∧ Below w.heap.size w w' := by
 have a3 := zA hr0;have a4 := zA hc0;clear hr0 hc0;have HB := zA (Below.refl w.heap.size w);have H := h
 unfold Z0x.f at H
 clear h;obtain ⟨a2, A2, H⟩ := zh H
 by_cases c3 : a2 = 0
 ·rw [if_pos c3] at H;have a5 := eT c3;have a6 := nF c3;clear c3;obtain rfl := zk1 H;go_enter Tryd.func99, Tryd.ntmps99
  go_wp2_with (first | ((with_reducible refine zG 69 rfl ?_); refine zC (some 5) Tryd.func69 (Z0g.calls k _ _ l0 a2 _ (zk a3.out) (a4.out) A2.out) ?_; rintro e w4 ⟨rfl, hb⟩; refine ⟨_, rfl, ?_⟩; replace HB := ze hb))
  go_ret;exact ⟨er, bq⟩
 rw [if_neg c3] at H;have a5 := eF c3;have a6 := nT c3;have H' := zA H;clear H;go_enter Tryd.func99, Tryd.ntmps99
 go_wp2_with (first | ((with_reducible refine zG 69 rfl ?_); refine zC (some 5) Tryd.func69 (Z0g.calls k _ _ l0 a2 _ (zk a3.out) (a4.out) A2.out) ?_; rintro e w5 ⟨rfl, hb⟩; refine ⟨_, rfl, ?_⟩; replace HB := ze hb))
 go_loopg [3] k (fun kq v3 w' => ∃ (a1 : Int), v3 = .int .i64 a1 ∧ Aside0 (Z0x.l0 kq l0 a1 = some r) ∧ Aside0 (kq ≤ k) ∧ Aside0 (Below w.heap.size w w'))
 case atStart => exact ⟨(0), zi, H', zB2, ⟨bq⟩⟩
 case round =>
  clear H';obtain ⟨a1, rfl, HA, HK1, HB⟩ := hrel
  cases gk with
  | zero => exact absurd HA.out (by simp [Z0x.l0])
  | succ k1 =>
   have H := HA.out;clear HA;simp only [Z0x.l0] at H;obtain ⟨a7, A6, H⟩ := zh H
   by_cases c7 : a7 = true
   ·subst c7;rw [if_pos rfl] at H;obtain rfl := zk1 H
    go_wp2_with (first | ((with_reducible refine zG 98 rfl ?_); refine zC (some 9) Tryd.func98 (Z1I.calls _ _ l0 a1 true _ (zk (Za a3.out HB.out)) (a4.out) A6.out) ?_; rintro e w' ⟨rfl, ⟨nd, rfl⟩⟩; refine ⟨_, rfl, ?_⟩))
    go_ret;exact ⟨er, bq⟩
   replace c7 := Bool.eq_false_iff.mpr c7;subst c7;rw [if_neg (show ¬ (false = true) by decide)] at H;have H' := zA H;clear H
   go_wp2_with (first | ((with_reducible refine zG 98 rfl ?_); refine zC (some 9) Tryd.func98 (Z1I.calls _ _ l0 a1 false _ (zk (Za a3.out HB.out)) (a4.out) A6.out) ?_; rintro e w' ⟨rfl, ⟨nd, rfl⟩⟩; refine ⟨_, rfl, ?_⟩))
   go_roundg k1
   case measure => have := HK1.out; omega
   case rel => exact ⟨(wrap64 (a1 + 1)), zi, H', zB1, ⟨bq⟩⟩
def Z0v.f (k : Nat) (a0 : Bool) (l1 : List Int) (a2 : Int) : Option (Bool × List Int × Int) := (ZB.f k l1).bind fun a1 => (if (a1.length : Int) = 0 then (some (false, ([] : List Int), 0)) else ((Z0x.f k a1).bind fun a3 => ((ZS.f k a1 a3).bind fun a4 => (some (a0, a4.1, wrap64 (a2 + a3))))))
theorem Z0v.calls (k : Nat) (a0 : Bool) (A1 : Option Addr) (c1 : Nat) (l1 : List Int) (a2 : Int) (r1 : Bool) (r2 : List Int) (r3 : Int) (w : World) (hr1 : Kd.C Zu w A1 l1.length l1) (hc1 : l1.length ≤ c1) (h : Z0v.f k a0 l1 a2 = some (r1, r2, r3)) :
  Calls Tryd.prog 112 #[.bool a0, .slice A1 l1.length c1, .int .i64 a2] w fun e w' => ∃ v1_ : Value, e = .returned (.agg #[.bool r1, v1_, .int .i64 r3]) ∧ Kd.R Zu 26 w' w.heap.size (fun _ => True) v1_ r2 ∧ Below w.heap.size w w' := by
 have hu25 := Tryd.underlying25;have am := zA hr1;have an := zA hc1;clear hr1 hc1;have HB := zA (Below.refl w.heap.size w);have H := h
 unfold Z0v.f at H
 clear h;obtain ⟨a5, A4, H⟩ := zh H
 by_cases c5 : (a5.length : Int) = 0
 rw [if_pos c5] at H;have ac := eT c5;have ad := nF c5;clear c5;rotate_left;rw [if_neg c5] at H;have ac := eF c5;have ad := nT c5
 have aB : ¬ (a5 = []) := fun h_ => c5 (by rw [h_]; rfl)
 obtain ⟨a6, ao, H⟩ := zh H;obtain ⟨⟨a7, ae⟩, ap, H⟩ := zh H;(try dsimp only at H);rotate_left
 all_goals
  simp only [zk3, zk7] at H;obtain ⟨rfl, rfl, rfl⟩ := H;go_enter Tryd.func112, Tryd.ntmps112
  go_wp2_with (first | ((with_reducible refine zD 6 rfl ?_); refine zn (N := 6) (cs := #[.bool false, .slice none 0 0, .int .i64 0]) (t := 25) rfl rfl ?_; intro a4 hg w6 hbox hb; have a1 := zA (hbox); have aA := zw hg; replace HB := ze hb; clear hb hbox hg) | ((with_reducible refine zG 45 rfl ?_); refine zC (some 12) Tryd.func45 (ZB.calls k _ _ l1 a5 _ (zk (Za am.out HB.out)) (an.out) A4.out) ?_; rintro e w7 ⟨v616, rfl, a8, hb⟩; refine ⟨_, rfl, ?_⟩; have a3 := zA (ZH a8 (Z7 zs)); replace a1 := zb a1 hb; replace HB := zf hb; obtain ⟨aC, aD, aq⟩ := ZO a3.out; subst aq; (try (obtain ⟨ar, au, av, aw, ax, ay⟩ := zc a1))) | ((with_reducible refine zG 99 rfl ?_); refine zC (some 18) Tryd.func99 (Z0x.calls k _ _ a5 a6 _ (zk (Zi a3.out).2.2) ((Zi a3.out).2.1) ao.out) ?_; rintro e w15 ⟨rfl, hb⟩; refine ⟨_, rfl, ?_⟩; replace a3 := zA (Zw (ru a3.out) hb); replace a1 := zb a1 hb; replace HB := zf hb) | ((with_reducible refine zG 72 rfl ?_); refine zC (some 22) Tryd.func72 (ZS.calls k _ _ a5 a6 a7 ae _ (zk (Zi a3.out).2.2) ((Zi a3.out).2.1) ap.out) ?_; rintro e w16 ⟨v621, rfl, a8, hb⟩; refine ⟨_, rfl, ?_⟩; have a9 := zA (ZH (ZN a8 (Z0d (ru a3.out))) (Z7 zs)); replace a3 := zA (Zx (ru a3.out) (ZA a8) hb); replace a1 := zb a1 hb; replace HB := zf hb; obtain ⟨aa, ab, af⟩ := ZO a9.out; subst af; obtain ⟨ag, ah, ai, aj, ak, al⟩ := zc a1))
 ·refine bodyPost_ret (results_cell_row rfl _ _ a4 25 #[.bool false, .slice none 0 0, .int .i64 0] (0, 0) _ rfl (zy a1) Tryd.underlying25 rfl (by kernel_rfl)) rfl ?_;exact ⟨_, er, by first | exact Z1S _ _ _ _ _ | exact Kd.Z2w _ _ _ _ _ | exact Z1h _ _ _ _ _ | exact Kd.Z2u _ _ _ _ _ | exact Kd.Z2v _ _ _ _ _, zs⟩
 refine bodyPost_ret (results_cell_row rfl _ _ a4 25 #[.bool a0, .slice aa a7.length ab, .int .i64 (wrap64 (a2 + a6))] (0, 0) _ rfl (zy a1) Tryd.underlying25 rfl (by kernel_rfl)) rfl ?_;exact ⟨_, er, ru (ZC (ZD (p := ⟨a4, 2, none⟩) (ZD (p := ⟨a4, 1, none⟩) (ZD (p := ⟨a4, 0, none⟩) (ZR a9.out a1.out (by decide)) (fun _ hk => hk.2) (.bool a0)) (fun _ hk => hk.2) (.slice aa a7.length ab)) (fun _ hk => hk.2) (.int .i64 (wrap64 (a2 + a6)))) (fun _ hk => trivial)), zs⟩
def Z1w.f (k : Nat) (a2 : Bool) (a3 : List Int) (a4 : Int) : Option (Bool × List Int × Int) := (Z0v.f k a2 a3 a4).bind fun a1 => (some (a1.1, a1.2.1, a1.2.2))
theorem Z1w.calls (k : Nat) (a4 : Bool) (a8 : Option Addr) (a9 : Nat) (a2 : List Int) (a5 : Int) (r1 : Bool) (r2 : List Int) (r3 : Int) (w : World) (aa : Kd.C Zu w a8 a2.length a2) (ab : a2.length ≤ a9) (h : Z1w.f k a4 a2 a5 = some (r1, r2, r3)) :
  Calls Tryd.prog 111 #[.agg #[.bool a4, .slice a8 a2.length a9, .int .i64 a5]] w fun e w' => ∃ v1_ : Value, e = .returned (.agg #[.bool r1, v1_, .int .i64 r3]) ∧ Kd.R Zu 26 w' w.heap.size (fun _ => True) v1_ r2 ∧ Below w.heap.size w w' := by
 have hu25 := Tryd.underlying25;have ah := zA aa;have ai := zA ab;clear aa ab;have HB := zA (Below.refl w.heap.size w);have H := h
 unfold Z1w.f at H
 clear h;obtain ⟨⟨ae, af, ag⟩, A2, H⟩ := zh H;(try dsimp only at H);simp only [zk3, zk7] at H;obtain ⟨rfl, rfl, rfl⟩ := H;go_enter Tryd.func111, Tryd.ntmps111
 go_wp2_with (first | ((with_reducible refine zD 1 rfl ?_); refine zn (N := 1) (cs := #[.bool a4, .slice a8 a2.length a9, .int .i64 a5]) (t := 25) rfl rfl ?_; intro av hg w3 hbox hb; have a1 := zA (hbox); have aw := zw hg; replace HB := ze hb; clear hb hbox hg) | ((with_reducible refine zD 2 rfl ?_); refine zn (N := 2) (cs := #[.bool false, .slice none 0 0, .int .i64 0]) (t := 25) rfl rfl ?_; intro ac hg w4 hbox hb; have a3 := zA (hbox); have ax := zx hg; replace HB := zf hb; have a6 := zl a1 hg; have a7 := zg a1 hg; replace a1 := zb a1 hb; clear hb hbox hg; have ay := a6.out; have aA := a7.out; obtain ⟨_, _, _, _, _, _⟩ := zc a1) | ((with_reducible refine zG 112 rfl ?_); refine zC (some 9) Tryd.func112 (Z0v.calls k a4 _ _ a2 a5 ae af ag _ (zk (Za ah.out HB.out)) (ai.out) A2.out) ?_; rintro e w7 ⟨v627, rfl, aj, hb⟩; refine ⟨_, rfl, ?_⟩; have ad := zA (ZH aj (Z7 zs)); replace a1 := zb a1 hb; replace a3 := zb a3 hb; replace HB := zf hb; obtain ⟨ak, al, am, an, ao, ap⟩ := zc a3; obtain ⟨aq, ar, au⟩ := ZO ad.out; subst au))
 refine bodyPost_ret (results_cell_row rfl _ _ ac 25 #[.bool ae, .slice aq af.length ar, .int .i64 ag] (0, 0) _ rfl (zy a3) Tryd.underlying25 rfl (by kernel_rfl)) rfl ?_;exact ⟨_, er, ru (ZC (zr ac (ZR ad.out a3.out (by decide)) (fun _ hk => hk.2) _ _ _) (fun _ hk => trivial)), zs⟩
def Z0s.l0 : Nat → List Int → List Int → Int → Option (Int)
 | 0, _, _, _ => none
 | k + 1, x0, x1, x5 => if x5 ≥ 0 then ((Z05.f x0 x5).bind fun a1 => ((Z05.f x1 x5).bind fun a2 => (if a1 < a2 then (some (-1)) else (if a1 > a2 then (some 1) else (Z0s.l0 k x0 x1 (wrap64 (x5 - 1))))))) else (some 0)
def Z0s.f (k : Nat) (l0 : List Int) (l1 : List Int) : Option (Int) := Z0s.l0 k l0 l1 (wrap64 ((mx (l0.length : Int) (l1.length : Int)) - 1))
theorem Z0s.calls (k : Nat) (A0 : Option Addr) (c0 : Nat) (l0 : List Int) (A1 : Option Addr) (c1 : Nat) (l1 : List Int) (r : Int) (w : World) (hr0 : Kd.C Zu w A0 l0.length l0) (hc0 : l0.length ≤ c0) (hr1 : Kd.C Zu w A1 l1.length l1) (hc1 : l1.length ≤ c1) (h : Z0s.f k l0 l1 = some r) :
  Calls Tryd.prog 113 #[.slice A0 l0.length c0, .slice A1 l1.length c1] w fun e w' => e = .returned (.int .i64 r) ∧ Below w.heap.size w w' := by
 have a9 := zA hr0;have aa := zA hc0;clear hr0 hc0;have ab := zA hr1;have ac := zA hc1;clear hr1 hc1;have HB := zA (Below.refl w.heap.size w);have H := h
 unfold Z0s.f at H
 clear h;generalize a1 : mx (l0.length : Int) (l1.length : Int) = a3 at H;(try (have hji3l : 0 ≤ a3 := by (rw [← a1]; unfold mx; (repeat' split) <;> omega)));(try (have hji3m : 0 ≤ a3 := by omega));have hji3_ : (if (l0.length : Int) < (l1.length : Int) then (l1.length : Int) else (l0.length : Int)) = a3 := a1
 have hji3n : (if l0.length < l1.length then (l1.length : Int) else (l0.length : Int)) = a3 := by rw [← hji3_]; (repeat' split) <;> omega
 have H' := zA H;clear H;go_enter Tryd.func113, Tryd.ntmps113
 go_wp2
 go_loopg [5] k (fun kq v5 w' => ∃ (a2 : Int), v5 = .int .i64 a2 ∧ Aside0 (Z0s.l0 kq l0 l1 a2 = some r) ∧ Aside0 (kq ≤ k) ∧ Aside0 (Below w.heap.size w w'))
 case atStart => exact ⟨(wrap64 ((a3) - 1)), (by first | rfl | (simp; done) | (simp only [← a1] <;> (first | rfl | simp)) | (simp [*]; done)), H', zB2, ⟨bq⟩⟩
 case round =>
  clear H';obtain ⟨a2, rfl, HA, HK1, HB⟩ := hrel
  cases gk with
  | zero => exact absurd HA.out (by simp [Z0s.l0])
  | succ k1 =>
   have H := HA.out;clear HA;simp only [Z0s.l0] at H
   by_cases c4 : a2 ≥ 0
   ·rw [if_pos c4] at H;have a6 := dT c4;clear c4;obtain ⟨a4, A5, H⟩ := zh H;obtain ⟨a5, A6, H⟩ := zh H
    by_cases c7 : a4 < a5
    rw [if_pos c7] at H;have a7 := dT c7;clear c7;obtain rfl := zk1 H;rotate_left;rw [if_neg c7] at H;have a7 := dF c7;clear c7
    by_cases c8 : a4 > a5
    rw [if_pos c8] at H;have a8 := dT c8;clear c8;obtain rfl := zk1 H;rotate_left;rw [if_neg c8] at H;have a8 := dF c8;clear c8;have H' := zA H;clear H;rotate_left
    all_goals
     go_wp2_with (first | ((with_reducible refine zG 102 rfl ?_); refine zC (some 20) Tryd.func102 (Z05.calls _ _ l0 a2 a4 _ (zk (Za a9.out HB.out)) (aa.out) A5.out) ?_; rintro e w' ⟨rfl, ⟨nd, rfl⟩⟩; refine ⟨_, rfl, ?_⟩) | ((with_reducible refine zG 102 rfl ?_); refine zC (some 23) Tryd.func102 (Z05.calls _ _ l1 a2 a5 _ (zk (Za ab.out bq)) (ac.out) A6.out) ?_; rintro e w' ⟨rfl, ⟨nd, rfl⟩⟩; refine ⟨_, rfl, ?_⟩))
    ·go_ret;exact ⟨by first | rfl | (simp [errW_none, errW_some] <;> rfl) | (simp only [← a1]; first | rfl | (simp [errW_none, errW_some] <;> rfl)) | (simp [*, errW_none, errW_some] <;> rfl), bq⟩
    ·go_ret;exact ⟨by first | rfl | (simp [errW_none, errW_some] <;> rfl) | (simp only [← a1]; first | rfl | (simp [errW_none, errW_some] <;> rfl)) | (simp [*, errW_none, errW_some] <;> rfl), bq⟩
    go_roundg k1
    case measure => have := HK1.out; omega
    case rel => exact ⟨(wrap64 (a2 - 1)), zi, (by first | exact H' | (simp only [a1]; exact H') | (simp only [a1] at H' ⊢; exact H')), zB1, ⟨bq⟩⟩
   rw [if_neg c4] at H;have a6 := dF c4;clear c4;obtain rfl := zk1 H
   go_wp2
   go_ret;exact ⟨by first | rfl | (simp [errW_none, errW_some] <;> rfl) | (simp only [← a1]; first | rfl | (simp [errW_none, errW_some] <;> rfl)) | (simp [*, errW_none, errW_some] <;> rfl), bq⟩
def Z08.l0 : Nat → List Int → List Int → List Int → Int → Int → Option (List Int)
 | 0, _, _, _, _, _ => none
 | k + 1, x0, x1, x5, x6, x7 => if x7 < (mx (x0.length : Int) (x1.length : Int)) then ((Z05.f x0 x7).bind fun a1 => ((Z05.f x1 x7).bind fun a2 => (if a1 < a2 then (if x5.length < 17592186044416 then (Z08.l0 k x0 x1 (x5 ++ [IntKind.u64.wrap ((IntKind.u64.wrap (a1 - a2)) - x6)]) 1 (wrap64 (x7 + 1))) else (none)) else (if a1 = a2 then (if x6 = 1 then (if x5.length < 17592186044416 then (Z08.l0 k x0 x1 (x5 ++ [IntKind.u64.wrap ((IntKind.u64.wrap (a1 - a2)) - x6)]) 1 (wrap64 (x7 + 1))) else (none)) else (if x5.length < 17592186044416 then (Z08.l0 k x0 x1 (x5 ++ [IntKind.u64.wrap ((IntKind.u64.wrap (a1 - a2)) - x6)]) 0 (wrap64 (x7 + 1))) else (none))) else (if x5.length < 17592186044416 then (Z08.l0 k x0 x1 (x5 ++ [IntKind.u64.wrap ((IntKind.u64.wrap (a1 - a2)) - x6)]) 0 (wrap64 (x7 + 1))) else (none)))))) else ((ZB.f k x5).bind fun a3 => (some a3))
def Z08.f (k : Nat) (l0 : List Int) (l1 : List Int) : Option (List Int) := Z08.l0 k l0 l1 ([] : List Int) 0 0
theorem Z08.calls (k : Nat) (A0 : Option Addr) (c0 : Nat) (l0 : List Int) (A1 : Option Addr) (c1 : Nat) (l1 : List Int) (r : List Int) (w : World) (hr0 : Kd.C Zu w A0 l0.length l0) (hc0 : l0.length ≤ c0) (hr1 : Kd.C Zu w A1 l1.length l1) (hc1 : l1.length ≤ c1) (h : Z08.f k l0 l1 = some r) :
  Calls Tryd.prog 114 #[.slice A0 l0.length c0, .slice A1 l1.length c1] w fun e w' => ∃ v0_ : Value, e = .returned (v0_) ∧ Kd.R Zu 26 w' w.heap.size (fun _ => True) v0_ r ∧ Below w.heap.size w w' := by
 have ao := zA hr0;have ap := zA hc0;clear hr0 hc0;have aq := zA hr1;have ar := zA hc1;clear hr1 hc1;have HB := zA (Below.refl w.heap.size w);have H := h
 unfold Z08.f at H
 clear h;have H' := zA H;clear H;go_enter Tryd.func114, Tryd.ntmps114
 go_wp2
 go_loopg [5, 6, 7] k (fun kq v5 v6 v7 w' => ∃ (a5 : List Int) (a3 : Int) (a4 : Int), v6 = .int .u64 a3 ∧ v7 = .int .i64 a4 ∧ Aside0 (Z08.l0 kq l0 l1 a5 a3 a4 = some r) ∧ Aside0 (kq ≤ k) ∧ Aside0 (Kd.R Zu 26 w' w.heap.size (fun _ => True) v5 a5) ∧ Aside0 (Below w.heap.size w w'))
 case atStart => exact ⟨(([] : List Int)), (0), (0), zi, zi, H', zB2, ⟨by first | exact Z1S _ _ _ _ _ | exact Kd.Z2w _ _ _ _ _ | exact Z1h _ _ _ _ _ | exact Kd.Z2u _ _ _ _ _ | exact Kd.Z2v _ _ _ _ _⟩, ⟨bq⟩⟩
 case round =>
  clear H';obtain ⟨a5, a3, a4, rfl, rfl, HA, HK1, a8, HB⟩ := hrel
  cases gk with
  | zero => exact absurd HA.out (by simp [Z08.l0])
  | succ k1 =>
   have H := HA.out;clear HA;simp only [Z08.l0] at H;generalize a2 : mx (l0.length : Int) (l1.length : Int) = ad at H;(try (have hji3l : 0 ≤ ad := by (rw [← a2]; unfold mx; (repeat' split) <;> omega)));(try (have hji3m : 0 ≤ ad := by omega));have hji3_ : (if (l0.length : Int) < (l1.length : Int) then (l1.length : Int) else (l0.length : Int)) = ad := a2
   have hji3n : (if l0.length < l1.length then (l1.length : Int) else (l0.length : Int)) = ad := by rw [← hji3_]; (repeat' split) <;> omega
   by_cases c4 : a4 < (ad)
   rw [if_pos c4] at H;have ak := dT c4;clear c4;obtain ⟨a6, A5, H⟩ := zh H;obtain ⟨a7, A6, H⟩ := zh H
   by_cases c7 : a6 < a7
   rw [if_pos c7] at H;have al := dT c7;clear c7;replace H := dn H;obtain ⟨c8, H⟩ := H;have ac := zA c8;clear c8;obtain ⟨a9, a1⟩ : ∃ y_ : List Int, y_ = (a5 ++ [IntKind.u64.wrap ((IntKind.u64.wrap (a6 - a7)) - a3)]) := ⟨_, rfl⟩;(first | replace H := zRb a1 H | rw [← a1] at H | skip);have aa := zA a1;clear a1;have H' := zA H;clear H;rotate_left;rw [if_neg c7] at H;have al := dF c7;clear c7
   by_cases c10 : a6 = a7
   rw [if_pos c10] at H;have ae := eT c10;have af := nF c10;clear c10
   by_cases c11 : a3 = 1
   rw [if_pos c11] at H;have ag := eT c11;have ah := nF c11;clear c11;replace H := dn H;obtain ⟨c8, H⟩ := H;have ac := zA c8;clear c8;obtain ⟨a9, a1⟩ : ∃ y_ : List Int, y_ = (a5 ++ [IntKind.u64.wrap ((IntKind.u64.wrap (a6 - a7)) - a3)]) := ⟨_, rfl⟩;(first | replace H := zRb a1 H | rw [← a1] at H | skip);have aa := zA a1;clear a1;have H' := zA H;clear H;rotate_left;rw [if_neg c11] at H;have ag := eF c11;have ah := nT c11;replace H := dn H;obtain ⟨c8, H⟩ := H;have ac := zA c8;clear c8;obtain ⟨a9, a1⟩ : ∃ y_ : List Int, y_ = (a5 ++ [IntKind.u64.wrap ((IntKind.u64.wrap (a6 - a7)) - a3)]) := ⟨_, rfl⟩;(first | replace H := zRb a1 H | rw [← a1] at H | skip);have aa := zA a1;clear a1;have H' := zA H;clear H;rotate_left;rw [if_neg c10] at H;have ae := eF c10;have af := nT c10;replace H := dn H;obtain ⟨c8, H⟩ := H;have ac := zA c8;clear c8;obtain ⟨a9, a1⟩ : ∃ y_ : List Int, y_ = (a5 ++ [IntKind.u64.wrap ((IntKind.u64.wrap (a6 - a7)) - a3)]) := ⟨_, rfl⟩;(first | replace H := zRb a1 H | rw [← a1] at H | skip);have aa := zA a1;clear a1;have H' := zA H;clear H;rotate_left;rw [if_neg c4] at H;have ak := dF c4;clear c4;obtain ⟨am, au, H⟩ := zh H;obtain rfl := zk1 H;obtain ⟨av, aw, an⟩ := ZO a8.out;subst an;rotate_left
   all_goals
    go_wp2_with (first | ((with_reducible refine zG 102 rfl ?_); refine zC (some 22) Tryd.func102 (Z05.calls _ _ l0 a4 a6 _ (zk (Za ao.out HB.out)) (ap.out) A5.out) ?_; rintro e w' ⟨rfl, ⟨nd, rfl⟩⟩; refine ⟨_, rfl, ?_⟩) | ((with_reducible refine zG 102 rfl ?_); refine zC (some 25) Tryd.func102 (Z05.calls _ _ l1 a4 a7 _ (zk (Za aq.out bq)) (ar.out) A6.out) ?_; rintro e w' ⟨rfl, ⟨nd, rfl⟩⟩; refine ⟨_, rfl, ?_⟩) | ((with_reducible refine Z1i (b := .append) (xs := #[.tmp 43, .tmp 45]) rfl ?_); at_builtin; refine Z2s Zu (w0 := w) w.heap.size rfl (.tmp 43) (.tmp 45) 23 26 (.int .u64 0) 8 rfl Tryd.underlying23 info26 rfl (by decide) (by omega) u5 a5 (IntKind.u64.wrap ((IntKind.u64.wrap (a6 - a7)) - a3)) [.int .u64 (IntKind.u64.wrap ((IntKind.u64.wrap (a6 - a7)) - a3))] (fun _ => True) (fun _ => False) rfl rfl ?aP (fun _ hk => hk.elim) ?aF ?aO ?aB ?aS ?aL ?_; (case aP => exact rfl); (case aB => exact bq); (case aF => exact (fun _ _ => trivial)); (case aO => exact (ru a8.out)); (case aS => exact (Z7 bq)); (case aL => have := ac.out; omega); intro v638 w9 ho hb hg hat; rw [← aa.out] at ho; have n0_ := zA (hb); have n1_ := zA (ho); clear HB; clear a8; have HB := n0_; have ab := n1_; clear n0_ n1_; clear ho hb hg hat) | ((with_reducible refine zG 45 rfl ?_); refine zC (some 48) Tryd.func45 (ZB.calls k1 _ _ a5 am _ (zk (Zi a8.out).2.2) ((Zi a8.out).2.1) au.out) ?_; rintro e w20 ⟨v633, rfl, aj, hb⟩; refine ⟨_, rfl, ?_⟩; have ai := zA (ZH (ZN aj (Z0d (ru a8.out))) (Z7 bq)); replace a8 := zA (Zx (ru a8.out) (ZA aj) hb); replace HB := ze hb))
   ·(try simp only [← a2])
    go_roundg k1
    case measure => have := HK1.out; omega
    case rel => exact ⟨(a9), (1), (wrap64 (a4 + 1)), zi, zi, (by first | exact H' | (simp only [a2]; exact H') | (simp only [a2] at H' ⊢; exact H')), zB1, ⟨ru ab.out⟩, ⟨bq⟩⟩
   ·(try simp only [← a2])
    go_roundg k1
    case measure => have := HK1.out; omega
    case rel => exact ⟨(a9), (1), (wrap64 (a4 + 1)), zi, zi, (by first | exact H' | (simp only [a2]; exact H') | (simp only [a2] at H' ⊢; exact H')), zB1, ⟨ru ab.out⟩, ⟨bq⟩⟩
   ·(try simp only [← a2])
    go_roundg k1
    case measure => have := HK1.out; omega
    case rel => exact ⟨(a9), (0), (wrap64 (a4 + 1)), zi, zi, (by first | exact H' | (simp only [a2]; exact H') | (simp only [a2] at H' ⊢; exact H')), zB1, ⟨ru ab.out⟩, ⟨bq⟩⟩
   ·(try simp only [← a2])
    go_roundg k1
    case measure => have := HK1.out; omega
    case rel => exact ⟨(a9), (0), (wrap64 (a4 + 1)), zi, zi, (by first | exact H' | (simp only [a2]; exact H') | (simp only [a2] at H' ⊢; exact H')), zB1, ⟨ru ab.out⟩, ⟨bq⟩⟩
   go_ret;exact ⟨_, by first | rfl | (simp [errW_none, errW_some] <;> rfl) | (simp only [← a2]; first | rfl | (simp [errW_none, errW_some] <;> rfl)) | (simp [*, errW_none, errW_some] <;> rfl), ru (ZC ai.out (fun _ hk => trivial)), bq⟩
end Go.Proofs.YtnjfckadjklmfaaDoor.PAll
