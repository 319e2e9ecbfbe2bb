/- Printed functions. -/
import Derived.Test.YtjnfipkbgmdpaaaGreatDoorXAlgRisesP8
namespace Go.Proofs.YtjnfipkbgmdpaaaGreatDoor.PAll
open RowKit YtjnfipkbgmdpaaaGreatDoorW.PrintWords YtjnfipkbgmdpaaaGreatDoorW.PrintLast YtjnfipkbgmdpaaaGreatDoorW.PrintMore YtjnfipkbgmdpaaaGreatDoorW.PrintWords.Kd
attribute [local go_sem] Z1k Z1l Z1G Z1H Z16 Z17 Z1m Z1n
set_option linter.unusedVariables false
set_option maxHeartbeats 8000000
set_option maxRecDepth 100000
set_option linter.unusedSimpArgs false
attribute [local go_sem] fld77_0 fld77_1 fld77_2 ext153 ext154
def Z1w.f (k : Nat) (a0 : Int) : Option (Int × Int × Int) := (Z0L.f k a0).bind fun a1 => (if a1.2.2.2 = 0 then ((Z1K.f a0).bind fun a3 => (if a3 = 0 then (some (a0, 0, 0)) else ((Z1d.f k a1.1 a1.2.1 a1.2.2.1 3 37).bind fun a2 => (some (a2.1, a2.2, 0))))) else (some (0, 0, a1.2.2.2)))
theorem Z1w.calls (k : Nat) (a0 : Int) (r1 : Int) (r2 : Int) (r3 : Int) (w : World) (hT : Laid w) (h : Z1w.f k a0 = some (r1, r2, r3)) :
  Calls Tryz.prog 9 #[.int .u64 a0] w fun e w' => e = .returned (.tuple #[.agg #[.int .u64 r1, .int .u8 r2], .int .i64 r3]) ∧ Below w.heap.size w w' := by
 have hu25 := Tryz.underlying25;have hu34 := Tryz.underlying34;have HB := zA (Below.refl w.heap.size w);have H := h
 unfold Z1w.f at H
 clear h;obtain ⟨⟨aa, a8, ab, ac⟩, A2, H⟩ := zh H;(try dsimp only at H)
 by_cases c3 : ac = 0
 rw [if_pos c3] at H;have ah := eT c3;have ai := nF c3;clear c3;obtain ⟨ad, A4, H⟩ := zh H
 by_cases c5 : ad = 0
 rw [if_pos c5] at H;have aj := eT c5;have ak := nF c5;clear c5;rotate_left;rw [if_neg c5] at H;have aj := eF c5;have ak := nT c5;obtain ⟨⟨a9, ae⟩, aI, H⟩ := zh H;(try dsimp only at H);rotate_left;rw [if_neg c3] at H;have ah := eF c3;have ai := nT c3;rotate_left
 all_goals
  simp only [zk3, zk5] at H;obtain ⟨rfl, rfl, rfl⟩ := H;go_enter Tryz.func9, Tryz.ntmps9
  go_wp2_with (first | ((with_reducible refine zD 2 rfl ?_); refine zn (N := 2) (cs := #[.int .u64 0, .int .u8 0]) (t := 25) rfl rfl ?_; intro a5 hg w6 hbox hb; have a1 := zA (hbox); have aK := zw hg; replace HB := ze hb; clear hb hbox hg) | ((with_reducible refine zG 35 rfl ?_); refine zC (some 8) Tryz.func35 (Z0L.calls k a0 aa a8 ab ac _ (laid_below hT zs) A2.out) ?_; rintro e w7 ⟨v613, rfl, aJ, hb⟩; refine ⟨_, rfl, ?_⟩; have a3 := zA (Zj (Z5 (ok' := fun k_ => k_ ≠ a5) aJ (fun k_ hk_ => (zj a1 k_ hk_))) (Z2 zs)); replace a1 := zb a1 hb; replace HB := zf hb) | ((with_reducible refine zD 4 rfl ?_); refine zn (N := 4) (cs := #[.bool false, .slice none 0 0, .int .i64 0]) (t := 34) rfl rfl ?_; intro a4 hg w8 hbox hb; replace a3 := zA (Z6 (ZX (vu a3.out) a4 (zkg hg.symm)) hb); have a6 := zA (hbox); have aL := zx hg; replace HB := zf hb; have a2 := zl a1 hg; have a7 := zg a1 hg; replace a1 := zb a1 hb; clear hb hbox hg; have aM := a7.out; have aN := a2.out; obtain ⟨an, ao, ap, aq, ar, au⟩ := zc a6; obtain ⟨aO, al, am⟩ := Zm a3.out; subst am; (try (have av := zM0 a1; have aw := zM1 a1; have ax := Z3 a1.out 0; have ay := Z3 a1.out 1))) | ((with_reducible refine zG 21 rfl ?_); refine zC (some 18) Tryz.func21 (Z1K.calls a0 ad _ A4.out) ?_; rintro e w' ⟨rfl, ⟨nd, rfl⟩⟩; refine ⟨_, rfl, ?_⟩; (try (have aA := zM0 a1; have aB := zM1 a1; have aC := Z3 a1.out 0; have aD := Z3 a1.out 1))) | ((with_reducible refine zG 36 rfl ?_); refine zC (some 23) Tryz.func36 (Z1d.calls k aa _ _ a8 ab 3 37 a9 ae _ ?af ?ag (laid_below hT zs) (.inl rfl) aI.out) ?_; (case af => refine (Z7 (e := 22) (base := w.heap.size) (ok := fun k_ => (k_ ≠ a5 ∧ k_ ≠ a4)) (n := a8.length) (c := al) ?_).2.2; exact (vu (Z5 (zv a4 (Z5 a3.out (fun k_ hk => (⟨hk, hk.2⟩ : _ ∧ k_ ≠ a4))) (fun _ hk => hk.2) _ _ _) (fun _ h_ => h_.1)))); (case ag => exact (Z7 a3.out).2.1); rintro e w20 ⟨rfl, hb⟩; refine ⟨_, rfl, ?_⟩; replace a3 := zA (Z6 (vu (Z5 (zv a4 (Z5 a3.out (fun k_ hk => (⟨hk, hk.2⟩ : _ ∧ k_ ≠ a4))) (fun _ hk => hk.2) _ _ _) (fun _ h_ => h_.1))) hb); replace a1 := zF a1 hb; replace a6 := zt a6 hb; replace HB := zf hb; have aE := zM0 a1; have aF := zM1 a1; have aG := Z3 a1.out 0; have aH := Z3 a1.out 1))
 ·refine bodyPost_ret (Z07 rfl _ _ a5 25 #[.int .u64 a0, .int .u8 0] (0, 0) _ rfl (by (with_reducible repeat (first | refine Zi ?_ _ | refine Z9 ?_ | refine Zh ?_ _)); refine Zb (cs := #[.int .u64 a0, .int .u8 0]) ?_ 1 _ rfl; refine Zb (cs := #[.int .u64 0, .int .u8 0]) ?_ 0 _ rfl; refine Zf ?_ a2.out _; refine Zf ?_ a2.out _; refine Zf ?_ a2.out _; exact a1.out) Tryz.underlying25 rfl (by kernel_rfl)) rfl ?_;exact ⟨er, zs⟩
 ·refine bodyPost_ret (Z07 rfl _ _ a5 25 #[.int .u64 a9, .int .u8 ae] (0, 0) _ rfl (by (with_reducible repeat (first | refine Zi ?_ _ | refine Z9 ?_ | refine Zh ?_ _)); refine Zb (cs := #[.int .u64 a9, .int .u8 0]) ?_ 1 _ rfl; refine Zb (cs := #[.int .u64 0, .int .u8 0]) ?_ 0 _ rfl; exact a1.out) Tryz.underlying25 rfl (by kernel_rfl)) rfl ?_;exact ⟨er, zs⟩
 refine bodyPost_ret (Z07 rfl _ _ a5 25 #[.int .u64 0, .int .u8 0] (0, 0) _ rfl (by (with_reducible repeat (first | refine Zi ?_ _ | refine Z9 ?_ | refine Zh ?_ _)); refine Zb (cs := #[.int .u64 0, .int .u8 0]) ?_ 1 _ rfl; refine Zb (cs := #[.int .u64 0, .int .u8 0]) ?_ 0 _ rfl; refine Zf ?_ a2.out _; refine Zf ?_ a2.out _; refine Zf ?_ a2.out _; exact a1.out) Tryz.underlying25 rfl (by kernel_rfl)) rfl ?_;exact ⟨er, zs⟩
def ZM.l0 : Nat → List Int → Int → Option (List Int)
 | 0, _, _ => none
 | k + 1, x0, x3 => if x3 > 0 then (if 0 ≤ (wrap64 (x3 - 1)) then (if (wrap64 (x3 - 1)) < (x0.length : Int) then (if (rd x0 (wrap64 (x3 - 1))) = 0 then (ZM.l0 k x0 (wrap64 (x3 - 1))) else (if 0 ≤ x3 then (if x3 ≤ (x0.length : Int) then (if ([] : List Int).length + (x0.take (x3 : Int).toNat).length < 17592186044416 then (some (([] : List Int) ++ (x0.take (x3 : Int).toNat))) else (none)) else (none)) else (none))) else (none)) else (none)) else (if 0 ≤ x3 then (if x3 ≤ (x0.length : Int) then (if ([] : List Int).length + (x0.take (x3 : Int).toNat).length < 17592186044416 then (some (([] : List Int) ++ (x0.take (x3 : Int).toNat))) else (none)) else (none)) else (none))
def ZM.f (k : Nat) (l0 : List Int) : Option (List Int) := ZM.l0 k l0 (l0.length : Int)
theorem ZM.calls (k : Nat) (A0 : Option Addr) (c0 : Nat) (l0 : List Int) (r : List Int) (w : World) (hr0 : Kd.C Zu w A0 l0.length l0) (hc0 : l0.length ≤ c0) (h : ZM.f k l0 = some r) :
  Calls Tryz.prog 57 #[.slice A0 l0.length c0] w fun e w' => ∃ v0_ : Value, e = .returned (v0_) ∧ Kd.R Zu 22 w' w.heap.size (fun _ => True) v0_ r ∧ Below w.heap.size w w' := by
 have a7 := zA hr0;have af := zA hc0;clear hr0 hc0;have HB := zA (Below.refl w.heap.size w);have H := h
 unfold ZM.f at H
 clear h;have H' := zA H;clear H;go_enter Tryz.func57, Tryz.ntmps57
 go_wp2
 go_loopg [3] k (fun kq v3 w' => ∃ (a1 : Int), v3 = .int .i64 a1 ∧ Aside0 (ZM.l0 kq l0 a1 = some r) ∧ Aside0 (kq ≤ k) ∧ Aside0 (Below w.heap.size w w'))
 case atStart => exact ⟨((l0.length : Int)), zi, H', zB2, ⟨bq⟩⟩
 case round =>
  clear H';obtain ⟨a1, rfl, HA, HK1, HB⟩ := hrel
  cases gk with
  | zero => exact absurd HA.out (by simp [ZM.l0])
  | succ k1 =>
   have H := HA.out;clear HA;simp only [ZM.l0] at H
   by_cases c2 : a1 > 0
   ·rw [if_pos c2] at H;have ag := dT c2;clear c2;generalize a4 : wrap64 (a1 - 1) = a3 at H;have hji3w : (IntKind.i64.wrap (a1 - 1)) = a3 := (Z1a _).trans a4;replace H := dn H;obtain ⟨c4, H⟩ := H;have au := dT c4;clear c4;replace H := dn H;obtain ⟨c5, H⟩ := H;have av := dT c5;clear c5
    by_cases c6 : (rd l0 (a3)) = 0
    ·rw [if_pos c6] at H;have ah := eT c6;have ai := nF c6;clear c6;have H' := zA H;clear H;have p621 : 0 ≤ ((a3) : Int) := od;have q621 : (a3) < (l0.length : Int) := od;obtain ⟨ad621, e621, a2⟩ := Kd.Zw a7.out (a3) p621 q621;cases e621;replace a2 := (HB.out.cell (World.block_lt_of_cell? w _ a2)).trans a2;replace p621 := eq_true p621;replace q621 := eq_true q621
     go_wp2
     go_roundg k1
     case measure => have := HK1.out; omega
     case rel => exact ⟨(a3), (by first | rfl | (simp; done) | (simp only [← a4] <;> (first | rfl | simp)) | (simp [*]; done)), (by first | exact H' | (simp only [a4]; exact H') | (simp only [a4] at H' ⊢; exact H')), zB1, ⟨bq⟩⟩
    rw [if_neg c6] at H;have ah := eF c6;have ai := nT c6;replace H := dn H;obtain ⟨c7, H⟩ := H;have aw := eq_true c7;have ax := dT c7;clear c7;replace H := dn H;obtain ⟨c8, H⟩ := H;have ay := eq_true c8;have aA := dT c8;clear c8;replace H := dn H;obtain ⟨c9, H⟩ := H;have aj := zA c9;clear c9;obtain ⟨ak, a5⟩ : ∃ y_ : List Int, y_ = (([] : List Int) ++ (l0.take (a1 : Int).toNat)) := ⟨_, rfl⟩;replace H : (some ak) = some r := zR a5 H;have aa := zA a5;clear a5;obtain rfl := zk4 H;have p621 : 0 ≤ ((a3) : Int) := od;have q621 : (a3) < (l0.length : Int) := od;obtain ⟨ad621, e621, a2⟩ := Kd.Zw a7.out (a3) p621 q621;cases e621;replace a2 := (HB.out.cell (World.block_lt_of_cell? w _ a2)).trans a2;replace p621 := eq_true p621;replace q621 := eq_true q621;obtain ⟨i010, hi010, _, hsz10, _⟩ := info_parts info22;obtain ⟨hcut10, hA10, hC10⟩ := Z3q (P := Tryz.prog) (Value.int .u64) 0 32 22 .i64 Tryz.underlying32 hi010 hsz10 (some ad621) c0 l0 a1 (od) (od) af.out;have a8 := zA (Z4a (h1 := fun _ => rfl) (hA10 _ (Kd.Z3i a7.out)));have am := zA hC10;clear hA10 hC10 hi010 hsz10
    go_wp2_with (first | ((with_reducible refine Z1x (b := .append) (xs := #[.tmp 19, .tmp 22]) rfl ?_); at_builtin; refine Z5t Zu (w0 := w) w.heap.size rfl (.tmp 19) (.tmp 22) 32 22 (.int .u64 0) 8 rfl Tryz.underlying32 info22 rfl (by decide) (by omega) (.slice none 0 0) ([] : List Int) (l0.take (a1 : Int).toNat) _ _ _ (fun _ => True) (fun _ => False) rfl rfl ?aO ?aR (fun _ _ h => h) (fun _ h => h.elim) ?aF ?aB ?aS ?aL ?_; (case aR => first | (refine Eq.mp (congrArg (fun m_ => ReadsRow _ _ _ _ m_ _) (show (l0.take (a1 : Int).toNat).length = a1.toNat from (by rw [zk8]; have h_ : (a1 : Int) ≤ (l0.length : Int) := od; omega))) ?_; repeat (first | exact (ZF a8.out HB.out) | (with_reducible refine Z3H ?_ _) | (with_reducible refine Z3I ?_ _) | (with_reducible refine Z4o ?_))) | (repeat (first | exact (ZF a8.out HB.out) | (with_reducible refine Z3H ?_ _) | (with_reducible refine Z3I ?_ _) | (with_reducible refine Z4o ?_)))); (case aB => exact bq); (case aF => exact (fun _ _ => trivial)); (case aO => exact ((Z1Q _ _ _ _ (fun _ => True)))); (case aS => exact (Z2 bq)); (case aL => have := aj.out; have hlx_ := (show (l0.take (a1 : Int).toNat).length = a1.toNat from (by rw [zk8]; have h_ : (a1 : Int) ≤ (l0.length : Int) := od; omega)); omega); intro v624 w11 ho hb hg hat; rw [← aa.out] at ho; replace HB := zA (hb); have ab := zA (ho); clear ho hb hg hat))
    go_ret;exact ⟨_, by first | rfl | (simp [errW_none, errW_some] <;> rfl) | (simp only [← a4]; first | rfl | (simp [errW_none, errW_some] <;> rfl)) | (simp [*, errW_none, errW_some] <;> rfl), ru ab.out, bq⟩
   rw [if_neg c2] at H;have ag := dF c2;clear c2;replace H := dn H;obtain ⟨c12, H⟩ := H;have an := eq_true c12;have ao := dT c12;clear c12;replace H := dn H;obtain ⟨c13, H⟩ := H;have ap := eq_true c13;have aq := dT c13;clear c13;replace H := dn H;obtain ⟨c14, H⟩ := H;have ac := zA c14;clear c14;obtain ⟨al, a6⟩ : ∃ y_ : List Int, y_ = (([] : List Int) ++ (l0.take (a1 : Int).toNat)) := ⟨_, rfl⟩;replace H : (some al) = some r := zR a6 H;have ad := zA a6;clear a6;obtain rfl := zk4 H;obtain ⟨i015, hi015, _, hsz15, _⟩ := info_parts info22;obtain ⟨hcut15, hA15, hC15⟩ := Z3q (P := Tryz.prog) (Value.int .u64) 0 32 22 .i64 Tryz.underlying32 hi015 hsz15 A0 c0 l0 a1 (od) (od) af.out;have a9 := zA (Z4a (h1 := fun _ => rfl) (hA15 _ (Kd.Z3i a7.out)));have ar := zA hC15;clear hA15 hC15 hi015 hsz15
   go_wp2_with (first | ((with_reducible refine Z1x (b := .append) (xs := #[.tmp 19, .tmp 22]) rfl ?_); at_builtin; refine Z5t Zu (w0 := w) w.heap.size rfl (.tmp 19) (.tmp 22) 32 22 (.int .u64 0) 8 rfl Tryz.underlying32 info22 rfl (by decide) (by omega) (.slice none 0 0) ([] : List Int) (l0.take (a1 : Int).toNat) _ _ _ (fun _ => True) (fun _ => False) rfl rfl ?aO ?aR (fun _ _ h => h) (fun _ h => h.elim) ?aF ?aB ?aS ?aL ?_; (case aR => first | (refine Eq.mp (congrArg (fun m_ => ReadsRow _ _ _ _ m_ _) (show (l0.take (a1 : Int).toNat).length = a1.toNat from (by rw [zk8]; have h_ : (a1 : Int) ≤ (l0.length : Int) := od; omega))) ?_; repeat (first | exact (ZF a9.out HB.out) | (with_reducible refine Z3H ?_ _) | (with_reducible refine Z3I ?_ _) | (with_reducible refine Z4o ?_))) | (repeat (first | exact (ZF a9.out HB.out) | (with_reducible refine Z3H ?_ _) | (with_reducible refine Z3I ?_ _) | (with_reducible refine Z4o ?_)))); (case aB => exact bq); (case aF => exact (fun _ _ => trivial)); (case aO => exact ((Z1Q _ _ _ _ (fun _ => True)))); (case aS => exact (Z2 bq)); (case aL => have := ac.out; have hlx_ := (show (l0.take (a1 : Int).toNat).length = a1.toNat from (by rw [zk8]; have h_ : (a1 : Int) ≤ (l0.length : Int) := od; omega)); omega); intro v628 w16 ho hb hg hat; rw [← ad.out] at ho; replace HB := zA (hb); have ae := zA (ho); clear ho hb hg hat))
   go_ret;exact ⟨_, er, ru ae.out, bq⟩
def Z1Z.f (k : Nat) (a0 : Int) : Option (List Int) := (ZM.f k (([a0] : List Int))).bind fun a1 => (some a1)
theorem Z1Z.calls (k : Nat) (a0 : Int) (r : List Int) (w : World) (h : Z1Z.f k a0 = some r) :
  Calls Tryz.prog 50 #[.int .u64 a0] w fun e w' => ∃ v0_ : Value, e = .returned (v0_) ∧ Kd.R Zu 22 w' w.heap.size (fun _ => True) v0_ r ∧ Below w.heap.size w w' := by
 have HB := zA (Below.refl w.heap.size w);have H := h
 unfold Z1Z.f at H
 clear h;obtain ⟨a7, a2⟩ : ∃ y_ : List Int, y_ = (([a0] : List Int)) := ⟨_, rfl⟩;(first | replace H := zRb a2 H | rw [← a2] at H | skip);have a4 := zA a2;clear a2;obtain ⟨a8, A2, H⟩ := zh H;obtain rfl := zk4 H;go_enter Tryz.func50, Tryz.ntmps50
 go_wp2_with (first | ((with_reducible refine zD 4 rfl ?_); refine Z4b Zu _ 22 ?hg (N := 4) ?hd (xs := ([a0] : List Int)) (inner := [.int .u64 a0]) (ok := fun _ => True) (okp := fun _ => True) ?hr ?hp (fun _ hk => hk) trivial (Below.refl _ _) (zk6 _) (by simp) ?_; (case hd => rfl); (case hg => rfl); (case hr => first | (go_simp; done) | (go_simp; rfl)); (case hp => exact (Reps.one (show Kd.M Zu _ _ _ a0 [.int .u64 a0] from rfl) (Reps.none _ _))); intro v631 w3 a3 hb hg_ hnew_; clear hg_ hnew_; (first | rw [← a4.out] at a3 | (simp only [Int.reduceToNat] at a3; rw [← a4.out] at a3)); have a1 := zA (Zl a3 (Z2 bq)); replace HB := ze hb; clear hb a3; obtain ⟨aa, ab, a9⟩ := Zx a1.out; subst a9) | ((with_reducible refine zG 57 rfl ?_); refine zC (some 5) Tryz.func57 (ZM.calls k _ _ a7 a8 _ (zk (Z8 a1.out).2.2) ((Z8 a1.out).2.1) A2.out) ?_; rintro e w6 ⟨v634, rfl, a6, hb⟩; refine ⟨_, rfl, ?_⟩; have a5 := zA (Zl (Zz a6 (ZO (ru a1.out))) (Z2 bq)); replace a1 := zA (ZC (ru a1.out) (Zc a6) hb); replace HB := ze hb))
 go_ret;exact ⟨_, er, ru (ZB a5.out (fun _ hk => trivial)), bq⟩
def Z1C.f (a0 : Int) : Option (Bool) := some (decide ((Int.tmod a0 9223372036854775808) < 9218868437227405312))
theorem Z1C.calls (a0 : Int) (r : Bool) (w : World) (h : Z1C.f a0 = some r) :
  Calls Tryz.prog 54 #[.int .u64 a0] w fun e w' => e = .returned (.bool r) ∧ Drawn0 w w' := by
 have H := h
 unfold Z1C.f at H
 clear h;obtain rfl := zk4 H;go_enter Tryz.func54, Tryz.ntmps54
 go_wp2
 go_ret;exact ⟨by first | rfl | (simp; done) | (simp [*]; done), by repeat (first | exact Drawn0.refl _ | apply Drawn0.step)⟩
def Z26.f (a0 : Int) : Option (Bool × Int × Int) := some (decide (a0 ≥ 9223372036854775808), wrap64 (Int.tmod (IntKind.u64.wrap (Int.tdiv a0 4503599627370496)) 2048), Int.tmod a0 4503599627370496)
theorem Z26.calls (a0 : Int) (r1 : Bool) (r2 : Int) (r3 : Int) (w : World) (h : Z26.f a0 = some (r1, r2, r3)) :
  Calls Tryz.prog 55 #[.int .u64 a0] w fun e w' => e = .returned (.agg #[.bool r1, .int .i64 r2, .int .u64 r3]) ∧ Below w.heap.size w w' := by
 have hu77 := Tryz.underlying77;have HB := zA (Below.refl w.heap.size w);have H := h
 unfold Z26.f at H
 clear h;simp only [zk3, zk5] at H;obtain ⟨rfl, rfl, rfl⟩ := H;go_enter Tryz.func55, Tryz.ntmps55
 go_wp2_with (first | ((with_reducible refine zD 2 rfl ?_); refine zn (N := 2) (cs := #[.bool false, .int .i64 0, .int .u64 0]) (t := 77) rfl rfl ?_; intro a2 hg w2 hbox hb; have a1 := zA (hbox); have a3 := zw hg; replace HB := ze hb; clear hb hbox hg; obtain ⟨_, _, _, _, _, _⟩ := zc a1))
 refine bodyPost_ret (results_cell_row rfl _ _ a2 77 #[.bool (decide (a0 ≥ 9223372036854775808)), .int .i64 (wrap64 (Int.tmod (IntKind.u64.wrap (Int.tdiv a0 4503599627370496)) 2048)), .int .u64 (Int.tmod a0 4503599627370496)] (0, 0) _ rfl (zy a1) Tryz.underlying77 rfl (by kernel_rfl)) rfl ?_;exact ⟨er, zs⟩
def Z0G.l0 : Nat → Int → Int → Option (Int)
 | 0, _, _ => none
 | k + 1, x3, x4 => if x4 > 0 then (Z0G.l0 k (wrap64 (x3 + 1)) (IntKind.u64.wrap (Int.tdiv x4 2))) else (some x3)
def Z0G.f (k : Nat) (l0 : List Int) : Option (Int) := (ZM.f k l0).bind fun a1 => (if (a1.length : Int) = 0 then (some 0) else (if 0 ≤ (wrap64 ((a1.length : Int) - 1)) then (if (wrap64 ((a1.length : Int) - 1)) < (a1.length : Int) then (Z0G.l0 k (wrap64 (64 * (wrap64 ((a1.length : Int) - 1)))) (rd a1 (wrap64 ((a1.length : Int) - 1)))) else (none)) else (none)))
theorem Z0G.calls (k : Nat) (A0 : Option Addr) (c0 : Nat) (l0 : List Int) (r : Int) (w : World) (hr0 : Kd.C Zu w A0 l0.length l0) (hc0 : l0.length ≤ c0) (h : Z0G.f k l0 = some r) :
  Calls Tryz.prog 47 #[.slice A0 l0.length c0] w fun e w' => e = .returned (.int .i64 r) ∧ Below w.heap.size w w' := by
 have a9 := zA hr0;have aa := zA hc0;clear hr0 hc0;have HB := zA (Below.refl w.heap.size w);have H := h
 unfold Z0G.f at H
 clear h;obtain ⟨a1, A2, H⟩ := zh H
 by_cases c3 : (a1.length : Int) = 0
 ·rw [if_pos c3] at H;have ab := eT c3;have ac := nF c3;clear c3;obtain rfl := zk4 H;go_enter Tryz.func47, Tryz.ntmps47
  go_wp2_with (first | ((with_reducible refine zG 57 rfl ?_); refine zC (some 6) Tryz.func57 (ZM.calls k _ _ l0 a1 _ (zk a9.out) (aa.out) A2.out) ?_; rintro e w4 ⟨v638, rfl, a7, hb⟩; refine ⟨_, rfl, ?_⟩; have a3 := zA (Zl a7 (Z2 bq)); replace HB := ze hb; obtain ⟨al, am, af⟩ := Zx a3.out; subst af))
  go_ret;exact ⟨er, bq⟩
 rw [if_neg c3] at H;have ab := eF c3;have ac := nT c3
 have ag : ¬ (a1 = []) := fun h_ => c3 (by rw [h_]; rfl)
 generalize a2 : wrap64 ((a1.length : Int) - 1) = a5 at H;(try rw [a2] at A2);have hji6w : (IntKind.i64.wrap ((a1.length : Int) - 1)) = a5 := (Z1a _).trans a2;replace H := dn H;obtain ⟨c7, H⟩ := H;have ah := dT c7;clear c7;replace H := dn H;obtain ⟨c8, H⟩ := H;have ai := dT c8;clear c8;have H' := zA H;clear H;go_enter Tryz.func47, Tryz.ntmps47
 go_wp2_with (first | ((with_reducible refine zG 57 rfl ?_); refine zC (some 6) Tryz.func57 (ZM.calls k _ _ l0 a1 _ (zk a9.out) (aa.out) A2.out) ?_; rintro e w9 ⟨v638, rfl, a7, hb⟩; refine ⟨_, rfl, ?_⟩; have a3 := zA (Zl a7 (Z2 bq)); replace HB := ze hb; obtain ⟨aj, ak, ad⟩ := Zx a3.out; subst ad; have p640 : 0 ≤ ((a5) : Int) := od; have q640 : (a5) < (a1.length : Int) := od; obtain ⟨ad640, e640, ae⟩ := Kd.Zw (Z8 a3.out).2.2 (a5) p640 q640; cases e640; replace p640 := eq_true p640; replace q640 := eq_true q640))
 go_loopg [3, 4] k (fun kq v3 v4 w' => ∃ (a6 : Int) (a4 : Int), v3 = .int .i64 a6 ∧ v4 = .int .u64 a4 ∧ Aside0 (Z0G.l0 kq a6 a4 = some r) ∧ Aside0 (kq ≤ k) ∧ Aside0 (Below w.heap.size w w'))
 case atStart => exact ⟨(wrap64 (64 * (a5))), (rd a1 (a5)), (by first | rfl | (simp; done) | (simp only [← a2] <;> (first | rfl | simp)) | (simp [*]; done)), (by first | rfl | (simp; done) | (simp only [← a2] <;> (first | rfl | simp)) | (simp [*]; done)), H', zB2, ⟨bq⟩⟩
 case round =>
  clear H';obtain ⟨a6, a4, rfl, rfl, HA, HK1, HB⟩ := hrel
  cases gk with
  | zero => exact absurd HA.out (by simp [Z0G.l0])
  | succ k1 =>
   have H := HA.out;clear HA;simp only [Z0G.l0] at H
   by_cases c11 : a4 > 0
   ·rw [if_pos c11] at H;have a8 := dT c11;clear c11;have H' := zA H;clear H
    go_wp2
    go_roundg k1
    case measure => have := HK1.out; omega
    case rel => exact ⟨(wrap64 (a6 + 1)), (IntKind.u64.wrap (Int.tdiv a4 2)), zi, zi, (by first | exact H' | (simp only [a2]; exact H') | (simp only [a2] at H' ⊢; exact H')), zB1, ⟨bq⟩⟩
   rw [if_neg c11] at H;have a8 := dF c11;clear c11;obtain rfl := zk4 H
   go_wp2
   go_ret;exact ⟨by first | rfl | (simp [errW_none, errW_some] <;> rfl) | (simp only [← a2]; first | rfl | (simp [errW_none, errW_some] <;> rfl)) | (simp [*, errW_none, errW_some] <;> rfl), bq⟩
def Z0h.f (l0 : List Int) (a1 : Int) : Option (Int) := if a1 < (l0.length : Int) then (if 0 ≤ a1 then (some (rd l0 a1)) else (none)) else (some 0)
theorem Z0h.calls (A0 : Option Addr) (c0 : Nat) (l0 : List Int) (a1 : Int) (r : Int) (w : World) (hr0 : Kd.C Zu w A0 l0.length l0) (hc0 : l0.length ≤ c0) (h : Z0h.f l0 a1 = some r) :
  Calls Tryz.prog 104 #[.slice A0 l0.length c0, .int .i64 a1] w fun e w' => e = .returned (.int .u64 r) ∧ Drawn0 w w' := by
 have a4 := zA hr0;have a6 := zA hc0;clear hr0 hc0;have H := h
 unfold Z0h.f at H
 clear h
 by_cases c3 : a1 < (l0.length : Int)
 ·rw [if_pos c3] at H;have a2 := dT c3;clear c3;replace H := dn H;obtain ⟨c4, H⟩ := H;have a5 := dT c4;clear c4;obtain rfl := zk4 H;have p641 : 0 ≤ (a1 : Int) := od;have q641 : a1 < (l0.length : Int) := od;obtain ⟨ad641, e641, a3⟩ := Kd.Zw a4.out a1 p641 q641;cases e641;replace p641 := eq_true p641;replace q641 := eq_true q641;go_enter Tryz.func104, Tryz.ntmps104
  go_wp2
  go_ret;exact ⟨by first | rfl | (simp; done) | (simp [*]; done), by repeat (first | exact Drawn0.refl _ | apply Drawn0.step)⟩
 rw [if_neg c3] at H;have a2 := dF c3;clear c3;obtain rfl := zk4 H;go_enter Tryz.func104, Tryz.ntmps104
 go_wp2
 go_ret;exact ⟨by first | rfl | (simp; done) | (simp [*]; done), by repeat (first | exact Drawn0.refl _ | apply Drawn0.step)⟩
mutual
def ZW.l0 : Nat → List Int → Int → Bool → List Int → Int → Int → Option (List Int × Bool)
 | 0, _, _, _, _, _, _ => none
 | k + 1, x0, x1, x6, x24, x25, x26 => if x26 < x25 then (if 0 ≤ x26 then (if x26 < (x24.length : Int) then (if x6 = true then (ZW.l0 k x0 x1 true x24 x25 (wrap64 (x26 + 1))) else (ZW.l0 k x0 x1 ((rd x24 x26) != 0) x24 x25 (wrap64 (x26 + 1)))) else (none)) else (none)) else (ZW.l1 k x0 x1 x6 (IntKind.u64.wrap (Int.tmod x1 64)) ([] : List Int) (wrap64 (Int.tdiv x1 64)))
def ZW.l1 : Nat → List Int → Int → Bool → Int → List Int → Int → Option (List Int × Bool)
 | 0, _, _, _, _, _, _ => none
 | k + 1, x0, x1, x6, x9, x10, x11 => if x11 < (x0.length : Int) then (if 0 ≤ x11 then (if 0 ≤ x9 then (if x9 > 0 then ((Z0h.f x0 (wrap64 (x11 + 1))).bind fun a1 => (if 0 ≤ (IntKind.u64.wrap (64 - x9)) then (if x10.length < 17592186044416 then (ZW.l1 k x0 x1 x6 x9 (x10 ++ [Go.bits .or .u64 (shr .u64 (rd x0 x11) x9) (shl .u64 a1 (IntKind.u64.wrap (64 - x9)))]) (wrap64 (x11 + 1))) else (none)) else (none))) else (if x10.length < 17592186044416 then (ZW.l1 k x0 x1 x6 x9 (x10 ++ [shr .u64 (rd x0 x11) x9]) (wrap64 (x11 + 1))) else (none))) else (none)) else (none)) else (if x9 > 0 then (if x6 = true then ((ZM.f k x10).bind fun a2 => (some (a2, true))) else (if 0 ≤ (wrap64 (Int.tdiv x1 64)) then (if (wrap64 (Int.tdiv x1 64)) < (x0.length : Int) then (if 0 ≤ (IntKind.u64.wrap (64 - x9)) then ((ZM.f k x10).bind fun a3 => (some (a3, ((shl .u64 (rd x0 (wrap64 (Int.tdiv x1 64))) (IntKind.u64.wrap (64 - x9))) != 0)))) else (none)) else (none)) else (none))) else ((ZM.f k x10).bind fun a4 => (some (a4, x6))))
end
def ZW.f (k : Nat) (l0 : List Int) (a1 : Int) : Option (List Int × Bool) := if a1 ≥ (wrap64 (64 * (l0.length : Int))) then ((Z0G.f k l0).bind fun a2 => (some (([] : List Int), decide (a2 > 0)))) else (if 0 ≤ (wrap64 (Int.tdiv a1 64)) then (if (wrap64 (Int.tdiv a1 64)) ≤ (l0.length : Int) then (ZW.l0 k l0 a1 false (l0.take ((wrap64 (Int.tdiv a1 64)) : Int).toNat) (max (wrap64 (Int.tdiv a1 64)) 0) 0) else (none)) else (none))
theorem ZW.calls (k : Nat) (A0 : Option Addr) (c0 : Nat) (l0 : List Int) (a1 : Int) (r1 : List Int) (r2 : Bool) (w : World) (hr0 : Kd.C Zu w A0 l0.length l0) (hc0 : l0.length ≤ c0) (h : ZW.f k l0 a1 = some (r1, r2)) :
  Calls Tryz.prog 67 #[.slice A0 l0.length c0, .int .i64 a1] w fun e w' => ∃ v0_ : Value, e = .returned (.tuple #[v0_, .bool r2]) ∧ Kd.R Zu 22 w' w.heap.size (fun _ => True) v0_ r1 ∧ Below w.heap.size w w' := by
 have an := zA hr0;have aw := zA hc0;clear hr0 hc0;have HB := zA (Below.refl w.heap.size w);have H := h
 unfold ZW.f at H
 clear h
 by_cases c3 : a1 ≥ (wrap64 (64 * (l0.length : Int)))
 ·rw [if_pos c3] at H;have aU := dT c3;clear c3;obtain ⟨aV, A4, H⟩ := zh H;simp only [zk3, zk5] at H;obtain ⟨rfl, rfl⟩ := H;go_enter Tryz.func67, Tryz.ntmps67
  go_wp2_with (first | ((with_reducible refine zG 47 rfl ?_); refine zC (some 19) Tryz.func47 (Z0G.calls k _ _ l0 aV _ (zk an.out) (aw.out) A4.out) ?_; rintro e w5 ⟨rfl, hb⟩; refine ⟨_, rfl, ?_⟩; replace HB := ze hb))
  go_ret2
  exact ⟨_, er, by first | exact Z1Q _ _ _ _ _ | exact Kd.Z2k _ _ _ _ _ | exact Z11 _ _ _ _ _ | exact Kd.Z2h _ _ _ _ _ | exact Kd.Z2j _ _ _ _ _, bq⟩
 rw [if_neg c3] at H;have aU := dF c3;clear c3;generalize a6 : wrap64 (Int.tdiv a1 64) = a5 at H;have hji6w : (IntKind.i64.wrap (Int.tdiv a1 64)) = a5 := (Z1a _).trans a6;replace H := dn H;obtain ⟨c7, H⟩ := H;have bj := eq_true c7;have bk := dT c7;clear c7;replace H := dn H;obtain ⟨c8, H⟩ := H;have bl := eq_true c8;have bm := dT c8;clear c8;have H' := zA H;clear H;obtain ⟨i09, hi09, _, hsz9, _⟩ := info_parts info22;obtain ⟨hcut9, hA9, hC9⟩ := Z3q (P := Tryz.prog) (Value.int .u64) 0 32 22 .i64 Tryz.underlying32 hi09 hsz9 A0 c0 l0 (a5) (od) (od) aw.out;have av := zA (Z4a (h1 := fun _ => rfl) (hA9 _ (Kd.Z3i an.out)));have b7 := zA hC9;clear hA9 hC9 hi09 hsz9;go_enter Tryz.func67, Tryz.ntmps67
 go_wp2
 go_loopg [6, 26] k (fun kq v6 v26 w' => ∃ (ae : Bool) (a4 : Int), v6 = .bool ae ∧ v26 = .int .i64 a4 ∧ Aside0 (ZW.l0 kq l0 a1 ae (l0.take ((a5) : Int).toNat) (max (a5) 0) a4 = some (r1, r2)) ∧ Aside0 (kq ≤ k) ∧ Aside0 (Below w.heap.size w w'))
 case atStart => exact ⟨(false), (0), zi, zi, H', zB2, ⟨bq⟩⟩
 case round =>
  clear H';obtain ⟨ae, a4, rfl, rfl, HA, HK1, HB⟩ := hrel
  cases gk with
  | zero => exact absurd HA.out (by simp [ZW.l0])
  | succ k1 =>
   have H := HA.out;clear HA;simp only [ZW.l0] at H
   by_cases c10 : a4 < (max (a5) 0)
   ·rw [if_pos c10] at H;have aA := dT c10;have c10bx : (a4 < (max (a5) 0)) = True := eq_true c10;clear c10;replace H := dn H;obtain ⟨c11, H⟩ := H;have b8 := dT c11;clear c11;replace H := dn H;obtain ⟨c12, H⟩ := H;have b9 : decide (a4 < ((l0.take ((a5) : Int).toNat).length : Int)) = true := dT c12;clear c12
    by_cases c13 : ae = true
    ·subst c13;rw [if_pos rfl] at H;have H' := zA H;clear H;have p644 : 0 ≤ (a4 : Int) := od;have q644 : a4 < ((l0.take ((a5) : Int).toNat).length : Int) := od;obtain ⟨ad644, e644, a8⟩ := Kd.Zw av.out a4 p644 q644;cases e644;replace a8 := (HB.out.cell (World.block_lt_of_cell? w _ a8)).trans a8;replace p644 := eq_true p644;replace q644 := eq_true q644
     go_wp2
     go_roundg k1
     case measure => have := HK1.out; omega
     case rel => exact ⟨(true), (wrap64 (a4 + 1)), zi, zi, (by first | exact H' | (simp only [a6]; exact H') | (simp only [a6] at H' ⊢; exact H')), zB1, ⟨bq⟩⟩
    replace c13 := Bool.eq_false_iff.mpr c13;subst c13;rw [if_neg (show ¬ (false = true) by decide)] at H;have H' := zA H;clear H;have p644 : 0 ≤ (a4 : Int) := od;have q644 : a4 < ((l0.take ((a5) : Int).toNat).length : Int) := od;obtain ⟨ad644, e644, a8⟩ := Kd.Zw av.out a4 p644 q644;cases e644;replace a8 := (HB.out.cell (World.block_lt_of_cell? w _ a8)).trans a8;replace p644 := eq_true p644;replace q644 := eq_true q644
    go_wp2
    go_roundg k1
    case measure => have := HK1.out; omega
    case rel => exact ⟨(((rd (l0.take ((a5) : Int).toNat) a4) != 0)), (wrap64 (a4 + 1)), (by first | rfl | (simp; done) | (simp only [← a6] <;> (first | rfl | simp)) | (simp [*]; done)), zi, (by first | exact H' | (simp only [a6]; exact H') | (simp only [a6] at H' ⊢; exact H')), zB1, ⟨bq⟩⟩
   rw [if_neg c10] at H;have aA := dF c10;clear c10;have H' := zA H;clear H
   go_wp2
   go_loopg [10, 11] k1 (fun kq v10 v11 w' => ∃ (a7 : List Int) (a3 : Int), v11 = .int .i64 a3 ∧ Aside0 (ZW.l1 kq l0 a1 ae (IntKind.u64.wrap (Int.tmod a1 64)) a7 a3 = some (r1, r2)) ∧ Aside0 (kq ≤ k1) ∧ Aside0 (Kd.R Zu 22 w' w.heap.size (fun _ => True) v10 a7) ∧ Aside0 (Below w.heap.size w w'))
   case atStart => exact ⟨(([] : List Int)), (wrap64 (Int.tdiv a1 64)), zi, H', zB2, ⟨by first | exact Z1Q _ _ _ _ _ | exact Kd.Z2k _ _ _ _ _ | exact Z11 _ _ _ _ _ | exact Kd.Z2h _ _ _ _ _ | exact Kd.Z2j _ _ _ _ _⟩, ⟨bq⟩⟩
   case round =>
    clear H';obtain ⟨a7, a3, rfl, HA, HK2, a2, HB⟩ := hrel
    cases gk with
    | zero => exact absurd HA.out (by simp [ZW.l1])
    | succ k2 =>
     have H := HA.out;clear HA;simp only [ZW.l1] at H
     by_cases c14 : a3 < (l0.length : Int)
     ·rw [if_pos c14] at H;have aC := dT c14;clear c14;replace H := dn H;obtain ⟨c15, H⟩ := H;have ba := dT c15;clear c15;generalize ab : IntKind.u64.wrap (Int.tmod a1 64) = af at H;replace H := dn H;obtain ⟨c17, H⟩ := H;have bb := eq_true c17;have bc := dT c17;clear c17;generalize ac : shr .u64 (rd l0 a3) (af) = aa at H;have hji18_ : ((rd l0 a3) / 2 ^ min (af).toNat 64) = aa := ac;have hji18z : (af) ≤ 64 → ((rd l0 a3) / 2 ^ (af).toNat) = aa := Z2n ac
      by_cases c19 : (af) > 0
      ·rw [if_pos c19] at H;have aD := dT c19;clear c19;obtain ⟨ao, ax, H⟩ := zh H;generalize ai : IntKind.u64.wrap (64 - (af)) = ap at H;(try rw [ai] at ax);replace H := dn H;obtain ⟨c22, H⟩ := H;have bd := eq_true c22;have be := dT c22;clear c22;generalize ad : shl .u64 ao (ap) = am at H;(try rw [ad] at ax);have hji23_ : (IntKind.u64.wrap (ao * 2 ^ min (ap).toNat 64)) = am := ad;have hji23z : (ap) ≤ 64 → (IntKind.u64.wrap (ao * 2 ^ (ap).toNat)) = am := Z2m ad;replace H := dn H;obtain ⟨c24, H⟩ := H;have aE := zA c24;clear c24;obtain ⟨aW, aj⟩ : ∃ y_ : List Int, y_ = (a7 ++ [Go.bits .or .u64 (aa) (am)]) := ⟨_, rfl⟩;(first | replace H := zRb aj H | rw [← aj] at H | skip);have aG := zA aj;clear aj;have H' := zA H;clear H;have p645 : 0 ≤ (a3 : Int) := od;have q645 : a3 < (l0.length : Int) := od;obtain ⟨ad645, e645, a9⟩ := Kd.Zw an.out a3 p645 q645;cases e645;replace a9 := (HB.out.cell (World.block_lt_of_cell? w _ a9)).trans a9;replace p645 := eq_true p645;replace q645 := eq_true q645
       go_wp2_with (first | ((with_reducible refine zG 104 rfl ?_); refine zC (some 59) Tryz.func104 (Z0h.calls _ _ l0 (wrap64 (a3 + 1)) ao _ (zk (ZF an.out HB.out)) (aw.out) ax.out) ?_; rintro e w' ⟨rfl, ⟨nd, rfl⟩⟩; refine ⟨_, rfl, ?_⟩) | ((with_reducible refine Z1x (b := .append) (xs := #[.tmp 64, .tmp 66]) rfl ?_); at_builtin; refine Z3c Zu (w0 := w) w.heap.size rfl (.tmp 64) (.tmp 66) 32 22 (.int .u64 0) 8 rfl Tryz.underlying32 info22 rfl (by decide) (by omega) u10 a7 (Go.bits .or .u64 (aa) (am)) [.int .u64 (Go.bits .or .u64 (aa) (am))] (fun _ => True) (fun _ => False) rfl rfl ?aP (fun _ hk => hk.elim) ?aF ?aO ?aB ?aS ?aL ?_; (case aP => exact rfl); (case aB => exact bq); (case aF => exact (fun _ _ => trivial)); (case aO => exact (ru a2.out)); (case aS => exact (Z2 bq)); (case aL => have := aE.out; omega); intro v648 w25 ho hb hg hat; rw [← aG.out] at ho; have n0_ := zA (hb); have n1_ := zA (ho); clear HB; clear a2; have HB := n0_; have aH := n1_; clear n0_ n1_; clear ho hb hg hat))
       (try simp only [← ab, ← ai])
       go_roundg k2
       case measure => have := HK1.out; have := HK2.out; omega
       case rel => exact ⟨(aW), (wrap64 (a3 + 1)), zi, (by first | exact H' | (simp only [a6, ab, ac, ai, ad]; exact H') | (simp only [a6, ab, ac, ai, ad] at H' ⊢; exact H')), ⟨by have := HK1.out; have := HK2.out; omega⟩, ⟨ru aH.out⟩, ⟨bq⟩⟩
      rw [if_neg c19] at H;have aD := dF c19;clear c19;replace H := dn H;obtain ⟨c26, H⟩ := H;have aI := zA c26;clear c26;obtain ⟨aX, ak⟩ : ∃ y_ : List Int, y_ = (a7 ++ [aa]) := ⟨_, rfl⟩;(first | replace H := zRb ak H | rw [← ak] at H | skip);have aJ := zA ak;clear ak;have H' := zA H;clear H;have p645 : 0 ≤ (a3 : Int) := od;have q645 : a3 < (l0.length : Int) := od;obtain ⟨ad645, e645, a9⟩ := Kd.Zw an.out a3 p645 q645;cases e645;replace a9 := (HB.out.cell (World.block_lt_of_cell? w _ a9)).trans a9;replace p645 := eq_true p645;replace q645 := eq_true q645
      go_wp2_with (first | ((with_reducible refine Z1x (b := .append) (xs := #[.tmp 64, .tmp 66]) rfl ?_); at_builtin; refine Z3c Zu (w0 := w) w.heap.size rfl (.tmp 64) (.tmp 66) 32 22 (.int .u64 0) 8 rfl Tryz.underlying32 info22 rfl (by decide) (by omega) u10 a7 aa [.int .u64 aa] (fun _ => True) (fun _ => False) rfl rfl ?aP (fun _ hk => hk.elim) ?aF ?aO ?aB ?aS ?aL ?_; (case aP => exact rfl); (case aB => exact bq); (case aF => exact (fun _ _ => trivial)); (case aO => exact (ru a2.out)); (case aS => exact (Z2 bq)); (case aL => have := aI.out; omega); intro v651 w27 ho hb hg hat; rw [← aJ.out] at ho; have n0_ := zA (hb); have n1_ := zA (ho); clear HB; clear a2; have HB := n0_; have aK := n1_; clear n0_ n1_; clear ho hb hg hat))
      (try simp only [← ab])
      go_roundg k2
      case measure => have := HK1.out; have := HK2.out; omega
      case rel => exact ⟨(aX), (wrap64 (a3 + 1)), zi, (by first | exact H' | (simp only [a6, ab, ac]; exact H') | (simp only [a6, ab, ac] at H' ⊢; exact H')), ⟨by have := HK1.out; have := HK2.out; omega⟩, ⟨ru aK.out⟩, ⟨bq⟩⟩
     rw [if_neg c14] at H;have aC := dF c14;clear c14
     by_cases c28 : (IntKind.u64.wrap (Int.tmod a1 64)) > 0
     ·rw [if_pos c28] at H;have aM := dT c28;clear c28
      by_cases c29 : ae = true
      ·subst c29;rw [if_pos rfl] at H;obtain ⟨aY, b4, H⟩ := zh H;simp only [zk3, zk5] at H;obtain ⟨rfl, rfl⟩ := H;obtain ⟨bn, bo, az⟩ := Zx a2.out;subst az
       go_wp2_with (first | ((with_reducible refine zG 57 rfl ?_); refine zC (some 83) Tryz.func57 (ZM.calls k2 _ _ a7 aY _ (zk (Z8 a2.out).2.2) ((Z8 a2.out).2.1) b4.out) ?_; rintro e w32 ⟨v654, rfl, ah, hb⟩; refine ⟨_, rfl, ?_⟩; have aN := zA (Zl (Zz ah (ZO (ru a2.out))) (Z2 bq)); replace a2 := zA (ZC (ru a2.out) (Zc ah) hb); replace HB := ze hb))
       go_ret2
       exact ⟨_, by first | rfl | (simp [errW_none, errW_some] <;> rfl) | (simp only [← a6]; first | rfl | (simp [errW_none, errW_some] <;> rfl)) | (simp [*, errW_none, errW_some] <;> rfl), ru (ZB aN.out (fun _ hk => trivial)), bq⟩
      replace c29 := Bool.eq_false_iff.mpr c29;subst c29;rw [if_neg (show ¬ (false = true) by decide)] at H;obtain ⟨aZ, al⟩ : ∃ j_ : Int, (wrap64 (Int.tdiv a1 64)) = j_ := ⟨_, rfl⟩;obtain rfl : a5 = aZ := a6.symm.trans al;replace H : (if 0 ≤ (a5) then (if (a5) < (l0.length : Int) then (if 0 ≤ (IntKind.u64.wrap (64 - (IntKind.u64.wrap (Int.tmod a1 64)))) then ((ZM.f k2 a7).bind fun au => (some (au, ((shl .u64 (rd l0 (a5)) (IntKind.u64.wrap (64 - (IntKind.u64.wrap (Int.tmod a1 64))))) != 0)))) else (none)) else (none)) else (none)) = some (r1, r2) := zQ al H;have hji33w : (IntKind.i64.wrap (Int.tdiv a1 64)) = a5 := (Z1a _).trans al;replace H := dn H;obtain ⟨c34, H⟩ := H;have bf := dT c34;clear c34;replace H := dn H;obtain ⟨c35, H⟩ := H;have bg := dT c35;clear c35;generalize aQ : IntKind.u64.wrap (64 - (IntKind.u64.wrap (Int.tmod a1 64))) = aq at H;replace H := dn H;obtain ⟨c37, H⟩ := H;have bh := eq_true c37;have bi := dT c37;clear c37;generalize ar : shl .u64 (rd l0 (a5)) (aq) = ay at H;have hji38_ : (IntKind.u64.wrap ((rd l0 (a5)) * 2 ^ min (aq).toNat 64)) = ay := ar;have hji38z : (aq) ≤ 64 → (IntKind.u64.wrap ((rd l0 (a5)) * 2 ^ (aq).toNat)) = ay := Z2m ar;obtain ⟨au, b5, H⟩ := zh H;simp only [zk3, zk5] at H;obtain ⟨rfl, rfl⟩ := H;have p656 : 0 ≤ ((a5) : Int) := od;have q656 : (a5) < (l0.length : Int) := od;obtain ⟨ad656, e656, ag⟩ := Kd.Zw an.out (a5) p656 q656;cases e656;replace ag := (HB.out.cell (World.block_lt_of_cell? w _ ag)).trans ag;replace p656 := eq_true p656;replace q656 := eq_true q656;obtain ⟨bp, br, b1⟩ := Zx a2.out;subst b1
      go_wp2_with (first | ((with_reducible refine zG 57 rfl ?_); refine zC (some 83) Tryz.func57 (ZM.calls k2 _ _ a7 au _ (zk (Z8 a2.out).2.2) ((Z8 a2.out).2.1) b5.out) ?_; rintro e w41 ⟨v658, rfl, ah, hb⟩; refine ⟨_, rfl, ?_⟩; have aR := zA (Zl (Zz ah (ZO (ru a2.out))) (Z2 bq)); replace a2 := zA (ZC (ru a2.out) (Zc ah) hb); replace HB := ze hb))
      go_ret2
      exact ⟨_, by first | rfl | (simp [errW_none, errW_some] <;> rfl) | (simp only [← a6, ← al, ← aQ, ← ar]; first | rfl | (simp [errW_none, errW_some] <;> rfl)) | (simp [*, errW_none, errW_some] <;> rfl), ru (ZB aR.out (fun _ hk => trivial)), bq⟩
     rw [if_neg c28] at H;have aM := dF c28;clear c28;obtain ⟨b2, b6, H⟩ := zh H;simp only [zk3, zk5] at H;obtain ⟨rfl, rfl⟩ := H;obtain ⟨bs, bt, b3⟩ := Zx a2.out;subst b3
     go_wp2_with (first | ((with_reducible refine zG 57 rfl ?_); refine zC (some 83) Tryz.func57 (ZM.calls k2 _ _ a7 b2 _ (zk (Z8 a2.out).2.2) ((Z8 a2.out).2.1) b6.out) ?_; rintro e w44 ⟨v661, rfl, ah, hb⟩; refine ⟨_, rfl, ?_⟩; have aT := zA (Zl (Zz ah (ZO (ru a2.out))) (Z2 bq)); replace a2 := zA (ZC (ru a2.out) (Zc ah) hb); replace HB := ze hb))
     go_ret2
     exact ⟨_, by first | rfl | (simp [errW_none, errW_some] <;> rfl) | (simp only [← a6]; first | rfl | (simp [errW_none, errW_some] <;> rfl)) | (simp [*, errW_none, errW_some] <;> rfl), ru (ZB aT.out (fun _ hk => trivial)), bq⟩
def Z2o.f (l0 : List Int) (a1 : Int) : Option (Bool) := if a1 ≥ 0 then ((Z0h.f l0 (wrap64 (Int.tdiv a1 64))).bind fun a2 => (if 0 ≤ (IntKind.u64.wrap (Int.tmod a1 64)) then (some ((Int.tmod (shr .u64 a2 (IntKind.u64.wrap (Int.tmod a1 64))) 2) == 1)) else (none))) else (some false)
theorem Z2o.calls (A0 : Option Addr) (c0 : Nat) (l0 : List Int) (a1 : Int) (r : Bool) (w : World) (hr0 : Kd.C Zu w A0 l0.length l0) (hc0 : l0.length ≤ c0) (h : Z2o.f l0 a1 = some r) :
  Calls Tryz.prog 134 #[.slice A0 l0.length c0, .int .i64 a1] w fun e w' => e = .returned (.bool r) ∧ Drawn0 w w' := by
 have aa := zA hr0;have ab := zA hc0;clear hr0 hc0;have H := h
 unfold Z2o.f at H
 clear h
 by_cases c3 : a1 ≥ 0
 ·rw [if_pos c3] at H;have a9 := dT c3;clear c3;obtain ⟨a2, A4, H⟩ := zh H;generalize a5 : IntKind.u64.wrap (Int.tmod a1 64) = a4 at H;(try rw [a5] at A4);replace H := dn H;obtain ⟨c6, H⟩ := H;have ac := eq_true c6;have ad := dT c6;clear c6;generalize a3 : shr .u64 a2 (a4) = a8 at H;(try rw [a3] at A4);have hji7_ : (a2 / 2 ^ min (a4).toNat 64) = a8 := a3;have hji7z : (a4) ≤ 64 → (a2 / 2 ^ (a4).toNat) = a8 := Z2n a3;obtain rfl := zk4 H;go_enter Tryz.func134, Tryz.ntmps134
  go_wp2_with (first | (go_at_call 104; (with_reducible refine (Z0h.calls _ _ l0 (wrap64 (Int.tdiv a1 64)) a2 _ ?a6 ?a7 A4.out).mono ?_); (case a6 => exact zk aa.out); (case a7 => exact ab.out); rintro e w' ⟨rfl, ⟨nd, rfl⟩⟩))
  go_ret;exact ⟨by first | rfl | (simp; done) | (simp only [← a5, ← a3] <;> (first | rfl | simp)) | (simp [*]; done), by repeat (first | exact Drawn0.refl _ | apply Drawn0.step)⟩
 rw [if_neg c3] at H;have a9 := dF c3;clear c3;obtain rfl := zk4 H;go_enter Tryz.func134, Tryz.ntmps134
 go_wp2
 go_ret;exact ⟨by first | rfl | (simp; done) | (simp [*]; done), by repeat (first | exact Drawn0.refl _ | apply Drawn0.step)⟩
def Z0R.l0 : Nat → List Int → Int → Option (Int)
 | 0, _, _ => none
 | k + 1, x0, x3 => (Z2o.f x0 x3).bind fun a1 => (if a1 = true then (some x3) else (Z0R.l0 k x0 (wrap64 (x3 + 1))))
def Z0R.f (k : Nat) (l0 : List Int) : Option (Int) := (Z0G.f k l0).bind fun a1 => (if a1 = 0 then (some 0) else (Z0R.l0 k l0 0))
theorem Z0R.calls (k : Nat) (A0 : Option Addr) (c0 : Nat) (l0 : List Int) (r : Int) (w : World) (hr0 : Kd.C Zu w A0 l0.length l0) (hc0 : l0.length ≤ c0) (h : Z0R.f k l0 = some r) :
  Calls Tryz.prog 94 #[.slice A0 l0.length c0] w fun e w' => e = .returned (.int .i64 r) ∧ Below w.heap.size w w' := by
 have a3 := zA hr0;have a4 := zA hc0;clear hr0 hc0;have HB := zA (Below.refl w.heap.size w);have H := h
 unfold Z0R.f at H
 clear h;obtain ⟨a2, A2, H⟩ := zh H
 by_cases c3 : a2 = 0
 ·rw [if_pos c3] at H;have a5 := eT c3;have a6 := nF c3;clear c3;obtain rfl := zk4 H;go_enter Tryz.func94, Tryz.ntmps94
  go_wp2_with (first | ((with_reducible refine zG 47 rfl ?_); refine zC (some 5) Tryz.func47 (Z0G.calls k _ _ l0 a2 _ (zk a3.out) (a4.out) A2.out) ?_; rintro e w4 ⟨rfl, hb⟩; refine ⟨_, rfl, ?_⟩; replace HB := ze hb))
  go_ret;exact ⟨er, bq⟩
 rw [if_neg c3] at H;have a5 := eF c3;have a6 := nT c3;have H' := zA H;clear H;go_enter Tryz.func94, Tryz.ntmps94
 go_wp2_with (first | ((with_reducible refine zG 47 rfl ?_); refine zC (some 5) Tryz.func47 (Z0G.calls k _ _ l0 a2 _ (zk a3.out) (a4.out) A2.out) ?_; rintro e w5 ⟨rfl, hb⟩; refine ⟨_, rfl, ?_⟩; replace HB := ze hb))
 go_loopg [3] k (fun kq v3 w' => ∃ (a1 : Int), v3 = .int .i64 a1 ∧ Aside0 (Z0R.l0 kq l0 a1 = some r) ∧ Aside0 (kq ≤ k) ∧ Aside0 (Below w.heap.size w w'))
 case atStart => exact ⟨(0), zi, H', zB2, ⟨bq⟩⟩
 case round =>
  clear H';obtain ⟨a1, rfl, HA, HK1, HB⟩ := hrel
  cases gk with
  | zero => exact absurd HA.out (by simp [Z0R.l0])
  | succ k1 =>
   have H := HA.out;clear HA;simp only [Z0R.l0] at H;obtain ⟨a7, A6, H⟩ := zh H
   by_cases c7 : a7 = true
   ·subst c7;rw [if_pos rfl] at H;obtain rfl := zk4 H
    go_wp2_with (first | ((with_reducible refine zG 134 rfl ?_); refine zC (some 9) Tryz.func134 (Z2o.calls _ _ l0 a1 true _ (zk (ZF a3.out HB.out)) (a4.out) A6.out) ?_; rintro e w' ⟨rfl, ⟨nd, rfl⟩⟩; refine ⟨_, rfl, ?_⟩))
    go_ret;exact ⟨er, bq⟩
   replace c7 := Bool.eq_false_iff.mpr c7;subst c7;rw [if_neg (show ¬ (false = true) by decide)] at H;have H' := zA H;clear H
   go_wp2_with (first | ((with_reducible refine zG 134 rfl ?_); refine zC (some 9) Tryz.func134 (Z2o.calls _ _ l0 a1 false _ (zk (ZF a3.out HB.out)) (a4.out) A6.out) ?_; rintro e w' ⟨rfl, ⟨nd, rfl⟩⟩; refine ⟨_, rfl, ?_⟩))
   go_roundg k1
   case measure => have := HK1.out; omega
   case rel => exact ⟨(wrap64 (a1 + 1)), zi, H', zB1, ⟨bq⟩⟩
def Z0y.f (k : Nat) (a0 : Bool) (l1 : List Int) (a2 : Int) : Option (Bool × List Int × Int) := (ZM.f k l1).bind fun a1 => (if (a1.length : Int) = 0 then (some (false, ([] : List Int), 0)) else ((Z0R.f k a1).bind fun a3 => ((ZW.f k a1 a3).bind fun a4 => (some (a0, a4.1, wrap64 (a2 + a3))))))
theorem Z0y.calls (k : Nat) (a0 : Bool) (A1 : Option Addr) (c1 : Nat) (l1 : List Int) (a2 : Int) (r1 : Bool) (r2 : List Int) (r3 : Int) (w : World) (hr1 : Kd.C Zu w A1 l1.length l1) (hc1 : l1.length ≤ c1) (h : Z0y.f k a0 l1 a2 = some (r1, r2, r3)) :
  Calls Tryz.prog 56 #[.bool a0, .slice A1 l1.length c1, .int .i64 a2] w fun e w' => ∃ v1_ : Value, e = .returned (.agg #[.bool r1, v1_, .int .i64 r3]) ∧ Kd.R Zu 22 w' w.heap.size (fun _ => True) v1_ r2 ∧ Below w.heap.size w w' := by
 have hu34 := Tryz.underlying34;have am := zA hr1;have an := zA hc1;clear hr1 hc1;have HB := zA (Below.refl w.heap.size w);have H := h
 unfold Z0y.f at H
 clear h;obtain ⟨a5, A4, H⟩ := zh H
 by_cases c5 : (a5.length : Int) = 0
 rw [if_pos c5] at H;have ac := eT c5;have ad := nF c5;clear c5;rotate_left;rw [if_neg c5] at H;have ac := eF c5;have ad := nT c5
 have aB : ¬ (a5 = []) := fun h_ => c5 (by rw [h_]; rfl)
 obtain ⟨a6, ao, H⟩ := zh H;obtain ⟨⟨a7, ae⟩, ap, H⟩ := zh H;(try dsimp only at H);rotate_left
 all_goals
  simp only [zk3, zk5] at H;obtain ⟨rfl, rfl, rfl⟩ := H;go_enter Tryz.func56, Tryz.ntmps56
  go_wp2_with (first | ((with_reducible refine zD 6 rfl ?_); refine zn (N := 6) (cs := #[.bool false, .slice none 0 0, .int .i64 0]) (t := 34) rfl rfl ?_; intro a4 hg w6 hbox hb; have a1 := zA (hbox); have aA := zw hg; replace HB := ze hb; clear hb hbox hg) | ((with_reducible refine zG 57 rfl ?_); refine zC (some 12) Tryz.func57 (ZM.calls k _ _ l1 a5 _ (zk (ZF am.out HB.out)) (an.out) A4.out) ?_; rintro e w7 ⟨v668, rfl, a8, hb⟩; refine ⟨_, rfl, ?_⟩; have a3 := zA (Zl a8 (Z2 zs)); replace a1 := zb a1 hb; replace HB := zf hb; obtain ⟨aC, aD, aq⟩ := Zx a3.out; subst aq; (try (obtain ⟨ar, au, av, aw, ax, ay⟩ := zc a1))) | ((with_reducible refine zG 94 rfl ?_); refine zC (some 18) Tryz.func94 (Z0R.calls k _ _ a5 a6 _ (zk (Z8 a3.out).2.2) ((Z8 a3.out).2.1) ao.out) ?_; rintro e w15 ⟨rfl, hb⟩; refine ⟨_, rfl, ?_⟩; replace a3 := zA (Zt (ru a3.out) hb); replace a1 := zb a1 hb; replace HB := zf hb) | ((with_reducible refine zG 67 rfl ?_); refine zC (some 22) Tryz.func67 (ZW.calls k _ _ a5 a6 a7 ae _ (zk (Z8 a3.out).2.2) ((Z8 a3.out).2.1) ap.out) ?_; rintro e w16 ⟨v673, rfl, a8, hb⟩; refine ⟨_, rfl, ?_⟩; have a9 := zA (Zl (Zz a8 (ZO (ru a3.out))) (Z2 zs)); replace a3 := zA (ZC (ru a3.out) (Zc a8) hb); replace a1 := zb a1 hb; replace HB := zf hb; obtain ⟨aa, ab, af⟩ := Zx a9.out; subst af; obtain ⟨ag, ah, ai, aj, ak, al⟩ := zc a1))
 ·refine bodyPost_ret (results_cell_row rfl _ _ a4 34 #[.bool false, .slice none 0 0, .int .i64 0] (0, 0) _ rfl (zy a1) Tryz.underlying34 rfl (by kernel_rfl)) rfl ?_;exact ⟨_, er, by first | exact Z1Q _ _ _ _ _ | exact Kd.Z2k _ _ _ _ _ | exact Z11 _ _ _ _ _ | exact Kd.Z2h _ _ _ _ _ | exact Kd.Z2j _ _ _ _ _, zs⟩
 refine bodyPost_ret (results_cell_row rfl _ _ a4 34 #[.bool a0, .slice aa a7.length ab, .int .i64 (wrap64 (a2 + a6))] (0, 0) _ rfl (zy a1) Tryz.underlying34 rfl (by kernel_rfl)) rfl ?_;exact ⟨_, er, ru (ZB (Z0Z (p := ⟨a4, 2, none⟩) (Z0Z (p := ⟨a4, 1, none⟩) (Z0Z (p := ⟨a4, 0, none⟩) (Z0i a9.out a1.out (by decide)) (fun _ hk => hk.2) (.bool a0)) (fun _ hk => hk.2) (.slice aa a7.length ab)) (fun _ hk => hk.2) (.int .i64 (wrap64 (a2 + a6)))) (fun _ hk => trivial)), zs⟩
end Go.Proofs.YtjnfipkbgmdpaaaGreatDoor.PAll
