/- Printed functions. -/
import Derived.Test.YtjnfipkbgmdpaaaGreatDoorXAlgRisesP16
namespace Go.Proofs.YtjnfipkbgmdpaaaGreatDoor.PAll
open RowKit YtjnfipkbgmdpaaaGreatDoorW.PrintWords YtjnfipkbgmdpaaaGreatDoorW.PrintLast YtjnfipkbgmdpaaaGreatDoorW.PrintMore YtjnfipkbgmdpaaaGreatDoorW.PrintWords.Kd
attribute [local go_sem] Z1k Z1l Z1G Z1H Z16 Z17 Z1m Z1n
set_option linter.unusedVariables false
set_option maxHeartbeats 8000000
set_option maxRecDepth 100000
set_option linter.unusedSimpArgs false
attribute [local go_sem] fld77_0 fld77_1 fld77_2 ext153 ext154
theorem eqA25 (d : Nat) (w : World) (x0 y0 : Int) (x1 y1 : Int) :
  (Op.equalIn (d + 2) 25 (.agg #[.int .u64 x0, .int .u8 x1]) (.agg #[.int .u64 y0, .int .u8 y1])).run Tryz.prog w = .ok (x0 == y0 && (x1 == y1)) w := by
 refine Zf9 Tryz.underlying25 (by kernel_rfl) ?_;refine Zcx (by rfl) (by go_simp; rfl) (by go_simp; rfl) (by go_simp) ?_;exact Zcw (by rfl) (by go_simp; rfl) (by go_simp; rfl) (by go_simp)
attribute [local go_sem high] eqA25
def Z2g.f (k : Nat)  : Option (Bool) := (Z1w.f k 4620693217682128896).bind fun a1 => ((Z0o.f k 1).bind fun a2 => ((Z0C.f k 4613937818241073152 4616189618054758400).bind fun a3 => ((Z1g.f k 4611686018427387904).bind fun a4 => (if a1.2.2 = 0 then (if (a1.1 == 4611686018427387904 && (a1.2.1 == 0)) = true then (if a2.2.2 = 0 then (if (a2.1 == 7025615418697973760 && (a2.2.1 == 0)) = true then (if a3.2.2 = 0 then (if (a3.1 == 4617315517961601024 && (a3.2.1 == 0)) = true then (if a4.2.2 = 0 then (some (a4.1 == 4609047870845172685 && (a4.2.1 == 16))) else (some false)) else (some false)) else (some false)) else (some false)) else (some false)) else (some false)) else (some false)))))
theorem Z2g.calls (k : Nat)  (r : Bool) (w : World) (hT : Laid w) (hr_ : Aside0 (r = true)) (h : Z2g.f k  = some r) :
  Calls Tryz.prog 15 #[] w fun e w' => e = .returned (.bool r) ∧ Below w.heap.size w w' := by
 have hu25 := Tryz.underlying25;have HB := zA (Below.refl w.heap.size w);have H := h
 unfold Z2g.f at H
 clear h;obtain ⟨⟨a4, a7, an⟩, A1, H⟩ := zh H;(try dsimp only at H);obtain ⟨⟨a5, a8, ao⟩, A2, H⟩ := zh H;(try dsimp only at H);obtain ⟨⟨a6, a9, ap⟩, A3, H⟩ := zh H;(try dsimp only at H);obtain ⟨⟨aw, ax, aq⟩, A4, H⟩ := zh H;(try dsimp only at H)
 by_cases c5 : an = 0
 ·rw [if_pos c5] at H;have aE := eT c5;have aF := nF c5;clear c5
  by_cases c6 : (a4 == 4611686018427387904 && (a7 == 0)) = true
  ·rw [if_pos c6] at H;have aG : (a4 == 4611686018427387904 && (a7 == 0)) = true := c6;(try (have aH : decide (a4 = 4611686018427387904 && (a7 == 0)) = true := by simpa using c6));(try (have aI : (a4 == 4611686018427387904 && (a7 == 0)) = true := by simpa using c6));clear c6
   by_cases c7 : ao = 0
   ·rw [if_pos c7] at H;have aJ := eT c7;have aK := nF c7;clear c7
    by_cases c8 : (a5 == 7025615418697973760 && (a8 == 0)) = true
    ·rw [if_pos c8] at H;have aL : (a5 == 7025615418697973760 && (a8 == 0)) = true := c8;(try (have aM : decide (a5 = 7025615418697973760 && (a8 == 0)) = true := by simpa using c8));(try (have aN : (a5 == 7025615418697973760 && (a8 == 0)) = true := by simpa using c8));clear c8
     by_cases c9 : ap = 0
     ·rw [if_pos c9] at H;have aO := eT c9;have aP := nF c9;clear c9
      by_cases c10 : (a6 == 4617315517961601024 && (a9 == 0)) = true
      ·rw [if_pos c10] at H;have ay : (a6 == 4617315517961601024 && (a9 == 0)) = true := c10;(try (have aA : decide (a6 = 4617315517961601024 && (a9 == 0)) = true := by simpa using c10));(try (have aB : (a6 == 4617315517961601024 && (a9 == 0)) = true := by simpa using c10));clear c10
       by_cases c11 : aq = 0
       ·rw [if_pos c11] at H;have aC := eT c11;have aD := nF c11;clear c11;clear hr_;obtain rfl := zk4 H;go_enter Tryz.func15, Tryz.ntmps15
        go_wp2_with (first | ((with_reducible refine zG 9 rfl ?_); refine zC (some 10) Tryz.func9 (Z1w.calls k 4620693217682128896 a4 a7 an _ (laid_below hT bq) A1.out) ?_; rintro e w12 ⟨rfl, hb⟩; refine ⟨_, rfl, ?_⟩; replace HB := ze hb) | ((with_reducible refine zD 1 rfl ?_); refine zn (N := 1) (cs := #[.int .u64 0, .int .u8 0]) (t := 25) rfl rfl ?_; intro ar hg w13 hbox hb; have a1 := zA (hbox); have bi := zw hg; replace HB := ze hb; clear hb hbox hg; have aQ := zM0 a1; have aR := zM1 a1; have aS := Z3 a1.out 0; have aT := Z3 a1.out 1) | ((with_reducible refine zG 13 rfl ?_); refine zC (some 14) Tryz.func13 (Z0o.calls k 1 a5 a8 ao _ (laid_below hT zs) A2.out) ?_; rintro e w15 ⟨rfl, hb⟩; refine ⟨_, rfl, ?_⟩; replace a1 := zA (Zv (g := ar) (o := .cells #[.int .u64 a4, .int .u8 a7] 25 (0, 0)) (by (with_reducible repeat (first | refine Zi ?_ _ | refine Z9 ?_ | refine Zh ?_ _)); refine Zb (cs := #[.int .u64 a4, .int .u8 0]) ?_ 1 _ rfl; refine Zb (cs := #[.int .u64 0, .int .u8 0]) ?_ 0 _ rfl; exact a1.out) hb); replace HB := zf hb) | ((with_reducible refine zD 3 rfl ?_); refine zn (N := 3) (cs := #[.int .u64 0, .int .u8 0]) (t := 25) rfl rfl ?_; intro au hg w16 hbox hb; have a2 := zA (hbox); have bj := zx hg; replace HB := zf hb; have ab := zl a1 hg; have ac := zg a1 hg; replace a1 := zb a1 hb; clear hb hbox hg; have bn := ac.out; have bo := ab.out; have aU := zM0 a2; have aV := zM1 a2; have aW := Z3 a2.out 0; have aX := Z3 a2.out 1) | ((with_reducible refine zG 22 rfl ?_); refine zC (some 18) Tryz.func22 (Z0C.calls k 4613937818241073152 4616189618054758400 a6 a9 ap _ (laid_below hT zs) A3.out) ?_; rintro e w19 ⟨rfl, hb⟩; refine ⟨_, rfl, ?_⟩; replace a1 := zF a1 hb; replace a2 := zA (Zv (g := au) (o := .cells #[.int .u64 a5, .int .u8 a8] 25 (0, 0)) (by (with_reducible repeat (first | refine Zi ?_ _ | refine Z9 ?_ | refine Zh ?_ _)); refine Zb (cs := #[.int .u64 a5, .int .u8 0]) ?_ 1 _ rfl; refine Zb (cs := #[.int .u64 0, .int .u8 0]) ?_ 0 _ rfl; exact a2.out) hb); replace HB := zf hb) | ((with_reducible refine zD 5 rfl ?_); refine zn (N := 5) (cs := #[.int .u64 0, .int .u8 0]) (t := 25) rfl rfl ?_; intro av hg w20 hbox hb; have a3 := zA (hbox); have bk := zx hg; replace HB := zf hb; have ad := zl a1 hg; have ae := zg a1 hg; replace a1 := zb a1 hb; have af := zl a2 hg; have ag := zg a2 hg; replace a2 := zb a2 hb; clear hb hbox hg; have bp := ae.out; have br := ad.out; have bs := ag.out; have bt := af.out; have aY := zM0 a3; have az := zM1 a3; have aZ := Z3 a3.out 0; have b1 := Z3 a3.out 1) | ((with_reducible refine zG 11 rfl ?_); refine zC (some 22) Tryz.func11 (Z1g.calls k 4611686018427387904 aw ax aq _ (laid_below hT zs) A4.out) ?_; rintro e w24 ⟨rfl, hb⟩; refine ⟨_, rfl, ?_⟩; replace a1 := zF a1 hb; replace a2 := zF a2 hb; replace a3 := zA (Zv (g := av) (o := .cells #[.int .u64 a6, .int .u8 a9] 25 (0, 0)) (by (with_reducible repeat (first | refine Zi ?_ _ | refine Z9 ?_ | refine Zh ?_ _)); refine Zb (cs := #[.int .u64 a6, .int .u8 0]) ?_ 1 _ rfl; refine Zb (cs := #[.int .u64 0, .int .u8 0]) ?_ 0 _ rfl; exact a3.out) hb); replace HB := zf hb) | ((with_reducible refine zD 7 rfl ?_); refine zn (N := 7) (cs := #[.int .u64 0, .int .u8 0]) (t := 25) rfl rfl ?_; intro bl hg w25 hbox hb; have aa := zA (hbox); have bm := zx hg; replace HB := zf hb; have ah := zl a1 hg; have ai := zg a1 hg; replace a1 := zb a1 hb; have aj := zl a2 hg; have ak := zg a2 hg; replace a2 := zb a2 hb; have al := zl a3 hg; have am := zg a3 hg; replace a3 := zb a3 hb; clear hb hbox hg; have bu := ai.out; have bv := ah.out; have bw := ak.out; have bx := aj.out; have bA := am.out; have bB := al.out; have b2 := zM0 aa; have b3 := zM1 aa; have b4 := Z3 aa.out 0; have b5 := Z3 aa.out 1; have b6 := zM0 a1; have b7 := zM1 a1; have b8 := Z3 a1.out 0; have b9 := Z3 a1.out 1; have ba := zM0 a2; have bb := zM1 a2; have bc := Z3 a2.out 0; have bd := Z3 a2.out 1; have be := zM0 a3; have bf := zM1 a3; have bg := Z3 a3.out 0; have bh := Z3 a3.out 1))
        go_ret;exact ⟨er, zs⟩
       rw [if_neg c11] at H;have aC := eF c11;have aD := nT c11;obtain rfl := zk4 H;exact absurd hr_.out (by decide)
      rw [if_neg c10] at H
      have ay : (a6 == 4617315517961601024 && (a9 == 0)) = false := by simpa using c10
      (try (have aA : decide (a6 = 4617315517961601024 && (a9 == 0)) = false := by simpa using c10));(try (have aB : (a6 == 4617315517961601024 && (a9 == 0)) = false := by simpa using c10));(try (have bC : ¬ (a6 = 4617315517961601024 && (a9 == 0)) := by simpa using c10));clear c10;obtain rfl := zk4 H;exact absurd hr_.out (by decide)
     rw [if_neg c9] at H;have aO := eF c9;have aP := nT c9;obtain rfl := zk4 H;exact absurd hr_.out (by decide)
    rw [if_neg c8] at H
    have aL : (a5 == 7025615418697973760 && (a8 == 0)) = false := by simpa using c8
    (try (have aM : decide (a5 = 7025615418697973760 && (a8 == 0)) = false := by simpa using c8));(try (have aN : (a5 == 7025615418697973760 && (a8 == 0)) = false := by simpa using c8));(try (have bD : ¬ (a5 = 7025615418697973760 && (a8 == 0)) := by simpa using c8));clear c8;obtain rfl := zk4 H;exact absurd hr_.out (by decide)
   rw [if_neg c7] at H;have aJ := eF c7;have aK := nT c7;obtain rfl := zk4 H;exact absurd hr_.out (by decide)
  rw [if_neg c6] at H
  have aG : (a4 == 4611686018427387904 && (a7 == 0)) = false := by simpa using c6
  (try (have aH : decide (a4 = 4611686018427387904 && (a7 == 0)) = false := by simpa using c6));(try (have aI : (a4 == 4611686018427387904 && (a7 == 0)) = false := by simpa using c6));(try (have bE : ¬ (a4 = 4611686018427387904 && (a7 == 0)) := by simpa using c6));clear c6;obtain rfl := zk4 H;exact absurd hr_.out (by decide)
 rw [if_neg c5] at H;have aE := eF c5;have aF := nT c5;obtain rfl := zk4 H;exact absurd hr_.out (by decide)
def Z0a.l0 : Nat → List Int → Int → Int → List Int → Int → Int → Option (List Int)
 | 0, _, _, _, _, _, _ => none
 | k + 1, x5, x6, x7, x16, x17, x18 => if x18 < x17 then (if 0 ≤ x18 then (if x18 < (x16.length : Int) then (if 0 ≤ x6 then (if x5.length < 17592186044416 then ((some (x5 ++ [Go.bits .or .u64 (shl .u64 (rd x16 x18) x6) x7] : List Int)).bind fun a1 => (if x6 > 0 then (if 0 ≤ (IntKind.u64.wrap (64 - x6)) then (Z0a.l0 k a1 x6 (shr .u64 (rd x16 x18) (IntKind.u64.wrap (64 - x6))) x16 x17 (wrap64 (x18 + 1))) else (none)) else (Z0a.l0 k a1 x6 0 x16 x17 (wrap64 (x18 + 1))))) else (none)) else (none)) else (none)) else (none)) else (if x5.length < 17592186044416 then ((ZM.f k (x5 ++ [x7])).bind fun a2 => (some a2)) else (none))
def Z0a.f (k : Nat) (l0 : List Int) (a1 : Int) : Option (List Int) := if 0 ≤ (wrap64 (Int.tdiv a1 64)) then (if (wrap64 (Int.tdiv a1 64) : Int).toNat ≤ 35184372088832 then (Z0a.l0 k (List.replicate (wrap64 (Int.tdiv a1 64) : Int).toNat 0) (IntKind.u64.wrap (Int.tmod a1 64)) 0 l0 (l0.length : Int) 0) else (none)) else (none)
theorem Z0a.calls (k : Nat) (A0 : Option Addr) (c0 : Nat) (l0 : List Int) (a1 : Int) (r : List Int) (w : World) (hr0 : Kd.C Zu w A0 l0.length l0) (hc0 : l0.length ≤ c0) (h : Z0a.f k l0 a1 = some r) :
  Calls Tryz.prog 49 #[.slice A0 l0.length c0, .int .i64 a1] w fun e w' => ∃ v0_ : Value, e = .returned (v0_) ∧ Kd.R Zu 22 w' w.heap.size (fun _ => True) v0_ r ∧ Below w.heap.size w w' := by
 have ay := zA hr0;have az := zA hc0;clear hr0 hc0;have HB := zA (Below.refl w.heap.size w);have H := h
 unfold Z0a.f at H
 clear h;generalize ab : wrap64 (Int.tdiv a1 64) = am at H;have hji3w : (IntKind.i64.wrap (Int.tdiv a1 64)) = am := (Z1a _).trans ab;replace H := dn H;obtain ⟨c4, H⟩ := H;have aR := eq_true c4;have aT := dT c4;clear c4;replace H := dn H;obtain ⟨c5, H⟩ := H;have aU := eq_true c5;have aV := dT c5;clear c5;obtain ⟨aC, ae⟩ : ∃ y_ : List Int, y_ = (List.replicate (am : Int).toNat 0) := ⟨_, rfl⟩;(first | replace H := zRb ae H | rw [← ae] at H | skip);have an := zA ae;clear ae;have H' := zA H;clear H;go_enter Tryz.func49, Tryz.ntmps49
 go_wp2_with (first | ((with_reducible refine zD 12 rfl ?_); refine Z2t Zu _ 22 rfl (N := 12) rfl 32 _ _ rfl am rfl rfl Tryz.underlying32 (.int .u64 0) 8 info22 rfl (by decide) (by omega) 0 (ok := fun _ => True) (okp := fun _ => True) rfl (fun _ hk => hk) trivial (od) (zk2 (zka _ (od : am.toNat ≤ 35184372088832)) (by omega)) (Below.refl _ _) (zk6 _) ?_; intro v698 w6 ak hb hg_ hnew_; clear hg_ hnew_; (first | rw [← an.out] at ak | (simp only [Int.reduceToNat] at ak; rw [← an.out] at ak)); have ar := zA (Zl ak (Z2 bq)); replace HB := ze hb; clear hb ak))
 go_loopg [5, 7, 18] k (fun kq v5 v7 v18 w' => ∃ (a5 : List Int) (a4 : Int) (a2 : Int), v7 = .int .u64 a4 ∧ v18 = .int .i64 a2 ∧ Aside0 (Z0a.l0 kq a5 (IntKind.u64.wrap (Int.tmod a1 64)) a4 l0 (l0.length : Int) a2 = some r) ∧ Aside0 (kq ≤ k) ∧ Aside0 (Kd.R Zu 22 w' w.heap.size (fun _ => True) v5 a5) ∧ Aside0 (Below w.heap.size w w'))
 case atStart => exact ⟨(aC), (0), (0), zi, zi, H', zB2, ⟨ru ar.out⟩, ⟨bq⟩⟩
 case round =>
  clear H';obtain ⟨a5, a4, a2, rfl, rfl, HA, HK1, ac, HB⟩ := hrel
  cases gk with
  | zero => exact absurd HA.out (by simp [Z0a.l0])
  | succ k1 =>
   have H := HA.out;clear HA;simp only [Z0a.l0] at H
   by_cases c8 : a2 < (l0.length : Int)
   ·rw [if_pos c8] at H;have aD := dT c8;clear c8;replace H := dn H;obtain ⟨c9, H⟩ := H;have aW := dT c9;clear c9;replace H := dn H;obtain ⟨c10, H⟩ := H;have aJ := dT c10;clear c10;generalize a6 : IntKind.u64.wrap (Int.tmod a1 64) = ad at H;replace H := dn H;obtain ⟨c12, H⟩ := H;have aK := eq_true c12;have aM := dT c12;clear c12;generalize a7 : shl .u64 (rd l0 a2) (ad) = a9 at H;have hji13_ : (IntKind.u64.wrap ((rd l0 a2) * 2 ^ min (ad).toNat 64)) = a9 := a7;have hji13z : (ad) ≤ 64 → (IntKind.u64.wrap ((rd l0 a2) * 2 ^ (ad).toNat)) = a9 := Z2m a7;replace H := dn H;obtain ⟨c14, H⟩ := H;have ao := zA c14;clear c14;obtain ⟨aq, af⟩ : ∃ y_ : List Int, y_ = (a5 ++ [Go.bits .or .u64 (a9) a4]) := ⟨_, rfl⟩;(first | replace H := zRb af H | rw [← af] at H | skip);have ap := zA af;clear af
    by_cases c15 : (ad) > 0
    ·rw [if_pos c15] at H;have au := dT c15;clear c15;generalize ah : IntKind.u64.wrap (64 - (ad)) = ai at H;replace H := dn H;obtain ⟨c17, H⟩ := H;have aN := eq_true c17;have aQ := dT c17;clear c17;generalize aa : shr .u64 (rd l0 a2) (ai) = al at H;have hji18_ : ((rd l0 a2) / 2 ^ min (ai).toNat 64) = al := aa;have hji18z : (ai) ≤ 64 → ((rd l0 a2) / 2 ^ (ai).toNat) = al := Z2n aa;have H' := zA H;clear H;have p700 : 0 ≤ (a2 : Int) := od;have q700 : a2 < (l0.length : Int) := od;obtain ⟨ad700, e700, a3⟩ := Kd.Zw ay.out a2 p700 q700;cases e700;replace a3 := (HB.out.cell (World.block_lt_of_cell? w _ a3)).trans a3;replace p700 := eq_true p700;replace q700 := eq_true q700
     go_wp2_with (first | ((with_reducible refine Z1x (b := .append) (xs := #[.tmp 22, .tmp 28]) rfl ?_); at_builtin; refine Z3c Zu (w0 := w) w.heap.size rfl (.tmp 22) (.tmp 28) 32 22 (.int .u64 0) 8 rfl Tryz.underlying32 info22 rfl (by decide) (by omega) u5 a5 (Go.bits .or .u64 (a9) a4) [.int .u64 (Go.bits .or .u64 (a9) a4)] (fun _ => True) (fun _ => False) rfl rfl ?aP (fun _ hk => hk.elim) ?aF ?aO ?aB ?aS ?aL ?_; (case aP => exact rfl); (case aB => exact bq); (case aF => exact (fun _ _ => trivial)); (case aO => exact (ru ac.out)); (case aS => exact (Z2 bq)); (case aL => have := ao.out; omega); intro v702 w19 ho hb hg hat; rw [← ap.out] at ho; have n0_ := zA (hb); have n1_ := zA (ho); clear HB; clear ac; have HB := n0_; have aj := n1_; clear n0_ n1_; clear ho hb hg hat))
     (try simp only [← a6, ← ah])
     go_roundg k1
     case measure => have := HK1.out; omega
     case rel => exact ⟨(aq), (al), (wrap64 (a2 + 1)), (by first | rfl | (simp; done) | (simp only [← aa] <;> (first | rfl | simp)) | (simp [*]; done)), zi, (by first | exact H' | (simp only [ab, a6, a7, ah, aa]; exact H') | (simp only [ab, a6, a7, ah, aa] at H' ⊢; exact H')), zB1, ⟨ru aj.out⟩, ⟨bq⟩⟩
    rw [if_neg c15] at H;have au := dF c15;clear c15;have H' := zA H;clear H;have p700 : 0 ≤ (a2 : Int) := od;have q700 : a2 < (l0.length : Int) := od;obtain ⟨ad700, e700, a3⟩ := Kd.Zw ay.out a2 p700 q700;cases e700;replace a3 := (HB.out.cell (World.block_lt_of_cell? w _ a3)).trans a3;replace p700 := eq_true p700;replace q700 := eq_true q700
    go_wp2_with (first | ((with_reducible refine Z1x (b := .append) (xs := #[.tmp 22, .tmp 28]) rfl ?_); at_builtin; refine Z3c Zu (w0 := w) w.heap.size rfl (.tmp 22) (.tmp 28) 32 22 (.int .u64 0) 8 rfl Tryz.underlying32 info22 rfl (by decide) (by omega) u5 a5 (Go.bits .or .u64 (a9) a4) [.int .u64 (Go.bits .or .u64 (a9) a4)] (fun _ => True) (fun _ => False) rfl rfl ?aP (fun _ hk => hk.elim) ?aF ?aO ?aB ?aS ?aL ?_; (case aP => exact rfl); (case aB => exact bq); (case aF => exact (fun _ _ => trivial)); (case aO => exact (ru ac.out)); (case aS => exact (Z2 bq)); (case aL => have := ao.out; omega); intro v702 w20 ho hb hg hat; rw [← ap.out] at ho; have n0_ := zA (hb); have n1_ := zA (ho); clear HB; clear ac; have HB := n0_; have aj := n1_; clear n0_ n1_; clear ho hb hg hat))
    (try simp only [← a6])
    go_roundg k1
    case measure => have := HK1.out; omega
    case rel => exact ⟨(aq), (0), (wrap64 (a2 + 1)), zi, zi, (by first | exact H' | (simp only [ab, a6, a7]; exact H') | (simp only [ab, a6, a7] at H' ⊢; exact H')), zB1, ⟨ru aj.out⟩, ⟨bq⟩⟩
   rw [if_neg c8] at H;have aD := dF c8;clear c8;replace H := dn H;obtain ⟨c21, H⟩ := H;have av := zA c21;clear c21;obtain ⟨aE, ag⟩ : ∃ y_ : List Int, y_ = (a5 ++ [a4]) := ⟨_, rfl⟩;(first | replace H := zRb ag H | rw [← ag] at H | skip);have aw := zA ag;clear ag;obtain ⟨aG, aI, H⟩ := zh H;obtain rfl := zk4 H
   go_wp2_with (first | ((with_reducible refine Z1x (b := .append) (xs := #[.tmp 37, .tmp 39]) rfl ?_); at_builtin; refine Z3c Zu (w0 := w) w.heap.size rfl (.tmp 37) (.tmp 39) 32 22 (.int .u64 0) 8 rfl Tryz.underlying32 info22 rfl (by decide) (by omega) u5 a5 a4 [.int .u64 a4] (fun _ => True) (fun _ => False) rfl rfl ?aP (fun _ hk => hk.elim) ?aF ?aO ?aB ?aS ?aL ?_; (case aP => exact rfl); (case aB => exact bq); (case aF => exact (fun _ _ => trivial)); (case aO => exact (ru ac.out)); (case aS => exact (Z2 bq)); (case aL => have := av.out; omega); intro v705 w23 ho hb hg hat; rw [← aw.out] at ho; have n0_ := zA (hb); have n1_ := zA (ho); clear HB; clear ac; have HB := n0_; have a8 := n1_; clear n0_ n1_; clear ho hb hg hat; obtain ⟨aX, aY, aH⟩ := Zx a8.out; subst aH) | ((with_reducible refine zG 57 rfl ?_); refine zC (some 41) Tryz.func57 (ZM.calls k1 _ _ aE aG _ (zk (Z8 a8.out).2.2) ((Z8 a8.out).2.1) aI.out) ?_; rintro e w25 ⟨v708, rfl, aA, hb⟩; refine ⟨_, rfl, ?_⟩; have ax := zA (Zl (Zz aA (ZO (ru a8.out))) (Z2 bq)); replace a8 := zA (ZC (ru a8.out) (Zc aA) hb); replace HB := ze hb))
   go_ret;exact ⟨_, by first | rfl | (simp [errW_none, errW_some] <;> rfl) | (simp only [← ab]; first | rfl | (simp [errW_none, errW_some] <;> rfl)) | (simp [*, errW_none, errW_some] <;> rfl), ru (ZB ax.out (fun _ hk => trivial)), bq⟩
def Z0s.l0 : Nat → List Int → List Int → List Int → Int → Int → Option (List Int)
 | 0, _, _, _, _, _ => none
 | k + 1, x0, x1, x5, x6, x7 => if x7 < (mx (x0.length : Int) (x1.length : Int)) then ((Z0h.f x0 x7).bind fun a1 => ((Z0h.f x1 x7).bind fun a2 => (if (IntKind.u64.wrap ((IntKind.u64.wrap (a1 + a2)) + x6)) < a1 then (if x5.length < 17592186044416 then (Z0s.l0 k x0 x1 (x5 ++ [IntKind.u64.wrap ((IntKind.u64.wrap (a1 + a2)) + x6)]) 1 (wrap64 (x7 + 1))) else (none)) else (if (IntKind.u64.wrap ((IntKind.u64.wrap (a1 + a2)) + x6)) = a1 then (if x6 = 1 then (if a2 > 0 then (if x5.length < 17592186044416 then (Z0s.l0 k x0 x1 (x5 ++ [IntKind.u64.wrap ((IntKind.u64.wrap (a1 + a2)) + x6)]) 1 (wrap64 (x7 + 1))) else (none)) else (if x5.length < 17592186044416 then (Z0s.l0 k x0 x1 (x5 ++ [IntKind.u64.wrap ((IntKind.u64.wrap (a1 + a2)) + x6)]) 0 (wrap64 (x7 + 1))) else (none))) else (if x5.length < 17592186044416 then (Z0s.l0 k x0 x1 (x5 ++ [IntKind.u64.wrap ((IntKind.u64.wrap (a1 + a2)) + x6)]) 0 (wrap64 (x7 + 1))) else (none))) else (if x5.length < 17592186044416 then (Z0s.l0 k x0 x1 (x5 ++ [IntKind.u64.wrap ((IntKind.u64.wrap (a1 + a2)) + x6)]) 0 (wrap64 (x7 + 1))) else (none)))))) else (if x5.length < 17592186044416 then ((ZM.f k (x5 ++ [x6])).bind fun a3 => (some a3)) else (none))
def Z0s.f (k : Nat) (l0 : List Int) (l1 : List Int) : Option (List Int) := Z0s.l0 k l0 l1 ([] : List Int) 0 0
theorem Z0s.calls (k : Nat) (A0 : Option Addr) (c0 : Nat) (l0 : List Int) (A1 : Option Addr) (c1 : Nat) (l1 : List Int) (r : List Int) (w : World) (hr0 : Kd.C Zu w A0 l0.length l0) (hc0 : l0.length ≤ c0) (hr1 : Kd.C Zu w A1 l1.length l1) (hc1 : l1.length ≤ c1) (h : Z0s.f k l0 l1 = some r) :
  Calls Tryz.prog 72 #[.slice A0 l0.length c0, .slice A1 l1.length c1] w fun e w' => ∃ v0_ : Value, e = .returned (v0_) ∧ Kd.R Zu 22 w' w.heap.size (fun _ => True) v0_ r ∧ Below w.heap.size w w' := by
 have aw := zA hr0;have ax := zA hc0;clear hr0 hc0;have ay := zA hr1;have aA := zA hc1;clear hr1 hc1;have HB := zA (Below.refl w.heap.size w);have H := h
 unfold Z0s.f at H
 clear h;have H' := zA H;clear H;go_enter Tryz.func72, Tryz.ntmps72
 go_wp2
 go_loopg [5, 6, 7] k (fun kq v5 v6 v7 w' => ∃ (a6 : List Int) (a2 : Int) (a7 : Int), v6 = .int .u64 a2 ∧ v7 = .int .i64 a7 ∧ Aside0 (Z0s.l0 kq l0 l1 a6 a2 a7 = some r) ∧ Aside0 (kq ≤ k) ∧ Aside0 (Kd.R Zu 22 w' w.heap.size (fun _ => True) v5 a6) ∧ Aside0 (Below w.heap.size w w'))
 case atStart => exact ⟨(([] : List Int)), (0), (0), zi, zi, H', zB2, ⟨by first | exact Z1Q _ _ _ _ _ | exact Kd.Z2k _ _ _ _ _ | exact Z11 _ _ _ _ _ | exact Kd.Z2h _ _ _ _ _ | exact Kd.Z2j _ _ _ _ _⟩, ⟨bq⟩⟩
 case round =>
  clear H';obtain ⟨a6, a2, a7, rfl, rfl, HA, HK1, ae, HB⟩ := hrel
  cases gk with
  | zero => exact absurd HA.out (by simp [Z0s.l0])
  | succ k1 =>
   have H := HA.out;clear HA;simp only [Z0s.l0] at H;generalize a3 : mx (l0.length : Int) (l1.length : Int) = af at H;have hji3_ : (if (l0.length : Int) < (l1.length : Int) then (l1.length : Int) else (l0.length : Int)) = af := a3
   have hji3n : (if l0.length < l1.length then (l1.length : Int) else (l0.length : Int)) = af := by rw [← hji3_]; (repeat' split) <;> omega
   by_cases c4 : a7 < (af)
   rw [if_pos c4] at H;have ap := dT c4;clear c4;obtain ⟨a4, A5, H⟩ := zh H;obtain ⟨a5, A6, H⟩ := zh H
   by_cases c7 : (IntKind.u64.wrap ((IntKind.u64.wrap (a4 + a5)) + a2)) < a4
   rw [if_pos c7] at H;have aq : decide ((IntKind.u64.wrap ((IntKind.u64.wrap (a4 + a5)) + a2)) < a4) = true := dT c7;clear c7;replace H := dn H;obtain ⟨c8, H⟩ := H;have ad := zA c8;clear c8;obtain ⟨a8, a1⟩ : ∃ y_ : List Int, y_ = (a6 ++ [IntKind.u64.wrap ((IntKind.u64.wrap (a4 + a5)) + a2)]) := ⟨_, rfl⟩;(first | replace H := zRb a1 H | rw [← a1] at H | skip);have aa := zA a1;clear a1;have H' := zA H;clear H;rotate_left;rw [if_neg c7] at H;have aq : decide ((IntKind.u64.wrap ((IntKind.u64.wrap (a4 + a5)) + a2)) < a4) = false := dF c7;clear c7
   by_cases c10 : (IntKind.u64.wrap ((IntKind.u64.wrap (a4 + a5)) + a2)) = a4
   rw [if_pos c10] at H;have ag := eT c10;have ah := nF c10;clear c10
   by_cases c11 : a2 = 1
   rw [if_pos c11] at H;have ai := eT c11;have aj := nF c11;clear c11
   by_cases c12 : a5 > 0
   rw [if_pos c12] at H;have ak := dT c12;clear c12;replace H := dn H;obtain ⟨c8, H⟩ := H;have ad := zA c8;clear c8;obtain ⟨a8, a1⟩ : ∃ y_ : List Int, y_ = (a6 ++ [IntKind.u64.wrap ((IntKind.u64.wrap (a4 + a5)) + a2)]) := ⟨_, rfl⟩;(first | replace H := zRb a1 H | rw [← a1] at H | skip);have aa := zA a1;clear a1;have H' := zA H;clear H;rotate_left;rw [if_neg c12] at H;have ak := dF c12;clear c12;replace H := dn H;obtain ⟨c8, H⟩ := H;have ad := zA c8;clear c8;obtain ⟨a8, a1⟩ : ∃ y_ : List Int, y_ = (a6 ++ [IntKind.u64.wrap ((IntKind.u64.wrap (a4 + a5)) + a2)]) := ⟨_, rfl⟩;(first | replace H := zRb a1 H | rw [← a1] at H | skip);have aa := zA a1;clear a1;have H' := zA H;clear H;rotate_left;rw [if_neg c11] at H;have ai := eF c11;have aj := nT c11;replace H := dn H;obtain ⟨c8, H⟩ := H;have ad := zA c8;clear c8;obtain ⟨a8, a1⟩ : ∃ y_ : List Int, y_ = (a6 ++ [IntKind.u64.wrap ((IntKind.u64.wrap (a4 + a5)) + a2)]) := ⟨_, rfl⟩;(first | replace H := zRb a1 H | rw [← a1] at H | skip);have aa := zA a1;clear a1;have H' := zA H;clear H;rotate_left;rw [if_neg c10] at H;have ag := eF c10;have ah := nT c10;replace H := dn H;obtain ⟨c8, H⟩ := H;have ad := zA c8;clear c8;obtain ⟨a8, a1⟩ : ∃ y_ : List Int, y_ = (a6 ++ [IntKind.u64.wrap ((IntKind.u64.wrap (a4 + a5)) + a2)]) := ⟨_, rfl⟩;(first | replace H := zRb a1 H | rw [← a1] at H | skip);have aa := zA a1;clear a1;have H' := zA H;clear H;rotate_left;rw [if_neg c4] at H;have ap := dF c4;clear c4;replace H := dn H;obtain ⟨c21, H⟩ := H;have al := zA c21;clear c21;obtain ⟨ar, ac⟩ : ∃ y_ : List Int, y_ = (a6 ++ [a2]) := ⟨_, rfl⟩;(first | replace H := zRb ac H | rw [← ac] at H | skip);have am := zA ac;clear ac;obtain ⟨au, aC, H⟩ := zh H;obtain rfl := zk4 H;rotate_left
   all_goals
    go_wp2_with (first | ((with_reducible refine zG 104 rfl ?_); refine zC (some 22) Tryz.func104 (Z0h.calls _ _ l0 a7 a4 _ (zk (ZF aw.out HB.out)) (ax.out) A5.out) ?_; rintro e w' ⟨rfl, ⟨nd, rfl⟩⟩; refine ⟨_, rfl, ?_⟩) | ((with_reducible refine zG 104 rfl ?_); refine zC (some 25) Tryz.func104 (Z0h.calls _ _ l1 a7 a5 _ (zk (ZF ay.out bq)) (aA.out) A6.out) ?_; rintro e w' ⟨rfl, ⟨nd, rfl⟩⟩; refine ⟨_, rfl, ?_⟩) | ((with_reducible refine Z1x (b := .append) (xs := #[.tmp 47, .tmp 49]) rfl ?_); at_builtin; refine Z3c Zu (w0 := w) w.heap.size rfl (.tmp 47) (.tmp 49) 32 22 (.int .u64 0) 8 rfl Tryz.underlying32 info22 rfl (by decide) (by omega) u5 a6 (IntKind.u64.wrap ((IntKind.u64.wrap (a4 + a5)) + a2)) [.int .u64 (IntKind.u64.wrap ((IntKind.u64.wrap (a4 + a5)) + a2))] (fun _ => True) (fun _ => False) rfl rfl ?aP (fun _ hk => hk.elim) ?aF ?aO ?aB ?aS ?aL ?_; (case aP => exact rfl); (case aB => exact bq); (case aF => exact (fun _ _ => trivial)); (case aO => exact (ru ae.out)); (case aS => exact (Z2 bq)); (case aL => have := ad.out; omega); intro v719 w9 ho hb hg hat; rw [← aa.out] at ho; have n0_ := zA (hb); have n1_ := zA (ho); clear HB; clear ae; have HB := n0_; have ab := n1_; clear n0_ n1_; clear ho hb hg hat) | ((with_reducible refine Z1x (b := .append) (xs := #[.tmp 51, .tmp 53]) rfl ?_); at_builtin; refine Z3c Zu (w0 := w) w.heap.size rfl (.tmp 51) (.tmp 53) 32 22 (.int .u64 0) 8 rfl Tryz.underlying32 info22 rfl (by decide) (by omega) u5 a6 a2 [.int .u64 a2] (fun _ => True) (fun _ => False) rfl rfl ?aP (fun _ hk => hk.elim) ?aF ?aO ?aB ?aS ?aL ?_; (case aP => exact rfl); (case aB => exact bq); (case aF => exact (fun _ _ => trivial)); (case aO => exact (ru ae.out)); (case aS => exact (Z2 bq)); (case aL => have := al.out; omega); intro v711 w23 ho hb hg hat; rw [← am.out] at ho; have n0_ := zA (hb); have n1_ := zA (ho); clear HB; clear ae; have HB := n0_; have a9 := n1_; clear n0_ n1_; clear ho hb hg hat; obtain ⟨aD, aE, av⟩ := Zx a9.out; subst av) | ((with_reducible refine zG 57 rfl ?_); refine zC (some 55) Tryz.func57 (ZM.calls k1 _ _ ar au _ (zk (Z8 a9.out).2.2) ((Z8 a9.out).2.1) aC.out) ?_; rintro e w25 ⟨v714, rfl, ao, hb⟩; refine ⟨_, rfl, ?_⟩; have an := zA (Zl (Zz ao (ZO (ru a9.out))) (Z2 bq)); replace a9 := zA (ZC (ru a9.out) (Zc ao) hb); replace HB := ze hb))
   ·(try simp only [← a3])
    go_roundg k1
    case measure => have := HK1.out; omega
    case rel => exact ⟨(a8), (1), (wrap64 (a7 + 1)), zi, zi, (by first | exact H' | (simp only [a3]; exact H') | (simp only [a3] at H' ⊢; exact H')), zB1, ⟨ru ab.out⟩, ⟨bq⟩⟩
   ·(try simp only [← a3])
    go_roundg k1
    case measure => have := HK1.out; omega
    case rel => exact ⟨(a8), (1), (wrap64 (a7 + 1)), zi, zi, (by first | exact H' | (simp only [a3]; exact H') | (simp only [a3] at H' ⊢; exact H')), zB1, ⟨ru ab.out⟩, ⟨bq⟩⟩
   ·(try simp only [← a3])
    go_roundg k1
    case measure => have := HK1.out; omega
    case rel => exact ⟨(a8), (0), (wrap64 (a7 + 1)), zi, zi, (by first | exact H' | (simp only [a3]; exact H') | (simp only [a3] at H' ⊢; exact H')), zB1, ⟨ru ab.out⟩, ⟨bq⟩⟩
   ·(try simp only [← a3])
    go_roundg k1
    case measure => have := HK1.out; omega
    case rel => exact ⟨(a8), (0), (wrap64 (a7 + 1)), zi, zi, (by first | exact H' | (simp only [a3]; exact H') | (simp only [a3] at H' ⊢; exact H')), zB1, ⟨ru ab.out⟩, ⟨bq⟩⟩
   ·(try simp only [← a3])
    go_roundg k1
    case measure => have := HK1.out; omega
    case rel => exact ⟨(a8), (0), (wrap64 (a7 + 1)), zi, zi, (by first | exact H' | (simp only [a3]; exact H') | (simp only [a3] at H' ⊢; exact H')), zB1, ⟨ru ab.out⟩, ⟨bq⟩⟩
   go_ret;exact ⟨_, by first | rfl | (simp [errW_none, errW_some] <;> rfl) | (simp only [← a3]; first | rfl | (simp [errW_none, errW_some] <;> rfl)) | (simp [*, errW_none, errW_some] <;> rfl), ru (ZB an.out (fun _ hk => trivial)), bq⟩
def Z0J.l0 : Nat → List Int → List Int → Int → Option (Int)
 | 0, _, _, _ => none
 | k + 1, x0, x1, x5 => if x5 ≥ 0 then ((Z0h.f x0 x5).bind fun a1 => ((Z0h.f x1 x5).bind fun a2 => (if a1 < a2 then (some (-1)) else (if a1 > a2 then (some 1) else (Z0J.l0 k x0 x1 (wrap64 (x5 - 1))))))) else (some 0)
def Z0J.f (k : Nat) (l0 : List Int) (l1 : List Int) : Option (Int) := Z0J.l0 k l0 l1 (wrap64 ((mx (l0.length : Int) (l1.length : Int)) - 1))
theorem Z0J.calls (k : Nat) (A0 : Option Addr) (c0 : Nat) (l0 : List Int) (A1 : Option Addr) (c1 : Nat) (l1 : List Int) (r : Int) (w : World) (hr0 : Kd.C Zu w A0 l0.length l0) (hc0 : l0.length ≤ c0) (hr1 : Kd.C Zu w A1 l1.length l1) (hc1 : l1.length ≤ c1) (h : Z0J.f k l0 l1 = some r) :
  Calls Tryz.prog 73 #[.slice A0 l0.length c0, .slice A1 l1.length c1] w fun e w' => e = .returned (.int .i64 r) ∧ Below w.heap.size w w' := by
 have a9 := zA hr0;have aa := zA hc0;clear hr0 hc0;have ab := zA hr1;have ac := zA hc1;clear hr1 hc1;have HB := zA (Below.refl w.heap.size w);have H := h
 unfold Z0J.f at H
 clear h;generalize a1 : mx (l0.length : Int) (l1.length : Int) = a3 at H;(try (have hji3l : 0 ≤ a3 := by (rw [← a1]; unfold mx; (repeat' split) <;> omega)));(try (have hji3m : 0 ≤ a3 := by omega));have hji3_ : (if (l0.length : Int) < (l1.length : Int) then (l1.length : Int) else (l0.length : Int)) = a3 := a1
 have hji3n : (if l0.length < l1.length then (l1.length : Int) else (l0.length : Int)) = a3 := by rw [← hji3_]; (repeat' split) <;> omega
 have H' := zA H;clear H;go_enter Tryz.func73, Tryz.ntmps73
 go_wp2
 go_loopg [5] k (fun kq v5 w' => ∃ (a2 : Int), v5 = .int .i64 a2 ∧ Aside0 (Z0J.l0 kq l0 l1 a2 = some r) ∧ Aside0 (kq ≤ k) ∧ Aside0 (Below w.heap.size w w'))
 case atStart => exact ⟨(wrap64 ((a3) - 1)), (by first | rfl | (simp; done) | (simp only [← a1] <;> (first | rfl | simp)) | (simp [*]; done)), H', zB2, ⟨bq⟩⟩
 case round =>
  clear H';obtain ⟨a2, rfl, HA, HK1, HB⟩ := hrel
  cases gk with
  | zero => exact absurd HA.out (by simp [Z0J.l0])
  | succ k1 =>
   have H := HA.out;clear HA;simp only [Z0J.l0] at H
   by_cases c4 : a2 ≥ 0
   ·rw [if_pos c4] at H;have a6 := dT c4;clear c4;obtain ⟨a4, A5, H⟩ := zh H;obtain ⟨a5, A6, H⟩ := zh H
    by_cases c7 : a4 < a5
    rw [if_pos c7] at H;have a7 := dT c7;clear c7;obtain rfl := zk4 H;rotate_left;rw [if_neg c7] at H;have a7 := dF c7;clear c7
    by_cases c8 : a4 > a5
    rw [if_pos c8] at H;have a8 := dT c8;clear c8;obtain rfl := zk4 H;rotate_left;rw [if_neg c8] at H;have a8 := dF c8;clear c8;have H' := zA H;clear H;rotate_left
    all_goals
     go_wp2_with (first | ((with_reducible refine zG 104 rfl ?_); refine zC (some 20) Tryz.func104 (Z0h.calls _ _ l0 a2 a4 _ (zk (ZF a9.out HB.out)) (aa.out) A5.out) ?_; rintro e w' ⟨rfl, ⟨nd, rfl⟩⟩; refine ⟨_, rfl, ?_⟩) | ((with_reducible refine zG 104 rfl ?_); refine zC (some 23) Tryz.func104 (Z0h.calls _ _ l1 a2 a5 _ (zk (ZF ab.out bq)) (ac.out) A6.out) ?_; rintro e w' ⟨rfl, ⟨nd, rfl⟩⟩; refine ⟨_, rfl, ?_⟩))
    ·go_ret;exact ⟨by first | rfl | (simp [errW_none, errW_some] <;> rfl) | (simp only [← a1]; first | rfl | (simp [errW_none, errW_some] <;> rfl)) | (simp [*, errW_none, errW_some] <;> rfl), bq⟩
    ·go_ret;exact ⟨by first | rfl | (simp [errW_none, errW_some] <;> rfl) | (simp only [← a1]; first | rfl | (simp [errW_none, errW_some] <;> rfl)) | (simp [*, errW_none, errW_some] <;> rfl), bq⟩
    go_roundg k1
    case measure => have := HK1.out; omega
    case rel => exact ⟨(wrap64 (a2 - 1)), zi, (by first | exact H' | (simp only [a1]; exact H') | (simp only [a1] at H' ⊢; exact H')), zB1, ⟨bq⟩⟩
   rw [if_neg c4] at H;have a6 := dF c4;clear c4;obtain rfl := zk4 H
   go_wp2
   go_ret;exact ⟨by first | rfl | (simp [errW_none, errW_some] <;> rfl) | (simp only [← a1]; first | rfl | (simp [errW_none, errW_some] <;> rfl)) | (simp [*, errW_none, errW_some] <;> rfl), bq⟩
def Z0l.l0 : Nat → List Int → List Int → List Int → Int → Int → Option (List Int)
 | 0, _, _, _, _, _ => none
 | k + 1, x0, x1, x5, x6, x7 => if x7 < (mx (x0.length : Int) (x1.length : Int)) then ((Z0h.f x0 x7).bind fun a1 => ((Z0h.f x1 x7).bind fun a2 => (if a1 < a2 then (if x5.length < 17592186044416 then (Z0l.l0 k x0 x1 (x5 ++ [IntKind.u64.wrap ((IntKind.u64.wrap (a1 - a2)) - x6)]) 1 (wrap64 (x7 + 1))) else (none)) else (if a1 = a2 then (if x6 = 1 then (if x5.length < 17592186044416 then (Z0l.l0 k x0 x1 (x5 ++ [IntKind.u64.wrap ((IntKind.u64.wrap (a1 - a2)) - x6)]) 1 (wrap64 (x7 + 1))) else (none)) else (if x5.length < 17592186044416 then (Z0l.l0 k x0 x1 (x5 ++ [IntKind.u64.wrap ((IntKind.u64.wrap (a1 - a2)) - x6)]) 0 (wrap64 (x7 + 1))) else (none))) else (if x5.length < 17592186044416 then (Z0l.l0 k x0 x1 (x5 ++ [IntKind.u64.wrap ((IntKind.u64.wrap (a1 - a2)) - x6)]) 0 (wrap64 (x7 + 1))) else (none)))))) else ((ZM.f k x5).bind fun a3 => (some a3))
def Z0l.f (k : Nat) (l0 : List Int) (l1 : List Int) : Option (List Int) := Z0l.l0 k l0 l1 ([] : List Int) 0 0
theorem Z0l.calls (k : Nat) (A0 : Option Addr) (c0 : Nat) (l0 : List Int) (A1 : Option Addr) (c1 : Nat) (l1 : List Int) (r : List Int) (w : World) (hr0 : Kd.C Zu w A0 l0.length l0) (hc0 : l0.length ≤ c0) (hr1 : Kd.C Zu w A1 l1.length l1) (hc1 : l1.length ≤ c1) (h : Z0l.f k l0 l1 = some r) :
  Calls Tryz.prog 74 #[.slice A0 l0.length c0, .slice A1 l1.length c1] w fun e w' => ∃ v0_ : Value, e = .returned (v0_) ∧ Kd.R Zu 22 w' w.heap.size (fun _ => True) v0_ r ∧ Below w.heap.size w w' := by
 have ao := zA hr0;have ap := zA hc0;clear hr0 hc0;have aq := zA hr1;have ar := zA hc1;clear hr1 hc1;have HB := zA (Below.refl w.heap.size w);have H := h
 unfold Z0l.f at H
 clear h;have H' := zA H;clear H;go_enter Tryz.func74, Tryz.ntmps74
 go_wp2
 go_loopg [5, 6, 7] k (fun kq v5 v6 v7 w' => ∃ (a5 : List Int) (a3 : Int) (a4 : Int), v6 = .int .u64 a3 ∧ v7 = .int .i64 a4 ∧ Aside0 (Z0l.l0 kq l0 l1 a5 a3 a4 = some r) ∧ Aside0 (kq ≤ k) ∧ Aside0 (Kd.R Zu 22 w' w.heap.size (fun _ => True) v5 a5) ∧ Aside0 (Below w.heap.size w w'))
 case atStart => exact ⟨(([] : List Int)), (0), (0), zi, zi, H', zB2, ⟨by first | exact Z1Q _ _ _ _ _ | exact Kd.Z2k _ _ _ _ _ | exact Z11 _ _ _ _ _ | exact Kd.Z2h _ _ _ _ _ | exact Kd.Z2j _ _ _ _ _⟩, ⟨bq⟩⟩
 case round =>
  clear H';obtain ⟨a5, a3, a4, rfl, rfl, HA, HK1, a8, HB⟩ := hrel
  cases gk with
  | zero => exact absurd HA.out (by simp [Z0l.l0])
  | succ k1 =>
   have H := HA.out;clear HA;simp only [Z0l.l0] at H;generalize a2 : mx (l0.length : Int) (l1.length : Int) = ad at H;(try (have hji3l : 0 ≤ ad := by (rw [← a2]; unfold mx; (repeat' split) <;> omega)));(try (have hji3m : 0 ≤ ad := by omega));have hji3_ : (if (l0.length : Int) < (l1.length : Int) then (l1.length : Int) else (l0.length : Int)) = ad := a2
   have hji3n : (if l0.length < l1.length then (l1.length : Int) else (l0.length : Int)) = ad := by rw [← hji3_]; (repeat' split) <;> omega
   by_cases c4 : a4 < (ad)
   rw [if_pos c4] at H;have ak := dT c4;clear c4;obtain ⟨a6, A5, H⟩ := zh H;obtain ⟨a7, A6, H⟩ := zh H
   by_cases c7 : a6 < a7
   rw [if_pos c7] at H;have al := dT c7;clear c7;replace H := dn H;obtain ⟨c8, H⟩ := H;have ac := zA c8;clear c8;obtain ⟨a9, a1⟩ : ∃ y_ : List Int, y_ = (a5 ++ [IntKind.u64.wrap ((IntKind.u64.wrap (a6 - a7)) - a3)]) := ⟨_, rfl⟩;(first | replace H := zRb a1 H | rw [← a1] at H | skip);have aa := zA a1;clear a1;have H' := zA H;clear H;rotate_left;rw [if_neg c7] at H;have al := dF c7;clear c7
   by_cases c10 : a6 = a7
   rw [if_pos c10] at H;have ae := eT c10;have af := nF c10;clear c10
   by_cases c11 : a3 = 1
   rw [if_pos c11] at H;have ag := eT c11;have ah := nF c11;clear c11;replace H := dn H;obtain ⟨c8, H⟩ := H;have ac := zA c8;clear c8;obtain ⟨a9, a1⟩ : ∃ y_ : List Int, y_ = (a5 ++ [IntKind.u64.wrap ((IntKind.u64.wrap (a6 - a7)) - a3)]) := ⟨_, rfl⟩;(first | replace H := zRb a1 H | rw [← a1] at H | skip);have aa := zA a1;clear a1;have H' := zA H;clear H;rotate_left;rw [if_neg c11] at H;have ag := eF c11;have ah := nT c11;replace H := dn H;obtain ⟨c8, H⟩ := H;have ac := zA c8;clear c8;obtain ⟨a9, a1⟩ : ∃ y_ : List Int, y_ = (a5 ++ [IntKind.u64.wrap ((IntKind.u64.wrap (a6 - a7)) - a3)]) := ⟨_, rfl⟩;(first | replace H := zRb a1 H | rw [← a1] at H | skip);have aa := zA a1;clear a1;have H' := zA H;clear H;rotate_left;rw [if_neg c10] at H;have ae := eF c10;have af := nT c10;replace H := dn H;obtain ⟨c8, H⟩ := H;have ac := zA c8;clear c8;obtain ⟨a9, a1⟩ : ∃ y_ : List Int, y_ = (a5 ++ [IntKind.u64.wrap ((IntKind.u64.wrap (a6 - a7)) - a3)]) := ⟨_, rfl⟩;(first | replace H := zRb a1 H | rw [← a1] at H | skip);have aa := zA a1;clear a1;have H' := zA H;clear H;rotate_left;rw [if_neg c4] at H;have ak := dF c4;clear c4;obtain ⟨am, au, H⟩ := zh H;obtain rfl := zk4 H;obtain ⟨av, aw, an⟩ := Zx a8.out;subst an;rotate_left
   all_goals
    go_wp2_with (first | ((with_reducible refine zG 104 rfl ?_); refine zC (some 22) Tryz.func104 (Z0h.calls _ _ l0 a4 a6 _ (zk (ZF ao.out HB.out)) (ap.out) A5.out) ?_; rintro e w' ⟨rfl, ⟨nd, rfl⟩⟩; refine ⟨_, rfl, ?_⟩) | ((with_reducible refine zG 104 rfl ?_); refine zC (some 25) Tryz.func104 (Z0h.calls _ _ l1 a4 a7 _ (zk (ZF aq.out bq)) (ar.out) A6.out) ?_; rintro e w' ⟨rfl, ⟨nd, rfl⟩⟩; refine ⟨_, rfl, ?_⟩) | ((with_reducible refine Z1x (b := .append) (xs := #[.tmp 43, .tmp 45]) rfl ?_); at_builtin; refine Z3c Zu (w0 := w) w.heap.size rfl (.tmp 43) (.tmp 45) 32 22 (.int .u64 0) 8 rfl Tryz.underlying32 info22 rfl (by decide) (by omega) u5 a5 (IntKind.u64.wrap ((IntKind.u64.wrap (a6 - a7)) - a3)) [.int .u64 (IntKind.u64.wrap ((IntKind.u64.wrap (a6 - a7)) - a3))] (fun _ => True) (fun _ => False) rfl rfl ?aP (fun _ hk => hk.elim) ?aF ?aO ?aB ?aS ?aL ?_; (case aP => exact rfl); (case aB => exact bq); (case aF => exact (fun _ _ => trivial)); (case aO => exact (ru a8.out)); (case aS => exact (Z2 bq)); (case aL => have := ac.out; omega); intro v741 w9 ho hb hg hat; rw [← aa.out] at ho; have n0_ := zA (hb); have n1_ := zA (ho); clear HB; clear a8; have HB := n0_; have ab := n1_; clear n0_ n1_; clear ho hb hg hat) | ((with_reducible refine zG 57 rfl ?_); refine zC (some 48) Tryz.func57 (ZM.calls k1 _ _ a5 am _ (zk (Z8 a8.out).2.2) ((Z8 a8.out).2.1) au.out) ?_; rintro e w20 ⟨v736, rfl, aj, hb⟩; refine ⟨_, rfl, ?_⟩; have ai := zA (Zl (Zz aj (ZO (ru a8.out))) (Z2 bq)); replace a8 := zA (ZC (ru a8.out) (Zc aj) hb); replace HB := ze hb))
   ·(try simp only [← a2])
    go_roundg k1
    case measure => have := HK1.out; omega
    case rel => exact ⟨(a9), (1), (wrap64 (a4 + 1)), zi, zi, (by first | exact H' | (simp only [a2]; exact H') | (simp only [a2] at H' ⊢; exact H')), zB1, ⟨ru ab.out⟩, ⟨bq⟩⟩
   ·(try simp only [← a2])
    go_roundg k1
    case measure => have := HK1.out; omega
    case rel => exact ⟨(a9), (1), (wrap64 (a4 + 1)), zi, zi, (by first | exact H' | (simp only [a2]; exact H') | (simp only [a2] at H' ⊢; exact H')), zB1, ⟨ru ab.out⟩, ⟨bq⟩⟩
   ·(try simp only [← a2])
    go_roundg k1
    case measure => have := HK1.out; omega
    case rel => exact ⟨(a9), (0), (wrap64 (a4 + 1)), zi, zi, (by first | exact H' | (simp only [a2]; exact H') | (simp only [a2] at H' ⊢; exact H')), zB1, ⟨ru ab.out⟩, ⟨bq⟩⟩
   ·(try simp only [← a2])
    go_roundg k1
    case measure => have := HK1.out; omega
    case rel => exact ⟨(a9), (0), (wrap64 (a4 + 1)), zi, zi, (by first | exact H' | (simp only [a2]; exact H') | (simp only [a2] at H' ⊢; exact H')), zB1, ⟨ru ab.out⟩, ⟨bq⟩⟩
   go_ret;exact ⟨_, by first | rfl | (simp [errW_none, errW_some] <;> rfl) | (simp only [← a2]; first | rfl | (simp [errW_none, errW_some] <;> rfl)) | (simp [*, errW_none, errW_some] <;> rfl), ru (ZB ai.out (fun _ hk => trivial)), bq⟩
def Z2a.f (k : Nat) (a2 : Bool) (a3 : List Int) (a4 : Int) : Option (Bool × List Int × Int) := (Z0y.f k a2 a3 a4).bind fun a1 => (some (a1.1, a1.2.1, a1.2.2))
theorem Z2a.calls (k : Nat) (a6 : Bool) (aa : Option Addr) (ab : Nat) (a3 : List Int) (a7 : Int) (r1 : Bool) (r2 : List Int) (r3 : Int) (w : World) (ac : Kd.C Zu w aa a3.length a3) (ad : a3.length ≤ ab) (h : Z2a.f k a6 a3 a7 = some (r1, r2, r3)) :
  Calls Tryz.prog 59 #[.agg #[.bool a6, .slice aa a3.length ab, .int .i64 a7]] w fun e w' => ∃ v1_ : Value, e = .returned (.agg #[.bool r1, v1_, .int .i64 r3]) ∧ Kd.R Zu 22 w' w.heap.size (fun _ => True) v1_ r2 ∧ Below w.heap.size w w' := by
 have hu34 := Tryz.underlying34;have ah := zA ac;have ai := zA ad;clear ac ad;have HB := zA (Below.refl w.heap.size w);have H := h
 unfold Z2a.f at H
 clear h;obtain ⟨⟨ae, af, ag⟩, A2, H⟩ := zh H;(try dsimp only at H);simp only [zk3, zk5] at H;obtain ⟨rfl, rfl, rfl⟩ := H;go_enter Tryz.func59, Tryz.ntmps59
 go_wp2_with (first | ((with_reducible refine zD 1 rfl ?_); refine zn (N := 1) (cs := #[.bool a6, .slice aa a3.length ab, .int .i64 a7]) (t := 34) rfl rfl ?_; intro aj hg w3 hbox hb; have a1 := zA (hbox); have ak := zw hg; replace HB := ze hb; clear hb hbox hg) | ((with_reducible refine zD 2 rfl ?_); refine zn (N := 2) (cs := #[.bool false, .slice none 0 0, .int .i64 0]) (t := 34) rfl rfl ?_; intro a8 hg w4 hbox hb; have a2 := zA (hbox); have al := zx hg; replace HB := zf hb; have a4 := zl a1 hg; have a5 := zg a1 hg; replace a1 := zb a1 hb; clear hb hbox hg; have ay := a4.out; have aA := a5.out; obtain ⟨_, _, _, _, _, _⟩ := zc a1) | ((with_reducible refine zG 56 rfl ?_); refine zC (some 9) Tryz.func56 (Z0y.calls k a6 _ _ a3 a7 ae af ag _ (zk (ZF ah.out HB.out)) (ai.out) A2.out) ?_; rintro e w7 ⟨v1346, rfl, am, hb⟩; refine ⟨_, rfl, ?_⟩; have a9 := zA (Zl am (Z2 zs)); replace a1 := zb a1 hb; replace a2 := zb a2 hb; replace HB := zf hb; obtain ⟨an, ao, ap, aq, ar, au⟩ := zc a2; obtain ⟨av, aw, ax⟩ := Zx a9.out; subst ax))
 refine bodyPost_ret (results_cell_row rfl _ _ a8 34 #[.bool ae, .slice av af.length aw, .int .i64 ag] (0, 0) _ rfl (zy a2) Tryz.underlying34 rfl (by kernel_rfl)) rfl ?_;exact ⟨_, er, ru (ZB (zr a8 (Z0i a9.out a2.out (by decide)) (fun _ hk => hk.2) _ _ _) (fun _ hk => trivial)), zs⟩
end Go.Proofs.YtjnfipkbgmdpaaaGreatDoor.PAll
