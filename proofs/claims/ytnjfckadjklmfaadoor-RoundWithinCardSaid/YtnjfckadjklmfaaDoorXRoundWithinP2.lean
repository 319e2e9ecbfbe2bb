/- Printed functions. -/
import Derived.Test.YtnjfckadjklmfaaDoorXRoundWithinP1
namespace Go.Proofs.YtnjfckadjklmfaaDoor.PAll
open RowKit YtnjfckadjklmfaaDoorW.PrintWords YtnjfckadjklmfaaDoorW.PrintLast YtnjfckadjklmfaaDoorW.PrintMore YtnjfckadjklmfaaDoorW.PrintWords.Kd
attribute [local go_sem] Z0V Z0W Z1d Z1e Z0E Z0F Z0X Z0Y
set_option linter.unusedVariables false
set_option maxHeartbeats 8000000
set_option maxRecDepth 100000
set_option linter.unusedSimpArgs false
attribute [local go_sem] fld75_0 fld75_1 fld75_2 ext118 ext119
def Z2S.f (k : Nat) (l0 : List Int) (a1 : Int) : Option (List Int × Bool × Int) := (Z1r.f k l0).bind fun a2 => (if a2.2 = 0 then (if a1 < 0 then (some (([] : List Int), false, 2)) else ((Zr.f k a2.1 a1).bind fun a3 => ((Z0Z.f a3.1).bind fun a4 => (some (a4, a3.2, 0))))) else (some (([] : List Int), false, a2.2)))
theorem Z2S.calls (k : Nat) (A0 : Option Addr) (c0 : Nat) (l0 : List Int) (a1 : Int) (r1 : List Int) (r2 : Bool) (r3 : Int) (w : World) (hr0 : Kd.C Zu w A0 l0.length l0) (hc0 : l0.length ≤ c0) (h : Z2S.f k l0 a1 = some (r1, r2, r3)) :
  Calls Tryd.prog 107 #[.slice A0 l0.length c0, .int .i64 a1] w fun e w' => ∃ v0_ : Value, e = .returned (.tuple #[v0_, .bool r2, .int .i64 r3]) ∧ Kd.R Zu 26 w' w.heap.size (fun _ => True) v0_ r1 ∧ Below w.heap.size w w' := by
 have ag := zA hr0;have ah := zA hc0;clear hr0 hc0;have HB := zA (Below.refl w.heap.size w);have H := h
 unfold Z2S.f at H
 clear h;obtain ⟨⟨a5, a6⟩, A3, H⟩ := zh H;(try dsimp only at H)
 by_cases c4 : a6 = 0
 rw [if_pos c4] at H;have a9 := eT c4;have aa := nF c4;clear c4
 by_cases c5 : a1 < 0
 rw [if_pos c5] at H;have ab := dT c5;clear c5;rotate_left;rw [if_neg c5] at H;have ab := dF c5;clear c5;obtain ⟨⟨a7, ac⟩, A7, H⟩ := zh H;(try dsimp only at H);obtain ⟨ad, A8, H⟩ := zh H;rotate_left;rw [if_neg c4] at H;have a9 := eF c4;have aa := nT c4;rotate_left
 all_goals
  simp only [zk3, zk7] at H;obtain ⟨rfl, rfl, rfl⟩ := H;go_enter Tryd.func107, Tryd.ntmps107
  go_wp2_with (first | ((with_reducible refine zG 103 rfl ?_); refine zC (some 13) Tryd.func103 (Z1r.calls k (fun k_ => k_ < w.heap.size) _ _ l0 a5 a6 _ (Z0P ah.out (Kd.ZZ (C_F (Kd.ZX .u64) ag.out) bq)) A3.out) ?_; rintro e w6 ⟨v198, rfl, a4, hb⟩; refine ⟨_, rfl, ?_⟩; have a2 := zA (Zq (Z6 (ok' := fun k_ => True) a4 (fun k_ hk_ => trivial)) (Z7 bq)); replace HB := ze hb; (try (obtain ⟨ai, aj, ae⟩ := Zm a2.out; subst ae))) | ((with_reducible refine zG 124 rfl ?_); refine zC (some 26) Tryd.func124 (Zr.calls k _ _ a5 a1 a7 ac _ (zk (Zb a2.out).2.2) ((Zb a2.out).2.1) A7.out) ?_; rintro e w11 ⟨v202, rfl, a4, hb⟩; refine ⟨_, rfl, ?_⟩; replace a2 := zA (Z4 (vu a2.out) hb); have a3 := zA (Zq (Z6 (ok' := fun k_ => True) a4 (fun k_ hk_ => trivial)) (Z7 bq)); replace HB := ze hb; (try (obtain ⟨ak, al, af⟩ := Zm a3.out; subst af))) | ((with_reducible refine zG 96 rfl ?_); refine zC (some 30) Tryd.func96 (Z0Z.calls _ _ a7 ad _ (zk (Zb a3.out).2.2) ((Zb a3.out).2.1) A8.out) ?_; rintro e w13 ⟨v206, rfl, a4, hb⟩; refine ⟨_, rfl, ?_⟩; replace a2 := zA (Z2c (vu a2.out) (ZA a4) hb); replace a3 := zA (Z2c (vu a3.out) (ZA a4) hb); have a8 := zA (ZH a4 (Z7 bq)); replace HB := ze hb))
 ·go_ret3
  exact ⟨_, er, by first | exact Z1S _ _ _ _ _ | exact Kd.Z2w _ _ _ _ _ | exact Z1h _ _ _ _ _ | exact Kd.Z2u _ _ _ _ _ | exact Kd.Z2v _ _ _ _ _, bq⟩
 ·go_ret3
  exact ⟨_, er, ru a8.out, bq⟩
 go_ret3
 exact ⟨_, er, by first | exact Z1S _ _ _ _ _ | exact Kd.Z2w _ _ _ _ _ | exact Z1h _ _ _ _ _ | exact Kd.Z2u _ _ _ _ _ | exact Kd.Z2v _ _ _ _ _, bq⟩
def Z2T.f (k : Nat) (l0 : List Int) (a1 : Int) : Option (Bool × Int) := (Z1r.f k l0).bind fun a2 => (if a2.2 = 0 then (if a1 < 0 then (some (false, 2)) else (if (wrap64 (Int.tdiv a1 64)) < (a2.1.length : Int) then (if 0 ≤ (wrap64 (Int.tdiv a1 64)) then (if 0 ≤ (Int.tmod a1 64) then (some (((Go.bits .and .u64 (shr .u64 (rd a2.1 (wrap64 (Int.tdiv a1 64))) (Int.tmod a1 64)) 1) == 1), 0)) else (none)) else (none)) else (some (false, 0)))) else (some (false, a2.2)))
theorem Z2T.calls (k : Nat) (A0 : Option Addr) (c0 : Nat) (l0 : List Int) (a1 : Int) (r1 : Bool) (r2 : Int) (w : World) (hr0 : Kd.C Zu w A0 l0.length l0) (hc0 : l0.length ≤ c0) (h : Z2T.f k l0 a1 = some (r1, r2)) :
  Calls Tryd.prog 108 #[.slice A0 l0.length c0, .int .i64 a1] w fun e w' => e = .returned (.tuple #[.bool r1, .int .i64 r2]) ∧ Below w.heap.size w w' := by
 have aj := zA hr0;have ak := zA hc0;clear hr0 hc0;have HB := zA (Below.refl w.heap.size w);have H := h
 unfold Z2T.f at H
 clear h;obtain ⟨⟨a2, aa⟩, A3, H⟩ := zh H;(try dsimp only at H)
 by_cases c4 : aa = 0
 rw [if_pos c4] at H;have ad := eT c4;have ae := nF c4;clear c4
 by_cases c5 : a1 < 0
 rw [if_pos c5] at H;have af := dT c5;clear c5;rotate_left;rw [if_neg c5] at H;have af := dF c5;clear c5
 by_cases c7 : (wrap64 (Int.tdiv a1 64)) < (a2.length : Int)
 rw [if_pos c7] at H;have ab := dT c7;clear c7;generalize a5 : wrap64 (Int.tdiv a1 64) = a4 at H;(try rw [a5] at ab);(try rw [a5] at A3);have hji8w : (IntKind.i64.wrap (Int.tdiv a1 64)) = a4 := (Z1b _).trans a5;replace H := dn H;obtain ⟨c9, H⟩ := H;have ao := dT c9;clear c9;generalize a9 : Int.tmod a1 64 = a6 at H;(try rw [a9] at A3);replace H := dn H;obtain ⟨c11, H⟩ := H;have am := eq_true c11;have an := dT c11;clear c11;generalize a3 : shr .u64 (rd a2 (a4)) (a6) = ac at H;(try rw [a3] at A3);have hji12_ : ((rd a2 (a4)) / 2 ^ min (a6).toNat 64) = ac := a3;have hji12z : (a6) ≤ 64 → ((rd a2 (a4)) / 2 ^ (a6).toNat) = ac := Z2i a3;rotate_left;rw [if_neg c7] at H;have ab := dF c7;clear c7;rotate_left;rw [if_neg c4] at H;have ad := eF c4;have ae := nT c4;rotate_left
 all_goals
  simp only [zk3, zk7] at H;obtain ⟨rfl, rfl⟩ := H;go_enter Tryd.func108, Tryd.ntmps108
  go_wp2_with (first | ((with_reducible refine zG 103 rfl ?_); refine zC (some 10) Tryd.func103 (Z1r.calls k (fun k_ => k_ < w.heap.size) _ _ l0 a2 aa _ (Z0P ak.out (Kd.ZZ (C_F (Kd.ZX .u64) aj.out) bq)) A3.out) ?_; rintro e w6 ⟨v209, rfl, al, hb⟩; refine ⟨_, rfl, ?_⟩; have a7 := zA (Zq (Z6 (ok' := fun k_ => True) al (fun k_ hk_ => trivial)) (Z7 bq)); replace HB := ze hb; (try (obtain ⟨ag, ah, a8⟩ := Zm a7.out; subst a8; have p212 : 0 ≤ ((a4) : Int) := od; have q212 : (a4) < (a2.length : Int) := od; obtain ⟨ad212, e212, ai⟩ := Kd.ZF (Zb a7.out).2.2 (a4) p212 q212; cases e212; replace p212 := eq_true p212; replace q212 := eq_true q212)); (try (obtain ⟨ag, ah, a8⟩ := Zm a7.out; subst a8))))
 ·go_ret2
  exact ⟨er, bq⟩
 ·go_ret2
  exact ⟨by first | rfl | (simp [errW_none, errW_some] <;> rfl) | (simp only [← a5, ← a9, ← a3]; first | rfl | (simp [errW_none, errW_some] <;> rfl)) | (simp [*, errW_none, errW_some] <;> rfl), bq⟩
 ·go_ret2
  exact ⟨er, bq⟩
 go_ret2
 exact ⟨er, bq⟩
def tzI (x : Int) : Int := IntKind.u64.wrap (bits BinOp.and IntKind.u64 x (IntKind.u64.wrap (-x)) * 285870213051353865) / 288230376151711744
def Z0z.f (a0 : Int) : Option (Int) := if a0 = 0 then some 64 else if 0 ≤ tzI a0 then (if tzI a0 < 64 then some (tzTab.getD (tzI a0).toNat 0) else none) else none
theorem tzTab_bd : ∀ i : Nat, i < 64 → 0 ≤ tzTab.getD i 0 ∧ tzTab.getD i 0 < 64 := by decide
theorem Z0z.calls (a0 : Int) (r : Int) (w : World) (hT : Laid w) (h : Z0z.f a0 = some r) :
  Calls Tryd.prog 116 #[.int .u64 a0] w fun e w' => e = .returned (.int .i64 r) ∧ Drawn0 w w' := by
 unfold Z0z.f at h
 by_cases c : a0 = 0
 ·rw [if_pos c] at h;obtain rfl := zk1 h;subst c;go_enter Tryd.func116, Tryd.ntmps116
  go_wp2
  go_ret;exact ⟨rfl, Drawn0.refl _⟩
 rw [if_neg c] at h;have c0 : (a0 == 0) = false := eF c
 by_cases p : 0 ≤ tzI a0
 ·rw [if_pos p] at h
  by_cases q : tzI a0 < 64
  ·rw [if_pos q] at h;have hc := hT (tzI a0).toNat (by omega);have hb := tzTab_bd (tzI a0).toNat (by omega);have hr := zk1 h;rw [hr] at hc hb;have hb0 := hb.1;have hb1 := hb.2;clear h hr hb hT c
   unfold tzI at p q hc
   go_enter Tryd.func116, Tryd.ntmps116
   go_wp2
   go_ret;exact ⟨by first | rfl | simp, Drawn0.refl _⟩
  rw [if_neg q] at h;cases h
 rw [if_neg p] at h;cases h
def Z13.l0 : Nat → Int → List Int → Int → Int → Option (Int × Int)
 | 0, _, _, _, _ => none
 | k + 1, x5, x13, x14, x15 => if x15 < x14 then (if 0 ≤ x15 then (if x15 < (x13.length : Int) then (if (rd x13 x15) = 0 then (Z13.l0 k x5 x13 x14 (wrap64 (x15 + 1))) else ((Z0z.f (rd x13 x15)).bind fun a1 => (some (wrap64 ((wrap64 (64 * x15)) + a1), x5)))) else (none)) else (none)) else (some (0, x5))
def Z13.f (k : Nat) (l0 : List Int) : Option (Int × Int) := (Z1r.f k l0).bind fun a1 => (Z13.l0 k a1.2 a1.1 (a1.1.length : Int) 0)
theorem Z13.calls (k : Nat) (A0 : Option Addr) (c0 : Nat) (l0 : List Int) (r1 : Int) (r2 : Int) (w : World) (hr0 : Kd.C Zu w A0 l0.length l0) (hc0 : l0.length ≤ c0) (hT : Laid w) (h : Z13.f k l0 = some (r1, r2)) :
  Calls Tryd.prog 109 #[.slice A0 l0.length c0] w fun e w' => e = .returned (.tuple #[.int .i64 r1, .int .i64 r2]) ∧ Below w.heap.size w w' := by
 have ab := zA hr0;have ac := zA hc0;clear hr0 hc0;have HB := zA (Below.refl w.heap.size w);have H := h
 unfold Z13.f at H
 clear h;obtain ⟨⟨a2, a6⟩, A2, H⟩ := zh H;(try dsimp only at H);have H' := zA H;clear H;go_enter Tryd.func109, Tryd.ntmps109
 go_wp2_with (first | ((with_reducible refine zG 103 rfl ?_); refine zC (some 10) Tryd.func103 (Z1r.calls k (fun k_ => k_ < w.heap.size) _ _ l0 a2 a6 _ (Z0P ac.out (Kd.ZZ (C_F (Kd.ZX .u64) ab.out) bq)) A2.out) ?_; rintro e w3 ⟨v214, rfl, ad, hb⟩; refine ⟨_, rfl, ?_⟩; have a4 := zA (Zq (Z6 (ok' := fun k_ => True) ad (fun k_ hk_ => trivial)) (Z7 bq)); replace HB := ze hb; obtain ⟨ae, af, ag⟩ := Zm a4.out; subst ag))
 go_loopg [15] k (fun kq v15 w' => ∃ (a1 : Int), v15 = .int .i64 a1 ∧ Aside0 (Z13.l0 kq a6 a2 (a2.length : Int) a1 = some (r1, r2)) ∧ Aside0 (kq ≤ k) ∧ Aside0 (Kd.V Zu 26 w' w.heap.size (fun _ => True) (.slice ae a2.length af) a2) ∧ Aside0 (Below w.heap.size w w'))
 case atStart => exact ⟨(0), zi, H', zB2, ⟨vu a4.out⟩, ⟨bq⟩⟩
 case round =>
  clear H';obtain ⟨a1, rfl, HA, HK1, a3, HB⟩ := hrel
  cases gk with
  | zero => exact absurd HA.out (by simp [Z13.l0])
  | succ k1 =>
   have H := HA.out;clear HA;simp only [Z13.l0] at H
   by_cases c5 : a1 < (a2.length : Int)
   ·rw [if_pos c5] at H;have a7 := dT c5;clear c5;replace H := dn H;obtain ⟨c6, H⟩ := H;have ah := dT c6;clear c6;replace H := dn H;obtain ⟨c7, H⟩ := H;have ai := dT c7;clear c7
    by_cases c8 : (rd a2 a1) = 0
    ·rw [if_pos c8] at H;have a8 := eT c8;have a9 := nF c8;clear c8;have H' := zA H;clear H;have p217 : 0 ≤ (a1 : Int) := od;have q217 : a1 < (a2.length : Int) := od;obtain ⟨ad217, e217, a5⟩ := Kd.ZF (Zb a3.out).2.2 a1 p217 q217;cases e217;replace p217 := eq_true p217;replace q217 := eq_true q217
     go_wp2
     go_roundg k1
     case measure => have := HK1.out; omega
     case rel => exact ⟨(wrap64 (a1 + 1)), zi, H', zB1, ⟨vu a3.out⟩, ⟨bq⟩⟩
    rw [if_neg c8] at H;have a8 := eF c8;have a9 := nT c8;obtain ⟨aa, A9, H⟩ := zh H;simp only [zk3, zk7] at H;obtain ⟨rfl, rfl⟩ := H;have p217 : 0 ≤ (a1 : Int) := od;have q217 : a1 < (a2.length : Int) := od;obtain ⟨ad217, e217, a5⟩ := Kd.ZF (Zb a3.out).2.2 a1 p217 q217;cases e217;replace p217 := eq_true p217;replace q217 := eq_true q217
    go_wp2_with (first | ((with_reducible refine zG 116 rfl ?_); refine zC (some 25) Tryd.func116 (Z0z.calls (rd a2 a1) aa _ (laid_below hT bq) A9.out) ?_; rintro e w' ⟨rfl, ⟨nd, rfl⟩⟩; refine ⟨_, rfl, ?_⟩))
    go_ret2
    exact ⟨er, bq⟩
   rw [if_neg c5] at H;have a7 := dF c5;clear c5;simp only [zk3, zk7] at H;obtain ⟨rfl, rfl⟩ := H
   go_wp2
   go_ret2
   exact ⟨er, bq⟩
def Z12.f (k : Nat) (a5 : List Int) (a3 : Int) (a1 : Int) : Option (Int × Bool) := if a3 ≥ a1 then ((Z34.f k a5 (wrap64 (a3 - a1))).bind fun a6 => ((Z1v.f a6.1).bind fun a9 => (some (a9, false)))) else ((Z2S.f k a5 (wrap64 (a1 - a3))).bind fun a2 => ((Z1v.f a2.1).bind fun a4 => ((Z2T.f k a5 (wrap64 ((wrap64 (a1 - a3)) - 1))).bind fun a7 => ((Z13.f k a5).bind fun a8 => (if a7.1 = true then (if a8.1 < (wrap64 ((wrap64 (a1 - a3)) - 1)) then (some (IntKind.u64.wrap (a4 + 1), a2.2.1)) else (if (Go.bits .and .u64 a4 1) = 1 then (some (IntKind.u64.wrap (a4 + 1), a2.2.1)) else (some (a4, a2.2.1)))) else (some (a4, a2.2.1)))))))
theorem hand_at_lit (g : Nat) (m : Int) (up : Bool) (w : World) (hb : w.heap[g]? = some (.cells #[.int .u64 m] 26 (0, 0))) :
  Calls Tryd.prog 110 #[.bool up, .pointer (some ⟨g, 0, none⟩)] w fun e w' => e = .returned (.int .u64 (if up then IntKind.u64.wrap (m + 1) else m)) ∧ Below w.heap.size w w' := by
 have hc := (Z3 hb 0).trans rfl;have hf := Z2 hb 0;have HB := zA (Below.refl w.heap.size w);clear hb;cases up
 ·go_enter Tryd.func110, Tryd.ntmps110
  go_wp2
  go_ret;exact ⟨rfl, HB.out⟩
 go_enter Tryd.func110, Tryd.ntmps110
 go_wp2
 go_ret;exact ⟨rfl, HB.out⟩
theorem Z12.calls (k : Nat) (a4 : Option Addr) (a5 : Nat) (a2 : List Int) (a3 : Int) (a1 : Int) (r1 : Int) (r2 : Bool) (w : World) (ad : Kd.C Zu w a4 a2.length a2) (ae : a2.length ≤ a5) (hT : Laid w) (h : Z12.f k a2 a3 a1 = some (r1, r2)) :
  Calls Tryd.prog 77 #[.agg #[.slice a4 a2.length a5, .int .i64 a3], .int .i64 a1] w fun e w' => e = .returned (.tuple #[.int .u64 r1, .bool r2]) ∧ Below w.heap.size w w' := by
 have hu64 := Tryd.underlying64
 have hmf : ∀ (fn : Fn) (first cap : Array Value) (w : World), (Instr.makeFunc fn first cap).run Tryd.prog w = .ok (.func fn first cap) w := fun _ _ _ _ => rfl
 have a7 := zA ad;have a8 := zA ae;clear ad ae;have HB := zA (Below.refl w.heap.size w)
 unfold Z12.f at h
 by_cases c3 : a3 ≥ a1
 ·rw [if_pos c3] at h;have ax := dT c3;clear c3;replace h := Option.bind_eq_some_iff.mp h;obtain ⟨⟨ac, ay⟩, ap, h⟩ := h;have A4 := zA ap;clear ap;replace h := Option.bind_eq_some_iff.mp h;obtain ⟨aA, aq, h⟩ := h;have A5 := zA aq;clear aq;simp only [zk3, zk7] at h;obtain ⟨rfl, rfl⟩ := h;go_enter Tryd.func77, Tryd.ntmps77
  go_wp2_with (first | ((with_reducible refine zD 2 rfl ?_); refine zn (N := 2) (cs := #[.slice a4 a2.length a5, .int .i64 a3]) (t := 64) rfl rfl ?_; intro gA hg w1 hbox hb; have GA := zA (hg ▸ Z7 HB.out : w.heap.size ≤ gA); have m_HB := zA (Z0o HB.out hb); clear HB hb hg; have HB := m_HB; clear m_HB; have BA := zA hbox; clear hbox; have hcA0 := (Z3 BA.out 0).trans rfl; have hfA0 := Z2 BA.out 0; have hcA1 := (Z3 BA.out 1).trans rfl; have hfA1 := Z2 BA.out 1) | ((with_reducible refine zG 105 rfl ?_); refine Z1k (some 30) rfl rfl Tryd.func105 (by kernel_rfl) rfl #[.slice a4 a2.length a5, .int .i64 (wrap64 (a3 - a1))] rfl (by (try simp only [zkb, zkg, zkh]); first | done | rfl) ?_; refine (Z34.calls k _ _ a2 (wrap64 (a3 - a1)) ac ay _ (Za a7.out HB.out) a8.out A4.out).mono ?_; rintro e w8 ⟨v222, rfl, aa, hb⟩; refine ⟨_, rfl, ?_⟩; have m_HB := zA (Z0o HB.out hb); have m_BA := zA (ZK BA.out hb); clear hb HB BA; have HB := m_HB; have BA := m_BA; clear m_HB m_BA; have HO := zA aa; clear aa; obtain ⟨Ao, co, eo⟩ := ZO HO.out; subst eo) | ((with_reducible refine zG 106 rfl ?_); refine Z1k (some 34) rfl rfl Tryd.func106 (by kernel_rfl) rfl #[.slice Ao ac.length co] rfl (by (try simp only [zkb, zkg, zkh]); first | done | rfl) ?_; refine (Z1v.calls _ _ ac aA _ (Zi HO.out).2.2 (Zi HO.out).2.1 A5.out).mono ?_; rintro e w' ⟨rfl, hd⟩; refine ⟨_, rfl, ?_⟩; have hb := hd.below; clear hd; have m_HB := zA (Z0o HB.out hb); have m_BA := zA (ZK BA.out hb); clear hb HB BA; have HB := m_HB; have BA := m_BA; clear m_HB m_BA))
  go_ret2
  exact ⟨rfl, HB.out⟩
 rw [if_neg c3] at h;have ax := dF c3;clear c3;replace h := Option.bind_eq_some_iff.mp h;obtain ⟨⟨a9, af, ag⟩, ah, h⟩ := h;have ar := zA ah;clear ah;replace h := Option.bind_eq_some_iff.mp h;obtain ⟨a6, ai, h⟩ := h;have au := zA ai;clear ai;replace h := Option.bind_eq_some_iff.mp h;obtain ⟨⟨aB, aj⟩, ak, h⟩ := h;have av := zA ak;clear ak;replace h := Option.bind_eq_some_iff.mp h;obtain ⟨⟨ab, al⟩, am, h⟩ := h;have aw := zA am;clear am
 cases aB with
 | false =>
  replace h : (if false = true then _ else _) = _ := h;rw [if_neg (by decide)] at h;simp only [zk3, zk7] at h;obtain ⟨rfl, rfl⟩ := h;go_enter Tryd.func77, Tryd.ntmps77
  go_wp2_with (first | ((with_reducible refine zD 2 rfl ?_); refine zn (N := 2) (cs := #[.slice a4 a2.length a5, .int .i64 a3]) (t := 64) rfl rfl ?_; intro gA hg w1 hbox hb; have GA := zA (hg ▸ Z7 HB.out : w.heap.size ≤ gA); have m_HB := zA (Z0o HB.out hb); clear HB hb hg; have HB := m_HB; clear m_HB; have BA := zA hbox; clear hbox; have hcA0 := (Z3 BA.out 0).trans rfl; have hfA0 := Z2 BA.out 0; have hcA1 := (Z3 BA.out 1).trans rfl; have hfA1 := Z2 BA.out 1) | ((with_reducible refine zG 107 rfl ?_); refine Z1k (some 43) rfl rfl Tryd.func107 (by kernel_rfl) rfl #[.slice a4 a2.length a5, .int .i64 (wrap64 (a1 - a3))] rfl (by (try simp only [zkb, zkg, zkh]); first | done | rfl) ?_; refine (Z2S.calls k _ _ a2 (wrap64 (a1 - a3)) a9 af ag _ (Za a7.out HB.out) a8.out ar.out).mono ?_; rintro e w8 ⟨v228, rfl, aa, hb⟩; refine ⟨_, rfl, ?_⟩; have m_HB := zA (Z0o HB.out hb); have m_BA := zA (ZK BA.out hb); clear hb HB BA; have HB := m_HB; have BA := m_BA; clear m_HB m_BA; have HO := zA aa; clear aa; obtain ⟨Ao, co, eo⟩ := ZO HO.out; subst eo) | ((with_reducible refine zG 106 rfl ?_); refine Z1k (some 48) rfl rfl Tryd.func106 (by kernel_rfl) rfl #[.slice Ao a9.length co] rfl (by (try simp only [zkb, zkg, zkh]); first | done | rfl) ?_; refine (Z1v.calls _ _ a9 a6 _ (Zi HO.out).2.2 (Zi HO.out).2.1 au.out).mono ?_; rintro e wd ⟨rfl, hd⟩; refine ⟨_, rfl, ?_⟩; have hb := hd.below; clear hd; have m_HB := zA (Z0o HB.out hb); have m_BA := zA (ZK BA.out hb); clear hb HB BA; have HB := m_HB; have BA := m_BA; clear m_HB m_BA) | ((with_reducible refine zD 12 rfl ?_); refine zn (N := 12) (cs := #[.int .u64 0]) (t := 26) rfl rfl ?_; intro gM hg w1 hbox hb; have GM := zA (hg ▸ Z7 HB.out : w.heap.size ≤ gM); have NE := zA (by have q_ := Z2C BA.out; rw [hg]; omega : gA ≠ gM); have m_HB := zA (Z0o HB.out hb); have m_BA := zA (ZK BA.out hb); clear hb HB BA; have HB := m_HB; have BA := m_BA; clear m_HB m_BA; have BM := zA hbox; clear hbox hg; have hcM0 := (Z3 BM.out 0).trans rfl; have hfM0 := Z2 BM.out 0) | (refine Z0y (t := 26) (p := 12) (v := .tmp 48) rfl ?_; refine Z0p (t := 26) (p := 12) (v := .tmp 48) (w1 := w1.setCell ⟨gM, 0, none⟩ (.int .u64 a6)) ?hg ?ho ?hn ?hr ?_; (case ho => rfl); (case hg => rfl); (case hn => rfl); (case hr => first | (go_simp; done) | (go_simp; rfl)); intro w2 hw; have m_BM := zA (hw ▸ Ze BM.out 0 (.int .u64 a6) rfl : w2.heap[gM]? = some (.cells #[.int .u64 a6] 26 (0, 0))); have m_BA := zA (hw ▸ Z9 BA.out (p := ⟨gM, 0, none⟩) NE.out _ : w2.heap[gA]? = some (.cells #[.slice a4 a2.length a5, .int .i64 a3] 64 (0, 0))); have m_HB := zA (hw ▸ Z0f HB.out GM.out : Below w.heap.size w w2); clear hw BM BA HB; have BM := m_BM; have BA := m_BA; have HB := m_HB; clear m_BM m_BA m_HB; have hcA0 := (Z3 BA.out 0).trans rfl; have hfA0 := Z2 BA.out 0; have hcA1 := (Z3 BA.out 1).trans rfl; have hfA1 := Z2 BA.out 1; have hcM0 := (Z3 BM.out 0).trans rfl; have hfM0 := Z2 BM.out 0) | ((with_reducible refine zG 108 rfl ?_); refine Z1k (some 54) rfl rfl Tryd.func108 (by kernel_rfl) rfl #[.slice a4 a2.length a5, .int .i64 (wrap64 ((wrap64 (a1 - a3)) - 1))] rfl (by (try simp only [zkb, zkg, zkh]); first | done | rfl) ?_; refine (Z2T.calls k _ _ a2 (wrap64 ((wrap64 (a1 - a3)) - 1)) false aj _ (Za a7.out HB.out) a8.out av.out).mono ?_; rintro e w8 ⟨rfl, hb⟩; refine ⟨_, rfl, ?_⟩; have m_HB := zA (Z0o HB.out hb); have m_BA := zA (ZK BA.out hb); have m_BM := zA (ZK BM.out hb); clear hb HB BA BM; have HB := m_HB; have BA := m_BA; have BM := m_BM; clear m_HB m_BA m_BM; have hcA0 := (Z3 BA.out 0).trans rfl; have hfA0 := Z2 BA.out 0; have hcA1 := (Z3 BA.out 1).trans rfl; have hfA1 := Z2 BA.out 1; have hcM0 := (Z3 BM.out 0).trans rfl; have hfM0 := Z2 BM.out 0) | ((with_reducible refine zG 109 rfl ?_); refine Z1k (some 60) rfl rfl Tryd.func109 (by kernel_rfl) rfl #[.slice a4 a2.length a5] rfl (by (try simp only [zkb, zkg, zkh]); first | done | rfl) ?_; refine (Z13.calls k _ _ a2 ab al _ (Za a7.out HB.out) a8.out (laid_below hT HB.out) aw.out).mono ?_; rintro e w9 ⟨rfl, hb⟩; refine ⟨_, rfl, ?_⟩; have m_HB := zA (Z0o HB.out hb); have m_BA := zA (ZK BA.out hb); have m_BM := zA (ZK BM.out hb); clear hb HB BA BM; have HB := m_HB; have BA := m_BA; have BM := m_BM; clear m_HB m_BA m_BM; have hcA0 := (Z3 BA.out 0).trans rfl; have hfA0 := Z2 BA.out 0; have hcA1 := (Z3 BA.out 1).trans rfl; have hfA1 := Z2 BA.out 1; have hcM0 := (Z3 BM.out 0).trans rfl; have hfM0 := Z2 BM.out 0) | ((with_reducible refine zD 78 rfl ?_); refine goesV_ (some 78) rfl rfl #[] #[.pointer (some ⟨gM, 0, none⟩)] rfl rfl Tryd.func110 (by kernel_rfl) rfl #[.bool false, .pointer (some ⟨gM, 0, none⟩)] (by (try simp only [zkb, zkg, zkh]); first | done | (go_simp; done) | rfl) ?_; refine (hand_at_lit gM a6 false _ BM.out).mono ?_; rintro e_ w4 ⟨rfl, hb⟩; refine ⟨_, rfl, ?_⟩; have m_HB := zA (Z0o HB.out hb); clear HB hb; have HB := m_HB; clear m_HB))
  go_ret2
  exact ⟨rfl, HB.out⟩
 | true =>
 replace h : (if true = true then _ else _) = _ := h;rw [if_pos rfl] at h
 by_cases c15 : ab < (wrap64 ((wrap64 (a1 - a3)) - 1))
 rw [if_pos c15] at h;have an : decide (ab < (wrap64 ((wrap64 (a1 - a3)) - 1))) = true := dT c15;clear c15;rotate_left;rw [if_neg c15] at h;have an : decide (ab < (wrap64 ((wrap64 (a1 - a3)) - 1))) = false := dF c15;clear c15
 by_cases c24 : (Go.bits .and .u64 a6 1) = 1
 rw [if_pos c24] at h;have ao := eT c24;clear c24;rotate_left;rw [if_neg c24] at h;have ao := eF c24;clear c24;rotate_left
 all_goals
  simp only [zk3, zk7] at h;obtain ⟨rfl, rfl⟩ := h;go_enter Tryd.func77, Tryd.ntmps77
  go_wp2_with (first | ((with_reducible refine zD 2 rfl ?_); refine zn (N := 2) (cs := #[.slice a4 a2.length a5, .int .i64 a3]) (t := 64) rfl rfl ?_; intro gA hg w1 hbox hb; have GA := zA (hg ▸ Z7 HB.out : w.heap.size ≤ gA); have m_HB := zA (Z0o HB.out hb); clear HB hb hg; have HB := m_HB; clear m_HB; have BA := zA hbox; clear hbox; have hcA0 := (Z3 BA.out 0).trans rfl; have hfA0 := Z2 BA.out 0; have hcA1 := (Z3 BA.out 1).trans rfl; have hfA1 := Z2 BA.out 1) | ((with_reducible refine zG 107 rfl ?_); refine Z1k (some 43) rfl rfl Tryd.func107 (by kernel_rfl) rfl #[.slice a4 a2.length a5, .int .i64 (wrap64 (a1 - a3))] rfl (by (try simp only [zkb, zkg, zkh]); first | done | rfl) ?_; refine (Z2S.calls k _ _ a2 (wrap64 (a1 - a3)) a9 af ag _ (Za a7.out HB.out) a8.out ar.out).mono ?_; rintro e w8 ⟨v228, rfl, aa, hb⟩; refine ⟨_, rfl, ?_⟩; have m_HB := zA (Z0o HB.out hb); have m_BA := zA (ZK BA.out hb); clear hb HB BA; have HB := m_HB; have BA := m_BA; clear m_HB m_BA; have HO := zA aa; clear aa; obtain ⟨Ao, co, eo⟩ := ZO HO.out; subst eo) | ((with_reducible refine zG 106 rfl ?_); refine Z1k (some 48) rfl rfl Tryd.func106 (by kernel_rfl) rfl #[.slice Ao a9.length co] rfl (by (try simp only [zkb, zkg, zkh]); first | done | rfl) ?_; refine (Z1v.calls _ _ a9 a6 _ (Zi HO.out).2.2 (Zi HO.out).2.1 au.out).mono ?_; rintro e wd ⟨rfl, hd⟩; refine ⟨_, rfl, ?_⟩; have hb := hd.below; clear hd; have m_HB := zA (Z0o HB.out hb); have m_BA := zA (ZK BA.out hb); clear hb HB BA; have HB := m_HB; have BA := m_BA; clear m_HB m_BA) | ((with_reducible refine zD 12 rfl ?_); refine zn (N := 12) (cs := #[.int .u64 0]) (t := 26) rfl rfl ?_; intro gM hg w1 hbox hb; have GM := zA (hg ▸ Z7 HB.out : w.heap.size ≤ gM); have NE := zA (by have q_ := Z2C BA.out; rw [hg]; omega : gA ≠ gM); have m_HB := zA (Z0o HB.out hb); have m_BA := zA (ZK BA.out hb); clear hb HB BA; have HB := m_HB; have BA := m_BA; clear m_HB m_BA; have BM := zA hbox; clear hbox hg; have hcM0 := (Z3 BM.out 0).trans rfl; have hfM0 := Z2 BM.out 0) | (refine Z0y (t := 26) (p := 12) (v := .tmp 48) rfl ?_; refine Z0p (t := 26) (p := 12) (v := .tmp 48) (w1 := w1.setCell ⟨gM, 0, none⟩ (.int .u64 a6)) ?hg ?ho ?hn ?hr ?_; (case ho => rfl); (case hg => rfl); (case hn => rfl); (case hr => first | (go_simp; done) | (go_simp; rfl)); intro w2 hw; have m_BM := zA (hw ▸ Ze BM.out 0 (.int .u64 a6) rfl : w2.heap[gM]? = some (.cells #[.int .u64 a6] 26 (0, 0))); have m_BA := zA (hw ▸ Z9 BA.out (p := ⟨gM, 0, none⟩) NE.out _ : w2.heap[gA]? = some (.cells #[.slice a4 a2.length a5, .int .i64 a3] 64 (0, 0))); have m_HB := zA (hw ▸ Z0f HB.out GM.out : Below w.heap.size w w2); clear hw BM BA HB; have BM := m_BM; have BA := m_BA; have HB := m_HB; clear m_BM m_BA m_HB; have hcA0 := (Z3 BA.out 0).trans rfl; have hfA0 := Z2 BA.out 0; have hcA1 := (Z3 BA.out 1).trans rfl; have hfA1 := Z2 BA.out 1; have hcM0 := (Z3 BM.out 0).trans rfl; have hfM0 := Z2 BM.out 0) | ((with_reducible refine zG 108 rfl ?_); refine Z1k (some 54) rfl rfl Tryd.func108 (by kernel_rfl) rfl #[.slice a4 a2.length a5, .int .i64 (wrap64 ((wrap64 (a1 - a3)) - 1))] rfl (by (try simp only [zkb, zkg, zkh]); first | done | rfl) ?_; refine (Z2T.calls k _ _ a2 (wrap64 ((wrap64 (a1 - a3)) - 1)) true aj _ (Za a7.out HB.out) a8.out av.out).mono ?_; rintro e w8 ⟨rfl, hb⟩; refine ⟨_, rfl, ?_⟩; have m_HB := zA (Z0o HB.out hb); have m_BA := zA (ZK BA.out hb); have m_BM := zA (ZK BM.out hb); clear hb HB BA BM; have HB := m_HB; have BA := m_BA; have BM := m_BM; clear m_HB m_BA m_BM; have hcA0 := (Z3 BA.out 0).trans rfl; have hfA0 := Z2 BA.out 0; have hcA1 := (Z3 BA.out 1).trans rfl; have hfA1 := Z2 BA.out 1; have hcM0 := (Z3 BM.out 0).trans rfl; have hfM0 := Z2 BM.out 0) | ((with_reducible refine zG 109 rfl ?_); refine Z1k (some 60) rfl rfl Tryd.func109 (by kernel_rfl) rfl #[.slice a4 a2.length a5] rfl (by (try simp only [zkb, zkg, zkh]); first | done | rfl) ?_; refine (Z13.calls k _ _ a2 ab al _ (Za a7.out HB.out) a8.out (laid_below hT HB.out) aw.out).mono ?_; rintro e w9 ⟨rfl, hb⟩; refine ⟨_, rfl, ?_⟩; have m_HB := zA (Z0o HB.out hb); have m_BA := zA (ZK BA.out hb); have m_BM := zA (ZK BM.out hb); clear hb HB BA BM; have HB := m_HB; have BA := m_BA; have BM := m_BM; clear m_HB m_BA m_BM; have hcA0 := (Z3 BA.out 0).trans rfl; have hfA0 := Z2 BA.out 0; have hcA1 := (Z3 BA.out 1).trans rfl; have hfA1 := Z2 BA.out 1; have hcM0 := (Z3 BM.out 0).trans rfl; have hfM0 := Z2 BM.out 0) | ((with_reducible refine zD 78 rfl ?_); refine goesV_ (some 78) rfl rfl #[] #[.pointer (some ⟨gM, 0, none⟩)] rfl rfl Tryd.func110 (by kernel_rfl) rfl #[.bool true, .pointer (some ⟨gM, 0, none⟩)] (by (try simp only [zkb, zkg, zkh]); first | done | (go_simp; done) | rfl) ?_; refine (hand_at_lit gM a6 true _ BM.out).mono ?_; rintro e_ w4 ⟨rfl, hb⟩; refine ⟨_, rfl, ?_⟩; have m_HB := zA (Z0o HB.out hb); clear HB hb; have HB := m_HB; clear m_HB) | ((with_reducible refine zD 78 rfl ?_); refine goesV_ (some 78) rfl rfl #[] #[.pointer (some ⟨gM, 0, none⟩)] rfl rfl Tryd.func110 (by kernel_rfl) rfl #[.bool false, .pointer (some ⟨gM, 0, none⟩)] (by (try simp only [zkb, zkg, zkh]); first | done | (go_simp; done) | rfl) ?_; refine (hand_at_lit gM a6 false _ BM.out).mono ?_; rintro e_ w4 ⟨rfl, hb⟩; refine ⟨_, rfl, ?_⟩; have m_HB := zA (Z0o HB.out hb); clear HB hb; have HB := m_HB; clear m_HB))
  go_ret2
  exact ⟨rfl, HB.out⟩
def Z00.f (k : Nat) (a1 : List Int) (a2 : Int) : Option (Bool) := (ZM.f a1 a2).bind fun a5 => (if a5 = true then (some false) else ((Z0u.f k a1 a2).bind fun a3 => (if a3 = (-1022) then ((Z12.f k a1 a2 (wrap64 (a3 - 53))).bind fun a4 => (some (decide (a4.1 < 9007199254740992)))) else (some (decide (a3 < (-1022)))))))
theorem Z00.calls (k : Nat) (a6 : Option Addr) (a7 : Nat) (a2 : List Int) (a3 : Int) (r : Bool) (w : World) (a9 : Kd.C Zu w a6 a2.length a2) (aa : a2.length ≤ a7) (hT : Laid w) (h : Z00.f k a2 a3 = some r) :
  Calls Tryd.prog 36 #[.agg #[.slice a6 a2.length a7, .int .i64 a3]] w fun e w' => e = .returned (.bool r) ∧ Below w.heap.size w w' := by
 have hu64 := Tryd.underlying64;have a4 := zA a9;have a5 := zA aa;clear a9 aa;have HB := zA (Below.refl w.heap.size w);have H := h
 unfold Z00.f at H
 clear h;obtain ⟨ab, A2, H⟩ := zh H
 by_cases c3 : ab = true
 subst c3;rw [if_pos rfl] at H;rotate_left;replace c3 := Bool.eq_false_iff.mpr c3;subst c3;rw [if_neg (show ¬ (false = true) by decide)] at H;obtain ⟨a8, A7, H⟩ := zh H
 by_cases c8 : a8 = (-1022)
 rw [if_pos c8] at H;have ac := eT c8;have ad := nF c8;clear c8;obtain ⟨⟨ae, af⟩, A9, H⟩ := zh H;(try dsimp only at H);rotate_left;rw [if_neg c8] at H;have ac := eF c8;have ad := nT c8;rotate_left
 all_goals
  obtain rfl := zk1 H;go_enter Tryd.func36, Tryd.ntmps36
  go_wp2_with (first | ((with_reducible refine zD 1 rfl ?_); refine zn (N := 1) (cs := #[.slice a6 a2.length a7, .int .i64 a3]) (t := 64) rfl rfl ?_; intro au hg w4 hbox hb; have a1 := zA (hbox); have av := zw hg; replace HB := ze hb; clear hb hbox hg; have ao := zM0 a1; have ap := zM1 a1; have aq := Z2 a1.out 0; have ar := Z2 a1.out 1) | ((with_reducible refine zG 50 rfl ?_); refine zC (some 7) Tryd.func50 (ZM.calls _ _ a2 a3 true _ (zk (Za a4.out HB.out)) (a5.out) A2.out) ?_; rintro e w6 ⟨rfl, hb⟩; refine ⟨_, rfl, ?_⟩; replace a1 := zb a1 hb; replace HB := zf hb) | ((with_reducible refine zG 50 rfl ?_); refine zC (some 7) Tryd.func50 (ZM.calls _ _ a2 a3 false _ (zk (Za a4.out HB.out)) (a5.out) A2.out) ?_; rintro e w12 ⟨rfl, hb⟩; refine ⟨_, rfl, ?_⟩; replace a1 := zb a1 hb; replace HB := zf hb; have ag := zM0 a1; have ah := zM1 a1; have ai := Z2 a1.out 0; have aj := Z2 a1.out 1) | ((with_reducible refine zG 76 rfl ?_); refine zC (some 9) Tryd.func76 (Z0u.calls k _ _ a2 a3 a8 _ (zk (Za a4.out HB.out)) (a5.out) A7.out) ?_; rintro e w14 ⟨rfl, hb⟩; refine ⟨_, rfl, ?_⟩; replace a1 := zb a1 hb; replace HB := zf hb; (try (have ak := zM0 a1; have al := zM1 a1; have am := Z2 a1.out 0; have an := Z2 a1.out 1))) | ((with_reducible refine zG 77 rfl ?_); refine zC (some 18) Tryd.func77 (Z12.calls k _ _ a2 a3 (wrap64 (a8 - 53)) ae af _ (zk (Za a4.out HB.out)) (a5.out) (laid_below hT zs) A9.out) ?_; rintro e w16 ⟨rfl, hb⟩; refine ⟨_, rfl, ?_⟩; replace a1 := zb a1 hb; replace HB := zf hb))
  go_ret;exact ⟨er, zs⟩
def ZJ.j0 : Nat → Int → Int → Bool → Option (Int × Bool)
 | 0, _, _, _ => none
 | k + 1, x5, x6, x7 => if x6 < 4503599627370496 then (some (x6, x7)) else (if x5 > 971 then (some (9218868437227405312, true)) else (some (IntKind.u64.wrap ((IntKind.u64.wrap ((IntKind.u64.wrap ((IntKind.u64.wrap (wrap64 (x5 + 1075))) * 4503599627370496)) + x6)) - 4503599627370496), x7)))
def ZJ.f (k : Nat) (a3 : List Int) (a4 : Int) : Option (Int × Bool) := (Z0u.f k a3 a4).bind fun a2 => ((ZM.f a3 a4).bind fun a5 => (if a5 = true then (some (0, false)) else (if a2 > 1024 then (some (9218868437227405312, true)) else (if a2 < (-1074) then (some (0, true)) else ((Z12.f k a3 a4 (mx (wrap64 (a2 - 53)) (-1074))).bind fun a1 => (if a1.1 = 9007199254740992 then (ZJ.j0 k (wrap64 ((mx (wrap64 (a2 - 53)) (-1074)) + 1)) (a1.1 / 2) a1.2) else (ZJ.j0 k (mx (wrap64 (a2 - 53)) (-1074)) a1.1 a1.2)))))))
theorem ZJ.calls (k : Nat) (a8 : Option Addr) (a9 : Nat) (a2 : List Int) (a3 : Int) (r1 : Int) (r2 : Bool) (w : World) (ai : Kd.C Zu w a8 a2.length a2) (aj : a2.length ≤ a9) (hT : Laid w) (h : ZJ.f k a2 a3 = some (r1, r2)) :
  Calls Tryd.prog 68 #[.agg #[.slice a8 a2.length a9, .int .i64 a3]] w fun e w' => e = .returned (.tuple #[.int .u64 r1, .bool r2]) ∧ Below w.heap.size w w' := by
 have hu64 := Tryd.underlying64;have a5 := zA ai;have a6 := zA aj;clear ai aj;have HB := zA (Below.refl w.heap.size w);have H := h
 unfold ZJ.f at H
 clear h;obtain ⟨a7, A2, H⟩ := zh H;obtain ⟨au, A3, H⟩ := zh H
 by_cases c4 : au = true
 ·subst c4;rw [if_pos rfl] at H;simp only [zk3, zk7] at H;obtain ⟨rfl, rfl⟩ := H;go_enter Tryd.func68, Tryd.ntmps68
  go_wp2_with (first | ((with_reducible refine zD 1 rfl ?_); refine zn (N := 1) (cs := #[.slice a8 a2.length a9, .int .i64 a3]) (t := 64) rfl rfl ?_; intro aa hg w5 hbox hb; have a1 := zA (hbox); have ae := zw hg; replace HB := ze hb; clear hb hbox hg; have aY := zM0 a1; have az := zM1 a1; have aZ := Z2 a1.out 0; have b1 := Z2 a1.out 1) | ((with_reducible refine zG 76 rfl ?_); refine zC (some 9) Tryd.func76 (Z0u.calls k _ _ a2 a3 a7 _ (zk (Za a5.out HB.out)) (a6.out) A2.out) ?_; rintro e w7 ⟨rfl, hb⟩; refine ⟨_, rfl, ?_⟩; replace a1 := zb a1 hb; replace HB := zf hb; have b2 := zM0 a1; have b3 := zM1 a1; have b4 := Z2 a1.out 0; have b5 := Z2 a1.out 1) | ((with_reducible refine zG 50 rfl ?_); refine zC (some 12) Tryd.func50 (ZM.calls _ _ a2 a3 true _ (zk (Za a5.out HB.out)) (a6.out) A3.out) ?_; rintro e w9 ⟨rfl, hb⟩; refine ⟨_, rfl, ?_⟩; replace a1 := zb a1 hb; replace HB := zf hb))
  go_ret2
  exact ⟨er, zs⟩
 replace c4 := Bool.eq_false_iff.mpr c4;subst c4;rw [if_neg (show ¬ (false = true) by decide)] at H
 by_cases c10 : a7 > 1024
 ·rw [if_pos c10] at H;have al := dT c10;clear c10;simp only [zk3, zk7] at H;obtain ⟨rfl, rfl⟩ := H;go_enter Tryd.func68, Tryd.ntmps68
  go_wp2_with (first | ((with_reducible refine zD 1 rfl ?_); refine zn (N := 1) (cs := #[.slice a8 a2.length a9, .int .i64 a3]) (t := 64) rfl rfl ?_; intro aa hg w11 hbox hb; have a1 := zA (hbox); have ae := zw hg; replace HB := ze hb; clear hb hbox hg; have av := zM0 a1; have aw := zM1 a1; have ax := Z2 a1.out 0; have ay := Z2 a1.out 1) | ((with_reducible refine zG 76 rfl ?_); refine zC (some 9) Tryd.func76 (Z0u.calls k _ _ a2 a3 a7 _ (zk (Za a5.out HB.out)) (a6.out) A2.out) ?_; rintro e w13 ⟨rfl, hb⟩; refine ⟨_, rfl, ?_⟩; replace a1 := zb a1 hb; replace HB := zf hb; have aA := zM0 a1; have aB := zM1 a1; have aC := Z2 a1.out 0; have aD := Z2 a1.out 1) | ((with_reducible refine zG 50 rfl ?_); refine zC (some 12) Tryd.func50 (ZM.calls _ _ a2 a3 false _ (zk (Za a5.out HB.out)) (a6.out) A3.out) ?_; rintro e w15 ⟨rfl, hb⟩; refine ⟨_, rfl, ?_⟩; replace a1 := zb a1 hb; replace HB := zf hb))
  go_ret2
  exact ⟨er, zs⟩
 rw [if_neg c10] at H;have al := dF c10;clear c10
 by_cases c16 : a7 < (-1074)
 ·rw [if_pos c16] at H;have am := dT c16;clear c16;simp only [zk3, zk7] at H;obtain ⟨rfl, rfl⟩ := H;go_enter Tryd.func68, Tryd.ntmps68
  go_wp2_with (first | ((with_reducible refine zD 1 rfl ?_); refine zn (N := 1) (cs := #[.slice a8 a2.length a9, .int .i64 a3]) (t := 64) rfl rfl ?_; intro aa hg w17 hbox hb; have a1 := zA (hbox); have ae := zw hg; replace HB := ze hb; clear hb hbox hg; have aE := zM0 a1; have aF := zM1 a1; have aG := Z2 a1.out 0; have aH := Z2 a1.out 1) | ((with_reducible refine zG 76 rfl ?_); refine zC (some 9) Tryd.func76 (Z0u.calls k _ _ a2 a3 a7 _ (zk (Za a5.out HB.out)) (a6.out) A2.out) ?_; rintro e w19 ⟨rfl, hb⟩; refine ⟨_, rfl, ?_⟩; replace a1 := zb a1 hb; replace HB := zf hb; have aI := zM0 a1; have aJ := zM1 a1; have aK := Z2 a1.out 0; have aL := Z2 a1.out 1) | ((with_reducible refine zG 50 rfl ?_); refine zC (some 12) Tryd.func50 (ZM.calls _ _ a2 a3 false _ (zk (Za a5.out HB.out)) (a6.out) A3.out) ?_; rintro e w21 ⟨rfl, hb⟩; refine ⟨_, rfl, ?_⟩; replace a1 := zb a1 hb; replace HB := zf hb))
  go_ret2
  exact ⟨er, zs⟩
 rw [if_neg c16] at H;have am := dF c16;clear c16;generalize a4 : mx (wrap64 (a7 - 53)) (-1074) = ad at H;(try rw [a4] at A2);(try rw [a4] at A3);have hji22_ : (if (wrap64 (a7 - 53)) < (-1074) then (-1074) else (wrap64 (a7 - 53))) = ad := a4;obtain ⟨⟨af, ak⟩, b6, H⟩ := zh H;(try dsimp only at H);have ah := zA H;clear H;go_enter Tryd.func68, Tryd.ntmps68
 go_upto_if 29 with (first | ((with_reducible refine zD 1 rfl ?_); refine zn (N := 1) (cs := #[.slice a8 a2.length a9, .int .i64 a3]) (t := 64) rfl rfl ?_; intro aa hg w25 hbox hb; have a1 := zA (hbox); have ae := zw hg; replace HB := ze hb; clear hb hbox hg; have aM := zM0 a1; have aN := zM1 a1; have aO := Z2 a1.out 0; have aP := Z2 a1.out 1) | ((with_reducible refine zG 76 rfl ?_); refine zC (some 9) Tryd.func76 (Z0u.calls k _ _ a2 a3 a7 _ (zk (Za a5.out HB.out)) (a6.out) A2.out) ?_; rintro e w27 ⟨rfl, hb⟩; refine ⟨_, rfl, ?_⟩; replace a1 := zb a1 hb; replace HB := zf hb; have aQ := zM0 a1; have aR := zM1 a1; have aS := Z2 a1.out 0; have aT := Z2 a1.out 1) | ((with_reducible refine zG 50 rfl ?_); refine zC (some 12) Tryd.func50 (ZM.calls _ _ a2 a3 false _ (zk (Za a5.out HB.out)) (a6.out) A3.out) ?_; rintro e w29 ⟨rfl, hb⟩; refine ⟨_, rfl, ?_⟩; replace a1 := zb a1 hb; replace HB := zf hb; have aU := zM0 a1; have aV := zM1 a1; have aW := Z2 a1.out 0; have aX := Z2 a1.out 1) | ((with_reducible refine zG 77 rfl ?_); refine Z1k (some 25) rfl rfl Tryd.func77 (by kernel_rfl) rfl #[.agg #[.slice a8 a2.length a9, .int .i64 a3], .int .i64 ad] rfl (by (try simp only [zkb, zkg, zkh]); first | done | (simp only [a4]; rfl) | rfl | (simp only [zkk, zkf]; rfl)) ?_; (with_reducible refine (Z12.calls k _ _ a2 a3 ad af ak _ ?an ?ao (laid_below hT zs) b6.out).mono ?_); (case an => exact zk (Za a5.out HB.out)); (case ao => exact a6.out); rintro e w31 ⟨rfl, hb⟩; refine ⟨_, rfl, ?_⟩; replace a1 := zb a1 hb; replace HB := zf hb))
 (try simp only [Act.put, zk2, zk8, zk9])
 go_cut [5, 6] (fun v5 v6 wc => ∃ (kq : Nat) (ab : Int) (ac : Int), v5 = .int .i64 ab ∧ v6 = .int .u64 ac ∧ Aside0 (ZJ.j0 kq ab ac ak = some (r1, r2)) ∧ Aside0 (kq ≤ k) ∧ Aside0 (wc.heap[aa]? = some (.cells #[(.slice a8 a2.length a9), .int .i64 a3] 64 (0, 0))) ∧ Aside0 (Below w.heap.size w wc))
 case first =>
  have H := ah.out;clear ah
  by_cases c32 : af = 9007199254740992
  ·rw [if_pos c32] at H;have ag := eT c32;have ap := nF c32;clear c32;(try rw [ag]);have H' := zA H;clear H
   go_wp2
   go_meet
   case rel => exact ⟨_, (wrap64 ((ad) + 1)), (af / 2), (by first | rfl | (simp; done) | (simp only [← a4] <;> (first | rfl | simp)) | (simp [*]; done)), zi, (by first | exact H' | (simp only [a4]; exact H') | (simp only [a4] at H' ⊢; exact H')), zB0, ⟨zu a1⟩, ⟨zs⟩⟩
  rw [if_neg c32] at H;have ag := eF c32;have ap := nT c32;(try rw [ag]);have H' := zA H;clear H
  go_wp2
  go_meet
  case rel => exact ⟨_, (ad), (af), (by first | rfl | (simp; done) | (simp only [← a4] <;> (first | rfl | simp)) | (simp [*]; done)), zi, (by first | exact H' | (simp only [a4]; exact H') | (simp only [a4] at H' ⊢; exact H')), zB0, ⟨zu a1⟩, ⟨zs⟩⟩
 case rest =>
  clear ah;obtain ⟨kq, ab, ac, rfl, rfl, HA, b7, a1, HB⟩ := hcut
  cases kq with
  | zero => exact absurd HA.out (by simp [ZJ.j0])
  | succ b8 =>
   have H := HA.out;clear HA;simp only [ZJ.j0] at H
   by_cases c33 : ac < 4503599627370496
   ·rw [if_pos c33] at H;have aq := dT c33;clear c33;simp only [zk3, zk7] at H;obtain ⟨rfl, rfl⟩ := H
    go_wp2
    go_ret2
    exact ⟨by first | rfl | (simp [errW_none, errW_some] <;> rfl) | (simp only [← a4]; first | rfl | (simp [errW_none, errW_some] <;> rfl)) | (simp [*, errW_none, errW_some] <;> rfl), zs⟩
   rw [if_neg c33] at H;have aq := dF c33;clear c33
   by_cases c34 : ab > 971
   ·rw [if_pos c34] at H;have ar := dT c34;clear c34;simp only [zk3, zk7] at H;obtain ⟨rfl, rfl⟩ := H
    go_wp2
    go_ret2
    exact ⟨by first | rfl | (simp [errW_none, errW_some] <;> rfl) | (simp only [← a4]; first | rfl | (simp [errW_none, errW_some] <;> rfl)) | (simp [*, errW_none, errW_some] <;> rfl), zs⟩
   rw [if_neg c34] at H;have ar := dF c34;clear c34;simp only [zk3, zk7] at H;obtain ⟨rfl, rfl⟩ := H
   go_wp2
   go_ret2
   exact ⟨by first | rfl | (simp [errW_none, errW_some] <;> rfl) | (simp only [← a4]; first | rfl | (simp [errW_none, errW_some] <;> rfl)) | (simp [*, errW_none, errW_some] <;> rfl), zs⟩
end Go.Proofs.YtnjfckadjklmfaaDoor.PAll
