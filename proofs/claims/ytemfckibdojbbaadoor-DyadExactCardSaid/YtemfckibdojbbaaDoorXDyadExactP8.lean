/- Printed functions, merged by a program of this session. -/
import Derived.Test.YtemfckibdojbbaaDoorXDyadExactP0
import Derived.Laws.StructEq
import Derived.Test.YtemfckibdojbbaaDoorXDyadExactSh
namespace Go.Proofs.YtemfckibdojbbaaDoor.PAll
open Go.RowKit Go.Proofs.YtemfckibdojbbaaDoorW.PrintWords Go.Proofs.YtemfckibdojbbaaDoorW.PrintLast Go.Proofs.YtemfckibdojbbaaDoorW.PrintMore Go.Proofs.YtemfckibdojbbaaDoorW.PrintWords.Kd
attribute [local go_sem] max2_int min2_int max_two min_two max_three min_three max_four min_four   -- for this text's walks alone
set_option linter.unusedVariables false
set_option linter.unusedSimpArgs false
attribute [local go_sem] ext135 ext136
def limbs_Sub.l0 : Nat → List Int → List Int → List Int → Int → Int → Int → Option (List Int)
 | 0, _, _, _, _, _, _ => none
 | k + 1, x0, x1, x5, x6, x13, x14 => if x14 < x13 then (if x14 < (x1.length : Int) then (if 0 ≤ x14 then (if x14 < (x0.length : Int) then (if x6 ≤ 1 then (if x14 < (x5.length : Int) then (limbs_Sub.l0 k x0 x1 (x5.set (x14 : Int).toNat (sub64s (rd x0 x14) (rd x1 x14) x6)) (sub64c (rd x0 x14) (rd x1 x14) x6) x13 (wrap64 (x14 + 1))) else (none)) else (none)) else (none)) else (none)) else (if 0 ≤ x14 then (if x14 < (x0.length : Int) then (if x6 ≤ 1 then (if x14 < (x5.length : Int) then (limbs_Sub.l0 k x0 x1 (x5.set (x14 : Int).toNat (sub64s (rd x0 x14) 0 x6)) (sub64c (rd x0 x14) 0 x6) x13 (wrap64 (x14 + 1))) else (none)) else (none)) else (none)) else (none))) else ((limbs_Trim.f k x5).bind fun t217 => (some t217))
def limbs_Sub.f (k : Nat) (l0 : List Int) (l1 : List Int) : Option (List Int) := if 0 ≤ (l0.length : Int) then (if ((l0.length : Int) : Int).toNat ≤ 35184372088832 then (limbs_Sub.l0 k l0 l1 (List.replicate ((l0.length : Int) : Int).toNat 0) 0 (l0.length : Int) 0) else (none)) else (none)
theorem limbs_Sub.mono_l : ∀ k, (∀ y0 y1 y2 y3 y4 y5, LeO (limbs_Sub.l0 k y0 y1 y2 y3 y4 y5) (limbs_Sub.l0 (k + 1) y0 y1 y2 y3 y4 y5))
 | 0 => fun _ _ _ _ _ _ r h => by simp [limbs_Sub.l0] at h
 | k + 1 => by
  have ih0 := limbs_Sub.mono_l k
  intro y0 y1 y2 y3 y4 y5
  unfold limbs_Sub.l0
  repeat' first
  | (with_reducible exact ih0 _ _ _ _ _ _)
  | (with_reducible exact limbs_Trim.mono _ _)
  | (with_reducible exact LeO.refl _)
  | (with_reducible exact LeO.none _)
  | (with_reducible refine LeO.ite ?_ ?_)
  | (with_reducible refine LeO.bind ?_ (fun _ => ?_))
  | exact ih0 _ _ _ _ _ _
  | exact limbs_Trim.mono _ _
  | exact LeO.none _
  | refine LeO.ite ?_ ?_
  | refine LeO.bind ?_ (fun _ => ?_)
theorem limbs_Sub.mono : ∀ a0 a1 k, LeO (limbs_Sub.f k a0 a1) (limbs_Sub.f (k + 1) a0 a1) := by
 intro a0 a1 k
 have ih0 := limbs_Sub.mono_l k
 unfold limbs_Sub.f
 repeat' first
   | (with_reducible exact ih0 _ _ _ _ _ _)
   | (with_reducible exact limbs_Trim.mono _ _)
   | (with_reducible exact LeO.refl _)
   | (with_reducible exact LeO.none _)
   | (with_reducible refine LeO.ite ?_ ?_)
   | (with_reducible refine LeO.bind ?_ (fun _ => ?_))
   | exact ih0 _ _ _ _ _ _
   | exact limbs_Trim.mono _ _
   | exact LeO.none _
   | refine LeO.ite ?_ ?_
   | refine LeO.bind ?_ (fun _ => ?_)
set_option maxHeartbeats 8000000 in
set_option maxRecDepth 100000 in
theorem limbs_Sub.calls (k : Nat) (A0 : Option Addr) (c0 : Nat) (l0 : List Int) (A1 : Option Addr) (c1 : Nat) (l1 : List Int) (r : List Int) (w : World) (hr0 : Kd.C (Kd.int .u64) w A0 l0.length l0) (hc0 : l0.length ≤ c0) (hr1 : Kd.C (Kd.int .u64) w A1 l1.length l1) (hc1 : l1.length ≤ c1) (h : limbs_Sub.f k l0 l1 = some r) :
  Calls Tryd.prog 115 #[.slice A0 l0.length c0, .slice A1 l1.length c1] w fun e w' => ∃ v0_ : Value, e = .returned (v0_) ∧ Kd.V (Kd.int .u64) 43 w' w.heap.size (fun k_ => (w.heap.size ≤ k_)) v0_ r ∧ Below w.heap.size w w' := by
 have HR0 := zA hr0
 have HC0 := zA hc0
 clear hr0 hc0
 have HR1 := zA hr1
 have HC1 := zA hc1
 clear hr1 hc1
 have HB := zA (Below.refl w.heap.size w)
 have H : (if 0 ≤ (l0.length : Int) then (if ((l0.length : Int) : Int).toNat ≤ 35184372088832 then (limbs_Sub.l0 k l0 l1 (List.replicate ((l0.length : Int) : Int).toNat 0) 0 (l0.length : Int) 0) else (none)) else (none)) = some r := h
 clear h
 replace H := dn H
 obtain ⟨c3, H⟩ := H
 have c3b0 := eq_true c3
 have c3b1 := decide_eq_true c3
 clear c3
 replace H := dn H
 obtain ⟨c4, H⟩ := H
 have c4b0 := eq_true c4
 have c4b1 := decide_eq_true c4
 clear c4
 obtain ⟨y209, hy209⟩ : ∃ y_ : List Int, y_ = (List.replicate ((l0.length : Int) : Int).toNat 0) := ⟨_, rfl⟩
 replace H : (limbs_Sub.l0 k l0 l1 y209 0 (l0.length : Int) 0) = some r := zR hy209 H
 have Ny209 := zA hy209
 clear hy209
 have H' := zA H
 clear H
 go_enter Tryd.func115, Tryd.ntmps115
 go_wp2_with (first | ((with_reducible refine zD 11 rfl ?_); refine R_make (Kd.int .u64) _ 43 rfl (N := 11) rfl 22 _ _ rfl (l0.length : Int) rfl rfl Tryd.underlying22 (.int .u64 0) 8 info43 rfl (by decide) (by omega) 0 (ok := fun _ => True) (okp := fun _ => True) rfl (fun _ hk => hk) trivial (od) (Nat.le_trans (Nat.mul_le_mul_right _ (od : (l0.length : Int).toNat ≤ 35184372088832)) (by omega)) (Below.refl _ _) (Nat.le_refl _) ?_; intro v210 w5 ho6 hb hg_ hnew_; clear hg_ hnew_; (first | rw [← Ny209.out] at ho6 | (simp only [Int.reduceToNat] at ho6; rw [← Ny209.out] at ho6)); have HO211 := zA (R_lower (R_newM (M := fun k_ => (w.heap.size ≤ k_)) ho6 (below_size bq) (fun k_ h_ => h_)) (below_size bq)); replace HB := ze hb; clear hb ho6))
 go_loopg [6, 14] k (fun kq v6 v14 w' => ∃ (x5_1 : List Int) (x6_1 : Int) (x14_1 : Int), v6 = .int .u64 x6_1 ∧ v14 = .int .i64 x14_1 ∧ Aside0 (limbs_Sub.l0 kq l0 l1 x5_1 x6_1 (l0.length : Int) x14_1 = some r) ∧ Aside0 (kq ≤ k) ∧ Aside0 (Kd.R (Kd.int .u64) 43 w' w.heap.size (fun k_ => (w.heap.size ≤ k_)) v210 x5_1) ∧ Aside0 (Below w.heap.size w w'))
 case atStart => exact ⟨(y209), (0), (0), zi, zi, H', ⟨Nat.le_refl _⟩, ⟨ru (R_mono HO211.out (fun _ hk => hk.1))⟩, ⟨bq⟩⟩
 case round =>
  clear H'
  try clear c1
  try clear c3
  try clear c3b0
  try clear c3b1
  try clear c4
  try clear c4b0
  try clear c4b1
  obtain ⟨x5_1, x6_1, x14_1, rfl, rfl, HA, HK1, HO_5, HB⟩ := hrel
  cases gk with
  | zero => exact absurd HA.out (by simp [limbs_Sub.l0])
  | succ k1 =>
   have H := HA.out
   clear HA
   simp only [limbs_Sub.l0] at H
   by_cases c7 : x14_1 < (l0.length : Int)
   ·rw [if_pos c7] at H
    have c7b0 := decide_eq_true c7
    clear c7
    by_cases c8 : x14_1 < (l1.length : Int)
    ·rw [if_pos c8] at H
     have c8b0 := decide_eq_true c8
     clear c8
     replace H := dn H
     obtain ⟨c9, H⟩ := H
     have c9b0 := decide_eq_true c9
     clear c9
     replace H := dn H
     obtain ⟨c10, H⟩ := H
     have c10b0 := decide_eq_true c10
     clear c10
     replace H := dn H
     obtain ⟨c11, H⟩ := H
     have c11b0 := eq_true c11
     have c11b1 := decide_eq_true c11
     clear c11
     replace H := dn H
     obtain ⟨c12, H⟩ := H
     have c12b0 := decide_eq_true c12
     clear c12
     obtain ⟨y214, hy214⟩ : ∃ y_ : List Int, y_ = (x5_1.set (x14_1 : Int).toNat (sub64s (rd l0 x14_1) (rd l1 x14_1) x6_1)) := ⟨_, rfl⟩
     replace H : (limbs_Sub.l0 k1 l0 l1 y214 (sub64c (rd l0 x14_1) (rd l1 x14_1) x6_1) (l0.length : Int) (wrap64 (x14_1 + 1))) = some r := zR hy214 H
     have Ny214 := zA hy214
     clear hy214
     have H' := zA H
     clear H
     have p212 : 0 ≤ (x14_1 : Int) := od
     have q212 : x14_1 < (l1.length : Int) := od
     obtain ⟨ad212, e212, hx212_0⟩ := Kd.at_int HR1.out x14_1 p212 q212
     cases e212
     replace hx212_0 := (HB.out.cell (World.block_lt_of_cell? w _ hx212_0)).trans hx212_0
     replace p212 := eq_true p212
     replace q212 := eq_true q212
     have p213 : 0 ≤ (x14_1 : Int) := od
     have q213 : x14_1 < (l0.length : Int) := od
     obtain ⟨ad213, e213, hx213_0⟩ := Kd.at_int HR0.out x14_1 p213 q213
     cases e213
     replace hx213_0 := (HB.out.cell (World.block_lt_of_cell? w _ hx213_0)).trans hx213_0
     replace p213 := eq_true p213
     replace q213 := eq_true q213
     have p13 : 0 ≤ (x14_1 : Int) := od
     have q13 : (x14_1 : Int) < ((x5_1.length : Int) : Int) := od
     obtain ⟨go13, co13, eo13, gb13, gl13, cl13, HG13⟩ := R_form HO_5.out (by omega)
     (first | cases eo13 | (injection eo13 with ea_ en_ ec_; (first | subst ea_ | (injection ea_ with ea_; subst ea_)); subst ec_; clear en_))
     have GB13 := zA gb13
     have GG13 := zA HG13
     clear gb13 gl13 HG13
     obtain ⟨hx13_0, hf13_0⟩ := R_celln 0 HO_5.out (x14_1 : Int) p13 q13
     replace p13 := eq_true p13
     replace q13 := eq_true q13
     have HP14 := R_putg HO_5.out (x14_1 : Int) (sub64s (rd l0 x14_1) (rd l1 x14_1) x6_1)
     go_wp2_with (first | ((with_reducible refine gate_store (t := 43) (p := 37) rfl ?_); refine store_event (t := 43) (p := 37) (v := ?vo_w15) (w1 := (wr.setCell ⟨go13, (x14_1 : Int).toNat, none⟩ (.int .u64 (sub64s (rd l0 x14_1) (rd l1 x14_1) x6_1)))) ?hg ?ho ?hn ?hr ?_; (case ho => rfl); (case hg => rfl); (case hn => rfl); (case hr => first | (go_simp; done) | (go_simp; rfl)); intro w15 hw; have hg : wr.grownBy w15 (some go13) := (by rw [hw]; exact HP14.2); have hp_ : Kd.R (Kd.int .u64) 43 w15 w.heap.size (fun k_ => (w.heap.size ≤ k_)) (.slice (some ⟨go13, 0, none⟩) x5_1.length co13) y214 := (by rw [hw, Ny214.out]; exact HP14.1); clear HP14; replace HO_5 := zA (hp_); replace HB := zA ((by rw [hw]; exact below_set (HB.out) GB13.out : Below w.heap.size w w15)); clear hg hw hp_))
     go_roundg k1
     case measure => have := HK1.out; omega
     case rel => exact ⟨(y214), (sub64c (rd l0 x14_1) (rd l1 x14_1) x6_1), (wrap64 (x14_1 + 1)), zi, zi, H', ⟨by have := HK1.out; omega⟩, ⟨ru HO_5.out⟩, ⟨bq⟩⟩
    rw [if_neg c8] at H
    have c8b0 := decide_eq_false c8
    clear c8
    replace H := dn H
    obtain ⟨c16, H⟩ := H
    have c16b0 := decide_eq_true c16
    clear c16
    replace H := dn H
    obtain ⟨c17, H⟩ := H
    have c17b0 := decide_eq_true c17
    clear c17
    replace H := dn H
    obtain ⟨c18, H⟩ := H
    have c18b0 := eq_true c18
    have c18b1 := decide_eq_true c18
    clear c18
    replace H := dn H
    obtain ⟨c19, H⟩ := H
    have c19b0 := decide_eq_true c19
    clear c19
    obtain ⟨y216, hy216⟩ : ∃ y_ : List Int, y_ = (x5_1.set (x14_1 : Int).toNat (sub64s (rd l0 x14_1) 0 x6_1)) := ⟨_, rfl⟩
    replace H : (limbs_Sub.l0 k1 l0 l1 y216 (sub64c (rd l0 x14_1) 0 x6_1) (l0.length : Int) (wrap64 (x14_1 + 1))) = some r := zR hy216 H
    have Ny216 := zA hy216
    clear hy216
    have H' := zA H
    clear H
    have p215 : 0 ≤ (x14_1 : Int) := od
    have q215 : x14_1 < (l0.length : Int) := od
    obtain ⟨ad215, e215, hx215_0⟩ := Kd.at_int HR0.out x14_1 p215 q215
    cases e215
    replace hx215_0 := (HB.out.cell (World.block_lt_of_cell? w _ hx215_0)).trans hx215_0
    replace p215 := eq_true p215
    replace q215 := eq_true q215
    have p20 : 0 ≤ (x14_1 : Int) := od
    have q20 : (x14_1 : Int) < ((x5_1.length : Int) : Int) := od
    obtain ⟨go20, co20, eo20, gb20, gl20, cl20, HG20⟩ := R_form HO_5.out (by omega)
    (first | cases eo20 | (injection eo20 with ea_ en_ ec_; (first | subst ea_ | (injection ea_ with ea_; subst ea_)); subst ec_; clear en_))
    have GB20 := zA gb20
    have GG20 := zA HG20
    clear gb20 gl20 HG20
    obtain ⟨hx20_0, hf20_0⟩ := R_celln 0 HO_5.out (x14_1 : Int) p20 q20
    replace p20 := eq_true p20
    replace q20 := eq_true q20
    have HP21 := R_putg HO_5.out (x14_1 : Int) (sub64s (rd l0 x14_1) 0 x6_1)
    go_wp2_with (first | ((with_reducible refine gate_store (t := 43) (p := 37) rfl ?_); refine store_event (t := 43) (p := 37) (v := ?vo_w22) (w1 := (wr.setCell ⟨go20, (x14_1 : Int).toNat, none⟩ (.int .u64 (sub64s (rd l0 x14_1) 0 x6_1)))) ?hg ?ho ?hn ?hr ?_; (case ho => rfl); (case hg => rfl); (case hn => rfl); (case hr => first | (go_simp; done) | (go_simp; rfl)); intro w22 hw; have hg : wr.grownBy w22 (some go20) := (by rw [hw]; exact HP21.2); have hp_ : Kd.R (Kd.int .u64) 43 w22 w.heap.size (fun k_ => (w.heap.size ≤ k_)) (.slice (some ⟨go20, 0, none⟩) x5_1.length co20) y216 := (by rw [hw, Ny216.out]; exact HP21.1); clear HP21; replace HO_5 := zA (hp_); replace HB := zA ((by rw [hw]; exact below_set (HB.out) GB20.out : Below w.heap.size w w22)); clear hg hw hp_))
    go_roundg k1
    case measure => have := HK1.out; omega
    case rel => exact ⟨(y216), (sub64c (rd l0 x14_1) 0 x6_1), (wrap64 (x14_1 + 1)), zi, zi, H', ⟨by have := HK1.out; omega⟩, ⟨ru HO_5.out⟩, ⟨bq⟩⟩
   rw [if_neg c7] at H
   have c7b0 := decide_eq_false c7
   clear c7
   obtain ⟨t217, A23, H⟩ := zh H
   obtain rfl := Option.some.inj H
   obtain ⟨Ao24, co24, eo24⟩ := R_slice HO_5.out
   subst eo24
   go_wp2_with (first | ((with_reducible refine zG 122 rfl ?_); refine zL (some 40) rfl rfl Tryd.func122 #[.slice Ao24 x5_1.length co24] rfl ?_; (with_reducible refine (limbs_Trim.calls k1 (fun k_ => some k_ = (.slice Ao24 x5_1.length co24 : Value).ownBlock) _ _ x5_1 t217 _ ?side1 A23.out).mono ?_); (case side1 => exact R_V (R_tight rfl (HO_5.out))); rintro e w25 ⟨v218, rfl, ho0, hb⟩; refine ⟨_, rfl, ?_⟩; have HO219 := zA (V_lower (V_mono (ok' := fun k_ => (w.heap.size ≤ k_)) ho0 (fun k_ hk_ => Or.elim hk_ (fun hs_ => ((HO_5.out).1 k_ hs_.symm)) (fun hn_ => (Nat.le_trans (below_size bq) hn_)))) (below_size bq)); replace HO_5 := zA (R_below (ru HO_5.out) hb); replace HB := ze hb; (try clear ho0)))
   go_ret
   exact ⟨_, er, vu HO219.out, bq⟩
end Go.Proofs.YtemfckibdojbbaaDoor.PAll
