/- Printed functions, merged by a program of this session. -/
import Derived.Test.YtemfckibdojbbaaDoorXDyadPartsP0
import Derived.Test.YtemfckibdojbbaaDoorXDyadPartsP1
import Derived.Test.YtemfckibdojbbaaDoorXDyadPartsP2
import Derived.Test.YtemfckibdojbbaaDoorXDyadPartsP3
import Derived.Test.YtemfckibdojbbaaDoorXDyadPartsP6
import Derived.Laws.StructEq
import Derived.Test.YtemfckibdojbbaaDoorXDyadPartsSh
namespace Go.Proofs.YtemfckibdojbbaaDoor.PAll
open Go.RowKit Go.Proofs.YtemfckibdojbbaaDoorW.PrintWords Go.Proofs.YtemfckibdojbbaaDoorW.PrintLast Go.Proofs.YtemfckibdojbbaaDoorW.PrintMore Go.Proofs.YtemfckibdojbbaaDoorW.PrintWords.Kd
attribute [local go_sem] max2_int min2_int max_two min_two max_three min_three max_four min_four   -- for this text's walks alone
set_option linter.unusedVariables false
set_option linter.unusedSimpArgs false
attribute [local go_sem] ext135 ext136
def raw_Floor.j0 : Nat → List Int → Bool → Bool → List Int → Int → Option (Bool × List Int × Int)
 | 0, _, _, _, _, _ => none
 | k + 1, x3, x24, x1220000, x1220001, x1220002 => if x24 = true then ((limbs_Of.f 1).bind fun t1230 => ((limbs_Add.f k x3 t1230).bind fun t1233 => ((raw_Form.f k x1220000 t1233 0).bind fun bt1236 => (some (bt1236.1, bt1236.2.1, bt1236.2.2))))) else ((raw_Form.f k x1220000 x3 0).bind fun bt1241 => (some (bt1241.1, bt1241.2.1, bt1241.2.2)))
def raw_Floor.f (k : Nat) (a0_0 : Bool) (l0_1 : List Int) (a0_2 : Int) : Option (Bool × List Int × Int) := (raw_One.f k a0_0 l0_1 a0_2).bind fun bt1221 => (if bt1221.2.2 ≥ 0 then (some (bt1221.1, bt1221.2.1, bt1221.2.2)) else ((limbs_Shr.f k bt1221.2.1 (wrap64 (-bt1221.2.2))).bind fun bt1226 => (if bt1226.2 = true then (raw_Floor.j0 k bt1226.1 bt1221.1 bt1221.1 bt1221.2.1 bt1221.2.2) else (raw_Floor.j0 k bt1226.1 false bt1221.1 bt1221.2.1 bt1221.2.2))))
set_option maxHeartbeats 8000000 in
set_option maxRecDepth 100000 in
theorem raw_Floor.calls (k : Nat) (a0_0 : Bool) (P0_1_ : Nat → Prop) (A0_1 : Option Addr) (c0_1 : Nat) (l0_1 : List Int) (a0_2 : Int) (r1 : Bool) (r2 : List Int) (r3 : Int) (w : World) (hs0_1 : Kd.V (Kd.int .u64) 43 w w.heap.size (fun k_ => P0_1_ k_) (.slice A0_1 l0_1.length c0_1) l0_1) (hT : Laid w) (h : raw_Floor.f k a0_0 l0_1 a0_2 = some (r1, r2, r3)) :
  Calls Tryd.prog 100 #[.agg #[.bool a0_0, .slice A0_1 l0_1.length c0_1, .int .i64 a0_2]] w fun e w' => ∃ v1_ : Value, e = .returned (.agg #[.bool r1, v1_, .int .i64 r3]) ∧ Kd.V (Kd.int .u64) 43 w' w.heap.size (fun k_ => (P0_1_ k_ ∨ w.heap.size ≤ k_)) v1_ r2 ∧ Below w.heap.size w w' := by
 have hu25 := Tryd.underlying25
 have HO0_1 := zA (show Kd.V (Kd.int .u64) 43 w w.heap.size (fun k_ => (P0_1_ k_ ∨ w.heap.size ≤ k_)) (.slice A0_1 l0_1.length c0_1) l0_1 from V_mono hs0_1 (fun k_ hk => .inl hk))
 have HB := zA (Below.refl w.heap.size w)
 have H : ((raw_One.f k a0_0 l0_1 a0_2).bind fun bt1221 => (if bt1221.2.2 ≥ 0 then (some (bt1221.1, bt1221.2.1, bt1221.2.2)) else ((limbs_Shr.f k bt1221.2.1 (wrap64 (-bt1221.2.2))).bind fun bt1226 => (if bt1226.2 = true then (raw_Floor.j0 k bt1226.1 bt1221.1 bt1221.1 bt1221.2.1 bt1221.2.2) else (raw_Floor.j0 k bt1226.1 false bt1221.1 bt1221.2.1 bt1221.2.2))))) = some (r1, r2, r3) := h
 clear h
 obtain ⟨⟨t1221, t1222, t1225⟩, A2, H⟩ := zh H
 (try dsimp only at H)
 by_cases c3 : t1225 ≥ 0
 ·rw [if_pos c3] at H
  have c3b0 := decide_eq_true c3
  clear c3
  simp only [Option.some.injEq, Prod.mk.injEq] at H
  obtain ⟨rfl, rfl, rfl⟩ := H
  go_enter Tryd.func100, Tryd.ntmps100
  go_wp2_with (first | ((with_reducible refine zD 1 rfl ?_); refine zn (N := 1) (cs := #[.bool a0_0, .slice A0_1 l0_1.length c0_1, .int .i64 a0_2]) (t := 25) rfl rfl ?_; intro gb1219 hg w4 hbox hb; replace HO0_1 := zA (V_below (V_elderB (vu HO0_1.out) gb1219 (Nat.le_of_eq hg.symm)) hb); have BK1219 := zA (hbox); have GW1219 := zw hg; replace HB := ze hb; clear hb hbox hg) | ((with_reducible refine zD 2 rfl ?_); refine zn (N := 2) (cs := #[.bool false, .slice none 0 0, .int .i64 0]) (t := 25) rfl rfl ?_; intro gb1220 hg w5 hbox hb; replace HO0_1 := zA (V_below (V_elderB (vu HO0_1.out) gb1220 (Nat.le_of_eq hg.symm)) hb); have BK1220 := zA (hbox); have GW1220 := zx hg; replace HB := zf hb; have NB1219_1220 := zl BK1219 hg; have NB1220_1219 := zg BK1219 hg; replace BK1219 := zb BK1219 hb; clear hb hbox hg; have hnb6 := NB1219_1220.out; have hnc6 := NB1220_1219.out; obtain ⟨_, _, _, _, _, _⟩ := zc BK1219) | ((with_reducible refine zG 95 rfl ?_); refine zL (some 6) rfl rfl Tryd.func95 #[.agg #[.bool a0_0, .slice A0_1 l0_1.length c0_1, .int .i64 a0_2]] rfl ?_; (with_reducible refine (raw_One.calls k a0_0 (fun k_ => (((P0_1_ k_ ∨ w.heap.size ≤ k_) ∧ k_ ≠ gb1219) ∧ k_ ≠ gb1220)) _ _ l0_1 a0_2 t1221 t1222 t1225 _ ?side1 (laid_below hT zs) A2.out).mono ?_); (case side1 => exact HO0_1.out); rintro e w8 ⟨v1223, rfl, ho0, hb⟩; refine ⟨_, rfl, ?_⟩; replace HO0_1 := zA (V_below (vu HO0_1.out) hb); have HO1224 := zA (V_lower (V_mono (ok' := fun k_ => (P0_1_ k_ ∨ w.heap.size ≤ k_) ∧ k_ ≠ gb1219 ∧ k_ ≠ gb1220) ho0 (fun k_ hk_ => ⟨Or.elim hk_ (fun hs_ => hs_.1.1) (fun hn_ => (.inr (Nat.le_trans (below_size zs) hn_))), Or.elim hk_ (fun hs_ => hs_.1.2) (fun hn_ => (zj BK1219 k_ hn_)), Or.elim hk_ (fun hs_ => hs_.2) (fun hn_ => (zj BK1220 k_ hn_))⟩)) (below_size zs)); replace BK1219 := zb BK1219 hb; replace BK1220 := zb BK1220 hb; replace HB := zf hb; (try clear ho0); obtain ⟨hcz9_0, hcz9_1, hcz9_2, hfz9_0, hfz9_1, hfz9_2⟩ := zc BK1219; obtain ⟨Ao10, co10, eo10⟩ := V_slice HO1224.out; subst eo10; obtain ⟨hcz11_0, hcz11_1, hcz11_2, hfz11_0, hfz11_1, hfz11_2⟩ := zc BK1220))
  refine bodyPost_ret (results_cell_row rfl _ _ gb1220 25 #[.bool t1221, .slice Ao10 t1222.length co10, .int .i64 t1225] (0, 0) _ rfl (by (with_reducible repeat (first | refine blk_drewN ?_ _ | refine blk_drew ?_ | refine blk_alloc ?_ _)); refine blk_put (cs := #[.bool t1221, .slice Ao10 t1222.length co10, .int .i64 0]) ?_ 2 _ rfl; refine blk_put (cs := #[.bool t1221, .slice none 0 0, .int .i64 0]) ?_ 1 _ rfl; refine blk_put (cs := #[.bool false, .slice none 0 0, .int .i64 0]) ?_ 0 _ rfl; refine blk_far ?_ NB1220_1219.out _; refine blk_far ?_ NB1220_1219.out _; refine blk_far ?_ NB1220_1219.out _; exact BK1220.out) Tryd.underlying25 rfl (by kernel_rfl)) rfl ?_
  exact ⟨_, er, vu (V_mono (V_far (p := ⟨gb1220, 2, none⟩) (V_far (p := ⟨gb1220, 1, none⟩) (V_far (p := ⟨gb1220, 0, none⟩) (zv gb1219 (V_mono (V_mono HO1224.out (fun k_ hk => (⟨hk, hk.2.1⟩ : _ ∧ k_ ≠ gb1219))) (fun k_ hk => (⟨hk, hk.1.2.2⟩ : _ ∧ k_ ≠ gb1220))) (fun _ hk => hk.1.2) _ _ _) (fun _ hk => hk.2) (.bool t1221)) (fun _ hk => hk.2) (.slice Ao10 t1222.length co10)) (fun _ hk => hk.2) (.int .i64 t1225)) (fun _ hk => hk.1.1.1)), zs⟩
 rw [if_neg c3] at H
 have c3b0 := decide_eq_false c3
 clear c3
 obtain ⟨⟨t1226, t1229⟩, A12, H⟩ := zh H
 (try dsimp only at H)
 have HC13 := zA H
 clear H
 go_enter Tryd.func100, Tryd.ntmps100
 go_upto_region 5 with (first | ((with_reducible refine zD 1 rfl ?_); refine zn (N := 1) (cs := #[.bool a0_0, .slice A0_1 l0_1.length c0_1, .int .i64 a0_2]) (t := 25) rfl rfl ?_; intro gb1219 hg w14 hbox hb; replace HO0_1 := zA (V_below (V_elderB (vu HO0_1.out) gb1219 (Nat.le_of_eq hg.symm)) hb); have BK1219 := zA (hbox); have GW1219 := zw hg; replace HB := ze hb; clear hb hbox hg) | ((with_reducible refine zD 2 rfl ?_); refine zn (N := 2) (cs := #[.bool false, .slice none 0 0, .int .i64 0]) (t := 25) rfl rfl ?_; intro gb1220 hg w15 hbox hb; replace HO0_1 := zA (V_below (V_elderB (vu HO0_1.out) gb1220 (Nat.le_of_eq hg.symm)) hb); have BK1220 := zA (hbox); have GW1220 := zx hg; replace HB := zf hb; have NB1219_1220 := zl BK1219 hg; have NB1220_1219 := zg BK1219 hg; replace BK1219 := zb BK1219 hb; clear hb hbox hg; have hnb16 := NB1219_1220.out; have hnc16 := NB1220_1219.out; obtain ⟨_, _, _, _, _, _⟩ := zc BK1219) | ((with_reducible refine zG 95 rfl ?_); refine zL (some 6) rfl rfl Tryd.func95 #[.agg #[.bool a0_0, .slice A0_1 l0_1.length c0_1, .int .i64 a0_2]] rfl ?_; (with_reducible refine (raw_One.calls k a0_0 (fun k_ => (((P0_1_ k_ ∨ w.heap.size ≤ k_) ∧ k_ ≠ gb1219) ∧ k_ ≠ gb1220)) _ _ l0_1 a0_2 t1221 t1222 t1225 _ ?side1 (laid_below hT zs) A2.out).mono ?_); (case side1 => exact HO0_1.out); rintro e w18 ⟨v1223, rfl, ho0, hb⟩; refine ⟨_, rfl, ?_⟩; replace HO0_1 := zA (V_below (vu HO0_1.out) hb); have HO1224 := zA (V_lower (V_mono (ok' := fun k_ => (P0_1_ k_ ∨ w.heap.size ≤ k_) ∧ k_ ≠ gb1219 ∧ k_ ≠ gb1220) ho0 (fun k_ hk_ => ⟨Or.elim hk_ (fun hs_ => hs_.1.1) (fun hn_ => (.inr (Nat.le_trans (below_size zs) hn_))), Or.elim hk_ (fun hs_ => hs_.1.2) (fun hn_ => (zj BK1219 k_ hn_)), Or.elim hk_ (fun hs_ => hs_.2) (fun hn_ => (zj BK1220 k_ hn_))⟩)) (below_size zs)); replace BK1219 := zb BK1219 hb; replace BK1220 := zb BK1220 hb; replace HB := zf hb; (try clear ho0); obtain ⟨hcz19_0, hcz19_1, hcz19_2, hfz19_0, hfz19_1, hfz19_2⟩ := zc BK1219; obtain ⟨Ao20, co20, eo20⟩ := V_slice HO1224.out; subst eo20) | ((with_reducible refine gate_store (t := 25) (p := 1) rfl ?_); refine store_event (t := 25) (p := 1) (v := ?vo_w21) (w1 := (((w18.setCell ⟨gb1219, 0, none⟩ (.bool t1221)).setCell ⟨gb1219, 1, none⟩ (.slice Ao20 t1222.length co20)).setCell ⟨gb1219, 2, none⟩ (.int .i64 t1225))) ?hg ?ho ?hn ?hr ?_; (case ho => rfl); (case hg => rfl); (case hn => rfl); (case hr => first | (go_simp; done) | (go_simp; rfl)); intro w21 hw; have n0_ : Aside0 (Kd.V (Kd.int .u64) 43 w21 w.heap.size (fun k_ => (P0_1_ k_ ∨ w.heap.size ≤ k_) ∧ k_ ≠ gb1219 ∧ k_ ≠ gb1220) (.slice A0_1 l0_1.length c0_1) l0_1) := ⟨(by rw [hw]; exact (vu (V_mono (zv gb1219 (V_mono HO0_1.out (fun k_ hk => (⟨hk, hk.1.2⟩ : _ ∧ k_ ≠ gb1219))) (fun _ hk => hk.2) _ _ _) (fun _ hk => ⟨hk.1.1.1, ⟨hk.1.1.2, hk.1.2⟩⟩))))⟩; have n1_ : Aside0 (Kd.V (Kd.int .u64) 43 w21 w.heap.size (fun k_ => (P0_1_ k_ ∨ w.heap.size ≤ k_) ∧ k_ ≠ gb1219 ∧ k_ ≠ gb1220) (.slice Ao20 t1222.length co20) t1222) := ⟨(by rw [hw]; exact (vu (V_mono (zv gb1219 (V_mono HO1224.out (fun k_ hk => (⟨hk, hk.2.1⟩ : _ ∧ k_ ≠ gb1219))) (fun _ hk => hk.2) _ _ _) (fun _ hk => ⟨hk.1.1, ⟨hk.1.2.1, hk.1.2.2⟩⟩))))⟩; have n2_ : Aside0 (w21.heap[gb1219]? = some (.cells #[.bool t1221, .slice Ao20 t1222.length co20, .int .i64 t1225] 25 (0, 0))) := ⟨(by rw [hw]; exact (zy BK1219))⟩; have n3_ : Aside0 (w21.heap[gb1220]? = some (.cells #[.bool false, .slice none 0 0, .int .i64 0] 25 (0, 0))) := ⟨(by rw [hw]; exact (zE BK1220))⟩; have n4_ : Aside0 (Below w.heap.size w w21) := ⟨(by rw [hw]; exact zs)⟩; clear hw; clear HO0_1; clear HO1224; clear BK1219; clear BK1220; clear HB; have HO0_1 := n0_; have HO1224 := n1_; have BK1219 := n2_; have BK1220 := n3_; have HB := n4_; clear n0_ n1_ n2_ n3_ n4_; obtain ⟨hcz22_0, hcz22_1, hcz22_2, hfz22_0, hfz22_1, hfz22_2⟩ := zc BK1219) | ((with_reducible refine zG 116 rfl ?_); refine zL (some 17) rfl rfl Tryd.func116 #[.slice Ao20 t1222.length co20, .int .i64 (wrap64 (-t1225))] rfl ?_; (with_reducible refine (limbs_Shr.calls k (fun k_ => ((P0_1_ k_ ∨ w.heap.size ≤ k_) ∧ (k_ ≠ gb1219 ∧ k_ ≠ gb1220))) _ _ t1222 (wrap64 (-t1225)) t1226 t1229 _ ?side1 (laid_below hT zs) A12.out).mono ?_); (case side1 => exact HO1224.out); rintro e w23 ⟨v1227, rfl, ho0, hb⟩; refine ⟨_, rfl, ?_⟩; replace HO0_1 := zA (V_below (vu HO0_1.out) hb); replace HO1224 := zA (V_below (vu HO1224.out) hb); have HO1228 := zA (V_lower (V_mono (ok' := fun k_ => (P0_1_ k_ ∨ w.heap.size ≤ k_) ∧ k_ ≠ gb1219 ∧ k_ ≠ gb1220) ho0 (fun k_ hk_ => ⟨Or.elim hk_ (fun hs_ => hs_.1) (fun hn_ => (.inr (Nat.le_trans (below_size zs) hn_))), Or.elim hk_ (fun hs_ => hs_.2.1) (fun hn_ => (zj BK1219 k_ hn_)), Or.elim hk_ (fun hs_ => hs_.2.2) (fun hn_ => (zj BK1220 k_ hn_))⟩)) (below_size zs)); replace BK1219 := zb BK1219 hb; replace BK1220 := zb BK1220 hb; replace HB := zf hb; (try clear ho0)))
 (try simp only [Act.put, List.setIfInBounds_toArray, List.set_cons_zero, List.set_cons_succ])
 go_cut [24] (fun v24 wc => ∃ (kq : Nat) (x24_12 : Bool), v24 = .bool x24_12 ∧ Aside0 (raw_Floor.j0 kq t1226 x24_12 t1221 t1222 t1225 = some (r1, r2, r3)) ∧ Aside0 (kq ≤ k) ∧ Aside0 (Kd.V (Kd.int .u64) 43 wc w.heap.size (fun k_ => (P0_1_ k_ ∨ w.heap.size ≤ k_) ∧ k_ ≠ gb1219 ∧ k_ ≠ gb1220) v1227 t1226) ∧ Aside0 (Kd.V (Kd.int .u64) 43 wc w.heap.size (fun k_ => (P0_1_ k_ ∨ w.heap.size ≤ k_) ∧ k_ ≠ gb1219 ∧ k_ ≠ gb1220) (.slice Ao20 t1222.length co20) t1222) ∧ Aside0 (wc.heap[gb1219]? = some (.cells #[.bool t1221, (.slice Ao20 t1222.length co20), .int .i64 t1225] 25 (0, 0))) ∧ Aside0 (wc.heap[gb1220]? = some (.cells #[.bool false, (.slice none 0 0), .int .i64 0] 25 (0, 0))) ∧ Aside0 (Below w.heap.size w wc))
 case first =>
  have H := HC13.out
  clear HC13
  by_cases c24 : t1229 = true
  ·subst c24
   rw [if_pos rfl] at H
   have H' := zA H
   clear H
   have hnb25 := NB1219_1220.out
   have hnc25 := NB1220_1219.out
   obtain ⟨_, _, _, _, _, _⟩ := zc BK1219
   go_wp2
   go_meet
   case rel => exact ⟨_, (t1221), zi, H', ⟨by first | omega | exact Nat.le_refl _⟩, ⟨vu HO1228.out⟩, ⟨vu HO1224.out⟩, ⟨zu BK1219⟩, ⟨zu BK1220⟩, ⟨zs⟩⟩
  replace c24 := Bool.eq_false_iff.mpr c24
  subst c24
  rw [if_neg (show ¬ (false = true) by decide)] at H
  have H' := zA H
  clear H
  go_wp2
  go_meet
  case rel => exact ⟨_, (false), zi, H', ⟨by first | omega | exact Nat.le_refl _⟩, ⟨vu HO1228.out⟩, ⟨vu HO1224.out⟩, ⟨zu BK1219⟩, ⟨zu BK1220⟩, ⟨zs⟩⟩
 case rest =>
  clear HC13
  try clear c3
  try clear c3b0
  try clear c24
  try clear hcz11_0 hcz11_1 hcz11_2 hfz11_0 hfz11_1 hfz11_2
  try clear hcz19_0 hcz19_1 hcz19_2 hfz19_0 hfz19_1 hfz19_2
  try clear hcz22_0 hcz22_1 hcz22_2 hfz22_0 hfz22_1 hfz22_2
  try clear hcz9_0 hcz9_1 hcz9_2 hfz9_0 hfz9_1 hfz9_2
  obtain ⟨kq, x24_12, rfl, HA, HJ12, HO_3, HO_1220001, BK1219, BK1220, HB⟩ := hcut
  cases kq with
  | zero => exact absurd HA.out (by simp [raw_Floor.j0])
  | succ kj12 =>
   have H := HA.out
   clear HA
   simp only [raw_Floor.j0] at H
   by_cases c27 : x24_12 = true
   ·subst c27
    rw [if_pos rfl] at H
    obtain ⟨t1230, A28, H⟩ := zh H
    obtain ⟨t1233, A29, H⟩ := zh H
    obtain ⟨⟨t1236, t1237, t1240⟩, A30, H⟩ := zh H
    (try dsimp only at H)
    simp only [Option.some.injEq, Prod.mk.injEq] at H
    obtain ⟨rfl, rfl, rfl⟩ := H
    go_wp2_with (first | ((with_reducible refine zG 117 rfl ?_); refine zL (some 26) rfl rfl Tryd.func117 #[.int .u64 1] rfl ?_; (with_reducible refine (limbs_Of.calls 1 t1230 _ A28.out).mono ?_); rintro e w31 ⟨v1231, rfl, ho0, hb⟩; refine ⟨_, rfl, ?_⟩; replace HO_3 := zA (V_elder' (vu HO_3.out) (R_base ho0) hb); replace HO_1220001 := zA (V_elder' (vu HO_1220001.out) (R_base ho0) hb); have HO1232 := zA (R_lower (R_newM (M := fun k_ => (w.heap.size ≤ k_)) ho0 (below_size zs) (fun k_ h_ => h_)) (below_size zs)); replace BK1219 := zb BK1219 hb; replace BK1220 := zb BK1220 hb; replace HB := zf hb; (try clear ho0); obtain ⟨Ao32, co32, eo32⟩ := V_slice HO_3.out; subst eo32; obtain ⟨Ao33, co33, eo33⟩ := R_slice HO1232.out; subst eo33) | ((with_reducible refine zG 113 rfl ?_); refine zL (some 27) rfl rfl Tryd.func113 #[.slice Ao32 t1226.length co32, .slice Ao33 t1230.length co33] rfl ?_; (with_reducible refine (limbs_Add.calls kj12 _ _ t1226 _ _ t1230 t1233 _ ?side1 ?side2 ?side3 ?side4 A29.out).mono ?_); (case side1 => exact zk (V_reads' HO_3.out).2.2); (case side2 => exact (V_reads' HO_3.out).2.1); (case side3 => exact zk (R_reads' HO1232.out).2.2); (case side4 => exact (R_reads' HO1232.out).2.1); rintro e w34 ⟨v1234, rfl, ho0, hb⟩; refine ⟨_, rfl, ?_⟩; replace HO_3 := zA (V_below (vu HO_3.out) hb); replace HO_1220001 := zA (V_below (vu HO_1220001.out) hb); have HO1235 := zA (V_lower (V_mono (ok' := fun k_ => (P0_1_ k_ ∨ w.heap.size ≤ k_) ∧ some k_ ≠ (.slice Ao33 t1230.length co33 : Value).ownBlock ∧ k_ ≠ gb1219 ∧ k_ ≠ gb1220) ho0 (fun k_ hk_ => ⟨(.inr (Nat.le_trans (below_size zs) hk_)), (Kd.fresh' (R_lt (ru HO1232.out)) k_ hk_), (zj BK1219 k_ hk_), (zj BK1220 k_ hk_)⟩)) (below_size zs)); replace HO1232 := zA (R_below (ru HO1232.out) hb); replace BK1219 := zb BK1219 hb; replace BK1220 := zb BK1220 hb; replace HB := zf hb; (try clear ho0); have hnb35 := NB1219_1220.out; have hnc35 := NB1220_1219.out; obtain ⟨hcz36_0, hcz36_1, hcz36_2, hfz36_0, hfz36_1, hfz36_2⟩ := zc BK1219; obtain ⟨Ao37, co37, eo37⟩ := V_slice HO1235.out; subst eo37) | ((with_reducible refine zG 91 rfl ?_); refine zL (some 31) rfl rfl Tryd.func91 #[.bool t1221, .slice Ao37 t1233.length co37, .int .i64 0] rfl ?_; (with_reducible refine (raw_Form.calls kj12 t1221 (fun k_ => ((P0_1_ k_ ∨ w.heap.size ≤ k_) ∧ (some k_ ≠ (.slice Ao33 t1230.length co33 : Value).ownBlock ∧ (k_ ≠ gb1219 ∧ k_ ≠ gb1220)))) _ _ t1233 0 t1236 t1237 t1240 _ ?side1 (laid_below hT zs) A30.out).mono ?_); (case side1 => exact HO1235.out); rintro e w38 ⟨v1238, rfl, ho0, hb⟩; refine ⟨_, rfl, ?_⟩; replace HO_3 := zA (V_below (vu HO_3.out) hb); replace HO_1220001 := zA (V_below (vu HO_1220001.out) hb); replace HO1235 := zA (V_below (vu HO1235.out) hb); have HO1239 := zA (V_lower (V_mono (ok' := fun k_ => (P0_1_ k_ ∨ w.heap.size ≤ k_) ∧ some k_ ≠ (.slice Ao33 t1230.length co33 : Value).ownBlock ∧ k_ ≠ gb1219 ∧ k_ ≠ gb1220) ho0 (fun k_ hk_ => ⟨Or.elim hk_ (fun hs_ => hs_.1) (fun hn_ => (.inr (Nat.le_trans (below_size zs) hn_))), Or.elim hk_ (fun hs_ => hs_.2.1) (fun hn_ => (Kd.fresh' (R_lt (ru HO1232.out)) k_ hn_)), Or.elim hk_ (fun hs_ => hs_.2.2.1) (fun hn_ => (zj BK1219 k_ hn_)), Or.elim hk_ (fun hs_ => hs_.2.2.2) (fun hn_ => (zj BK1220 k_ hn_))⟩)) (below_size zs)); replace HO1232 := zA (R_below (ru HO1232.out) hb); replace BK1219 := zb BK1219 hb; replace BK1220 := zb BK1220 hb; replace HB := zf hb; (try clear ho0); obtain ⟨hcz39_0, hcz39_1, hcz39_2, hfz39_0, hfz39_1, hfz39_2⟩ := zc BK1220; obtain ⟨Ao40, co40, eo40⟩ := V_slice HO1239.out; subst eo40))
    refine bodyPost_ret (results_cell_row rfl _ _ gb1220 25 #[.bool t1236, .slice Ao40 t1237.length co40, .int .i64 t1240] (0, 0) _ rfl (zy BK1220) Tryd.underlying25 rfl (by kernel_rfl)) rfl ?_
    exact ⟨_, er, vu (V_mono (zv gb1220 (V_mono HO1239.out (fun k_ hk => (⟨hk, hk.2.2.2⟩ : _ ∧ k_ ≠ gb1220))) (fun _ hk => hk.2) _ _ _) (fun _ hk => hk.1.1)), zs⟩
   replace c27 := Bool.eq_false_iff.mpr c27
   subst c27
   rw [if_neg (show ¬ (false = true) by decide)] at H
   obtain ⟨⟨t1241, t1242, t1245⟩, A41, H⟩ := zh H
   (try dsimp only at H)
   simp only [Option.some.injEq, Prod.mk.injEq] at H
   obtain ⟨rfl, rfl, rfl⟩ := H
   have hnb42 := NB1219_1220.out
   have hnc42 := NB1220_1219.out
   obtain ⟨_, _, _, _, _, _⟩ := zc BK1219
   obtain ⟨Ao44, co44, eo44⟩ := V_slice HO_3.out
   subst eo44
   go_wp2_with (first | ((with_reducible refine zG 91 rfl ?_); refine zL (some 31) rfl rfl Tryd.func91 #[.bool t1221, .slice Ao44 t1226.length co44, .int .i64 0] rfl ?_; (with_reducible refine (raw_Form.calls kj12 t1221 (fun k_ => ((P0_1_ k_ ∨ w.heap.size ≤ k_) ∧ (k_ ≠ gb1219 ∧ k_ ≠ gb1220))) _ _ t1226 0 t1241 t1242 t1245 _ ?side1 (laid_below hT zs) A41.out).mono ?_); (case side1 => exact HO_3.out); rintro e w45 ⟨v1243, rfl, ho0, hb⟩; refine ⟨_, rfl, ?_⟩; replace HO_3 := zA (V_below (vu HO_3.out) hb); replace HO_1220001 := zA (V_below (vu HO_1220001.out) hb); have HO1244 := zA (V_lower (V_mono (ok' := fun k_ => (P0_1_ k_ ∨ w.heap.size ≤ k_) ∧ k_ ≠ gb1219 ∧ k_ ≠ gb1220) ho0 (fun k_ hk_ => ⟨Or.elim hk_ (fun hs_ => hs_.1) (fun hn_ => (.inr (Nat.le_trans (below_size zs) hn_))), Or.elim hk_ (fun hs_ => hs_.2.1) (fun hn_ => (zj BK1219 k_ hn_)), Or.elim hk_ (fun hs_ => hs_.2.2) (fun hn_ => (zj BK1220 k_ hn_))⟩)) (below_size zs)); replace BK1219 := zb BK1219 hb; replace BK1220 := zb BK1220 hb; replace HB := zf hb; (try clear ho0); obtain ⟨hcz46_0, hcz46_1, hcz46_2, hfz46_0, hfz46_1, hfz46_2⟩ := zc BK1220; obtain ⟨Ao47, co47, eo47⟩ := V_slice HO1244.out; subst eo47))
   refine bodyPost_ret (results_cell_row rfl _ _ gb1220 25 #[.bool t1241, .slice Ao47 t1242.length co47, .int .i64 t1245] (0, 0) _ rfl (zy BK1220) Tryd.underlying25 rfl (by kernel_rfl)) rfl ?_
   exact ⟨_, er, vu (V_mono (zv gb1220 (V_mono HO1244.out (fun k_ hk => (⟨hk, hk.2.2⟩ : _ ∧ k_ ≠ gb1220))) (fun _ hk => hk.2) _ _ _) (fun _ hk => hk.1.1)), zs⟩
end Go.Proofs.YtemfckibdojbbaaDoor.PAll
