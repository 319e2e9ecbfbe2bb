/- Printed functions, merged by a program of this session. -/
import Derived.Test.YtemfckibdojbbaaDoorXDyadSumsP0
import Derived.Test.YtemfckibdojbbaaDoorXDyadSumsP6
import Derived.Test.YtemfckibdojbbaaDoorXDyadSumsP11
import Derived.Test.YtemfckibdojbbaaDoorXDyadSumsP16
import Derived.Test.YtemfckibdojbbaaDoorXDyadSumsP17
import Derived.Test.YtemfckibdojbbaaDoorXDyadSumsP19
import Derived.Test.YtemfckibdojbbaaDoorXDyadSumsP22
import Derived.Laws.StructEq
import Derived.Test.YtemfckibdojbbaaDoorXDyadSumsSh
namespace Go.Proofs.YtemfckibdojbbaaDoor.PAll
open Go.RowKit Go.Proofs.YtemfckibdojbbaaDoorW.PrintWords Go.Proofs.YtemfckibdojbbaaDoorW.PrintLast Go.Proofs.YtemfckibdojbbaaDoorW.PrintMore Go.Proofs.YtemfckibdojbbaaDoorW.PrintWords.Kd
attribute [local go_sem] max2_int min2_int max_two min_two max_three min_three max_four min_four   -- for this text's walks alone
set_option linter.unusedVariables false
set_option linter.unusedSimpArgs false
attribute [local go_sem] ext135 ext136
mutual
def ulplaw04_DyadSums.j0 : Nat → Bool → Bool → List Int → Int → Bool → List Int → Int → Option (Bool)
 | 0, _, _, _, _, _, _, _ => none
 | k + 1, x29, x1552000, x1552001, x1552002, x1553000, x1553001, x1553002 => if x29 = true then (some false) else ((dyad_Sub.f k x1552000 x1552001 x1552002 x1553000 x1553001 x1553002).bind fun bt1568 => ((ulpref04_Sub.f k x1552000 x1552001 x1552002 x1553000 x1553001 x1553002).bind fun bt1574 => ((ulpref04_Same.f k bt1568.1 bt1568.2.1 bt1568.2.2.1 bt1574.1 bt1574.2.1 bt1574.2.2.1).bind fun t1580 => (if t1580 = true then (ulplaw04_DyadSums.j1 k (bt1568.2.2.2 != bt1574.2.2.2) x1552000 x1552001 x1552002 x1553000 x1553001 x1553002) else (ulplaw04_DyadSums.j1 k true x1552000 x1552001 x1552002 x1553000 x1553001 x1553002)))))
def ulplaw04_DyadSums.j1 : Nat → Bool → Bool → List Int → Int → Bool → List Int → Int → Option (Bool)
 | 0, _, _, _, _, _, _, _ => none
 | k + 1, x50, x1552000, x1552001, x1552002, x1553000, x1553001, x1553002 => if x50 = true then (some false) else ((dyad_Mul.f k x1552000 x1552001 x1552002 x1553000 x1553001 x1553002).bind fun bt1581 => ((ulpref04_Mul.f k x1552000 x1552001 x1552002 x1553000 x1553001 x1553002).bind fun bt1587 => ((ulpref04_Same.f k bt1581.1 bt1581.2.1 bt1581.2.2.1 bt1587.1 bt1587.2.1 bt1587.2.2.1).bind fun t1593 => (if t1593 = true then (if bt1581.2.2.2 = bt1587.2.2.2 then ((ulplaw04_begins.f k).bind fun t1594 => (some t1594)) else (some false)) else (some false)))))
end
def ulplaw04_DyadSums.f (k : Nat) (a0_0 : Bool) (l0_1 : List Int) (a0_2 : Int) (a1_0 : Bool) (l1_1 : List Int) (a1_2 : Int) : Option (Bool) := (dyad_Add.f k a0_0 l0_1 a0_2 a1_0 l1_1 a1_2).bind fun bt1553 => ((ulpref04_Add.f k a0_0 l0_1 a0_2 a1_0 l1_1 a1_2).bind fun bt1560 => ((ulpref04_Same.f k bt1553.1 bt1553.2.1 bt1553.2.2.1 bt1560.1 bt1560.2.1 bt1560.2.2.1).bind fun t1567 => (if t1567 = true then (ulplaw04_DyadSums.j0 k (bt1553.2.2.2 != bt1560.2.2.2) a0_0 l0_1 a0_2 a1_0 l1_1 a1_2) else (ulplaw04_DyadSums.j0 k true a0_0 l0_1 a0_2 a1_0 l1_1 a1_2))))
set_option maxHeartbeats 8000000 in
set_option maxRecDepth 100000 in
theorem ulplaw04_DyadSums.calls (k : Nat) (a0_0 : Bool) (A0_1 : Option Addr) (c0_1 : Nat) (l0_1 : List Int) (a0_2 : Int) (a1_0 : Bool) (A1_1 : Option Addr) (c1_1 : Nat) (l1_1 : List Int) (a1_2 : Int) (r : Bool) (w : World) (hr0_1 : Kd.C (Kd.int .u64) w A0_1 l0_1.length l0_1) (hc0_1 : l0_1.length ≤ c0_1) (hr1_1 : Kd.C (Kd.int .u64) w A1_1 l1_1.length l1_1) (hc1_1 : l1_1.length ≤ c1_1) (hT : Laid w) (hr_ : Aside0 (r = true)) (h : ulplaw04_DyadSums.f k a0_0 l0_1 a0_2 a1_0 l1_1 a1_2 = some r) :
  Calls Tryd.prog 12 #[.agg #[.bool a0_0, .slice A0_1 l0_1.length c0_1, .int .i64 a0_2], .agg #[.bool a1_0, .slice A1_1 l1_1.length c1_1, .int .i64 a1_2]] w fun e w' => e = .returned (.bool r) ∧ Below w.heap.size w w' := by
 have hu25 := Tryd.underlying25
 have HR0_1 := zA hr0_1
 have HC0_1 := zA hc0_1
 clear hr0_1 hc0_1
 have HR1_1 := zA hr1_1
 have HC1_1 := zA hc1_1
 clear hr1_1 hc1_1
 have HB := zA (Below.refl w.heap.size w)
 have H : ((dyad_Add.f k a0_0 l0_1 a0_2 a1_0 l1_1 a1_2).bind fun bt1553 => ((ulpref04_Add.f k a0_0 l0_1 a0_2 a1_0 l1_1 a1_2).bind fun bt1560 => ((ulpref04_Same.f k bt1553.1 bt1553.2.1 bt1553.2.2.1 bt1560.1 bt1560.2.1 bt1560.2.2.1).bind fun t1567 => (if t1567 = true then (ulplaw04_DyadSums.j0 k (bt1553.2.2.2 != bt1560.2.2.2) a0_0 l0_1 a0_2 a1_0 l1_1 a1_2) else (ulplaw04_DyadSums.j0 k true a0_0 l0_1 a0_2 a1_0 l1_1 a1_2))))) = some r := h
 clear h
 obtain ⟨⟨t1553, t1554, t1557, t1558⟩, A3, H⟩ := zh H
 (try dsimp only at H)
 obtain ⟨⟨t1560, t1561, t1564, t1565⟩, A4, H⟩ := zh H
 (try dsimp only at H)
 have HC5 := zA H
 clear H
 go_enter Tryd.func12, Tryd.ntmps12
 go_upto_region 3 with (first | ((with_reducible refine zD 2 rfl ?_); refine zn (N := 2) (cs := #[.bool a0_0, .slice A0_1 l0_1.length c0_1, .int .i64 a0_2]) (t := 25) rfl rfl ?_; intro gb1551 hg w6 hbox hb; have BK1551 := zA (hbox); have GW1551 := zw hg; replace HB := ze hb; clear hb hbox hg) | ((with_reducible refine zD 3 rfl ?_); refine zn (N := 3) (cs := #[.bool a1_0, .slice A1_1 l1_1.length c1_1, .int .i64 a1_2]) (t := 25) rfl rfl ?_; intro gb1552 hg w7 hbox hb; have BK1552 := zA (hbox); have GW1552 := zx hg; replace HB := zf hb; have NB1551_1552 := zl BK1551 hg; have NB1552_1551 := zg BK1551 hg; replace BK1551 := zb BK1551 hb; clear hb hbox hg; have hnb8 := NB1551_1552.out; have hnc8 := NB1552_1551.out; obtain ⟨_, _, _, _, _, _⟩ := zc BK1551; obtain ⟨_, _, _, _, _, _⟩ := zc BK1552) | ((with_reducible refine zG 17 rfl ?_); refine zL (some 12) rfl rfl Tryd.func17 #[.agg #[.bool a0_0, .slice A0_1 l0_1.length c0_1, .int .i64 a0_2], .agg #[.bool a1_0, .slice A1_1 l1_1.length c1_1, .int .i64 a1_2]] rfl ?_; (with_reducible refine (dyad_Add.calls k a0_0 (fun k_ => k_ < w.heap.size) _ _ l0_1 a0_2 a1_0 (fun k_ => k_ < w.heap.size) _ _ l1_1 a1_2 t1553 t1554 t1557 t1558 _ ?side1 ?side2 (laid_below hT zs) A3.out).mono ?_); (case side1 => exact V_mk HC0_1.out (Kd.F_below (C_F (Kd.heap_int .u64) HR0_1.out) zs)); (case side2 => exact V_mk HC1_1.out (Kd.F_below (C_F (Kd.heap_int .u64) HR1_1.out) zs)); rintro e w11 ⟨v1555, rfl, ho0, hb⟩; refine ⟨_, rfl, ?_⟩; have HO1556 := zA (V_lower (V_mono (ok' := fun k_ => k_ ≠ gb1551 ∧ k_ ≠ gb1552) ho0 (fun k_ hk_ => ⟨Or.elim hk_ (fun hs_ => Or.elim hs_ (fun hs_ => fun e_ => Nat.not_le.2 hs_ (by rw [e_]; exact GW1551.out)) (fun hs_ => fun e_ => Nat.not_le.2 hs_ (by rw [e_]; exact GW1551.out))) (fun hn_ => (zj BK1551 k_ hn_)), Or.elim hk_ (fun hs_ => Or.elim hs_ (fun hs_ => fun e_ => Nat.not_le.2 hs_ (by rw [e_]; exact GW1552.out)) (fun hs_ => fun e_ => Nat.not_le.2 hs_ (by rw [e_]; exact GW1552.out))) (fun hn_ => (zj BK1552 k_ hn_))⟩)) (below_size zs)); replace BK1551 := zb BK1551 hb; replace BK1552 := zb BK1552 hb; replace HB := zf hb; (try clear ho0)) | ((with_reducible refine zD 5 rfl ?_); refine zn (N := 5) (cs := #[.bool false, .slice none 0 0, .int .i64 0]) (t := 25) rfl rfl ?_; intro gb1559 hg w12 hbox hb; replace HO1556 := zA (V_below (V_elderB (vu HO1556.out) gb1559 (Nat.le_of_eq hg.symm)) hb); have BK1559 := zA (hbox); have GW1559 := zx hg; replace HB := zf hb; have NB1551_1559 := zl BK1551 hg; have NB1559_1551 := zg BK1551 hg; replace BK1551 := zb BK1551 hb; have NB1552_1559 := zl BK1552 hg; have NB1559_1552 := zg BK1552 hg; replace BK1552 := zb BK1552 hb; clear hb hbox hg; have hnb13 := NB1559_1551.out; have hnc13 := NB1551_1559.out; have hnb14 := NB1559_1552.out; have hnc14 := NB1552_1559.out; obtain ⟨hcz15_0, hcz15_1, hcz15_2, hfz15_0, hfz15_1, hfz15_2⟩ := zc BK1559; obtain ⟨Ao16, co16, eo16⟩ := V_slice HO1556.out; subst eo16; obtain ⟨hcz17_0, hcz17_1, hcz17_2, hfz17_0, hfz17_1, hfz17_2⟩ := zc BK1551; obtain ⟨hcz18_0, hcz18_1, hcz18_2, hfz18_0, hfz18_1, hfz18_2⟩ := zc BK1552) | ((with_reducible refine zG 21 rfl ?_); refine zL (some 18) rfl rfl Tryd.func21 #[.agg #[.bool a0_0, .slice A0_1 l0_1.length c0_1, .int .i64 a0_2], .agg #[.bool a1_0, .slice A1_1 l1_1.length c1_1, .int .i64 a1_2]] rfl ?_; (with_reducible refine (ulpref04_Add.calls k a0_0 _ _ l0_1 a0_2 a1_0 _ _ l1_1 a1_2 t1560 t1561 t1564 t1565 _ ?side1 ?side2 ?side3 ?side4 A4.out).mono ?_); (case side1 => exact C_below HR0_1.out zs); (case side2 => exact HC0_1.out); (case side3 => exact C_below HR1_1.out zs); (case side4 => exact HC1_1.out); rintro e w19 ⟨v1562, rfl, ho0, hb⟩; refine ⟨_, rfl, ?_⟩; replace HO1556 := zA (V_below (vu (V_mono (zv gb1559 (V_mono HO1556.out (fun k_ hk => (⟨hk, hk.2⟩ : _ ∧ k_ ≠ gb1559))) (fun _ hk => hk.2) _ _ _) (fun _ h_ => h_.1))) hb); have HO1563 := zA (V_lower (V_mono (ok' := fun k_ => k_ ≠ gb1551 ∧ k_ ≠ gb1552 ∧ k_ ≠ gb1559) ho0 (fun k_ hk_ => ⟨(Kd.freshB (g := gb1551) (o := .cells #[.bool a0_0, .slice A0_1 l0_1.length c0_1, .int .i64 a0_2] 25 (0, 0)) (zE BK1551) k_ hk_), (Kd.freshB (g := gb1552) (o := .cells #[.bool a1_0, .slice A1_1 l1_1.length c1_1, .int .i64 a1_2] 25 (0, 0)) (zE BK1552) k_ hk_), (Kd.freshB (g := gb1559) (o := .cells #[.bool t1553, .slice Ao16 t1554.length co16, .int .i64 t1557] 25 (0, 0)) (zy BK1559) k_ hk_)⟩)) (below_size zs)); replace BK1551 := zF BK1551 hb; replace BK1552 := zF BK1552 hb; replace BK1559 := zt BK1559 hb; replace HB := zf hb; (try clear hk); (try clear ho0)) | ((with_reducible refine zD 7 rfl ?_); refine zn (N := 7) (cs := #[.bool false, .slice none 0 0, .int .i64 0]) (t := 25) rfl rfl ?_; intro gb1566 hg w20 hbox hb; replace HO1556 := zA (V_below (V_elderB (vu HO1556.out) gb1566 (Nat.le_of_eq hg.symm)) hb); replace HO1563 := zA (V_below (V_elderB (vu HO1563.out) gb1566 (Nat.le_of_eq hg.symm)) hb); have BK1566 := zA (hbox); have GW1566 := zx hg; replace HB := zf hb; have NB1551_1566 := zl BK1551 hg; have NB1566_1551 := zg BK1551 hg; replace BK1551 := zb BK1551 hb; have NB1552_1566 := zl BK1552 hg; have NB1566_1552 := zg BK1552 hg; replace BK1552 := zb BK1552 hb; have NB1559_1566 := zl BK1559 hg; have NB1566_1559 := zg BK1559 hg; replace BK1559 := zb BK1559 hb; clear hb hbox hg; have hnb21 := NB1566_1551.out; have hnc21 := NB1551_1566.out; have hnb22 := NB1566_1552.out; have hnc22 := NB1552_1566.out; have hnb23 := NB1566_1559.out; have hnc23 := NB1559_1566.out; obtain ⟨hcz24_0, hcz24_1, hcz24_2, hfz24_0, hfz24_1, hfz24_2⟩ := zc BK1566; obtain ⟨Ao25, co25, eo25⟩ := V_slice HO1563.out; subst eo25))
 (try simp only [Act.put, List.setIfInBounds_toArray, List.set_cons_zero, List.set_cons_succ])
 go_cut [29] (fun v29 wc => ∃ (kq : Nat) (x29_4 : Bool), v29 = .bool x29_4 ∧ Aside0 (ulplaw04_DyadSums.j0 kq x29_4 a0_0 l0_1 a0_2 a1_0 l1_1 a1_2 = some r) ∧ Aside0 (kq ≤ k) ∧ Aside0 (Kd.V (Kd.int .u64) 43 wc w.heap.size (fun k_ => k_ ≠ gb1551 ∧ k_ ≠ gb1552 ∧ k_ ≠ gb1559 ∧ k_ ≠ gb1566) (.slice Ao16 t1554.length co16) t1554) ∧ Aside0 (Kd.V (Kd.int .u64) 43 wc w.heap.size (fun k_ => k_ ≠ gb1551 ∧ k_ ≠ gb1552 ∧ k_ ≠ gb1559 ∧ k_ ≠ gb1566) (.slice Ao25 t1561.length co25) t1561) ∧ Aside0 (wc.heap[gb1551]? = some (.cells #[.bool a0_0, (.slice A0_1 l0_1.length c0_1), .int .i64 a0_2] 25 (0, 0))) ∧ Aside0 (wc.heap[gb1552]? = some (.cells #[.bool a1_0, (.slice A1_1 l1_1.length c1_1), .int .i64 a1_2] 25 (0, 0))) ∧ Aside0 (wc.heap[gb1559]? = some (.cells #[.bool t1553, (.slice Ao16 t1554.length co16), .int .i64 t1557] 25 (0, 0))) ∧ Aside0 (wc.heap[gb1566]? = some (.cells #[.bool t1560, (.slice Ao25 t1561.length co25), .int .i64 t1564] 25 (0, 0))) ∧ Aside0 (Below w.heap.size w wc))
 case first =>
  have H := HC5.out
  clear HC5
  obtain ⟨t1567, A26, H⟩ := zh H
  by_cases c27 : t1567 = true
  ·subst c27
   rw [if_pos rfl] at H
   have H' := zA H
   clear H
   have hnb28 := NB1559_1551.out
   have hnc28 := NB1551_1559.out
   have hnb29 := NB1559_1552.out
   have hnc29 := NB1552_1559.out
   have hnb30 := NB1559_1566.out
   have hnc30 := NB1566_1559.out
   obtain ⟨_, _, _, _, _, _⟩ := zc BK1559
   have hnb32 := NB1566_1551.out
   have hnc32 := NB1551_1566.out
   have hnb33 := NB1566_1552.out
   have hnc33 := NB1552_1566.out
   obtain ⟨_, _, _, _, _, _⟩ := zc BK1566
   go_wp2_with (first | ((with_reducible refine zG 23 rfl ?_); refine zL (some 23) rfl rfl Tryd.func23 #[.agg #[.bool t1553, .slice Ao16 t1554.length co16, .int .i64 t1557], .agg #[.bool t1560, .slice Ao25 t1561.length co25, .int .i64 t1564]] rfl ?_; (with_reducible refine (ulpref04_Same.calls k t1553 _ _ t1554 t1557 t1560 _ _ t1561 t1564 true _ ?side1 ?side2 ?side3 ?side4 A26.out).mono ?_); (case side1 => refine (V_reads' (e := 43) (base := w.heap.size) (ok := fun k_ => (((k_ ≠ gb1551 ∧ k_ ≠ gb1552) ∧ k_ ≠ gb1559) ∧ k_ ≠ gb1566)) (n := t1554.length) (c := co16) ?_).2.2; exact (vu (V_mono (zv gb1566 (V_mono HO1556.out (fun k_ hk => (⟨hk, hk.2⟩ : _ ∧ k_ ≠ gb1566))) (fun _ hk => hk.2) _ _ _) (fun _ h_ => h_.1)))); (case side2 => exact (V_reads' HO1556.out).2.1); (case side3 => refine (V_reads' (e := 43) (base := w.heap.size) (ok := fun k_ => ((k_ ≠ gb1551 ∧ (k_ ≠ gb1552 ∧ k_ ≠ gb1559)) ∧ k_ ≠ gb1566)) (n := t1561.length) (c := co25) ?_).2.2; exact (vu (V_mono (zv gb1566 (V_mono HO1563.out (fun k_ hk => (⟨hk, hk.2⟩ : _ ∧ k_ ≠ gb1566))) (fun _ hk => hk.2) _ _ _) (fun _ h_ => h_.1)))); (case side4 => exact (V_reads' HO1563.out).2.1); rintro e w35 ⟨rfl, hb⟩; refine ⟨_, rfl, ?_⟩; replace HO1556 := zA (V_below (vu (V_mono (zv gb1566 (V_mono HO1556.out (fun k_ hk => (⟨hk, hk.2⟩ : _ ∧ k_ ≠ gb1566))) (fun _ hk => hk.2) _ _ _) (fun _ h_ => h_.1))) hb); replace HO1563 := zA (V_below (vu (V_mono (zv gb1566 (V_mono HO1563.out (fun k_ hk => (⟨hk, hk.2⟩ : _ ∧ k_ ≠ gb1566))) (fun _ hk => hk.2) _ _ _) (fun _ h_ => h_.1))) hb); replace BK1551 := zF BK1551 hb; replace BK1552 := zF BK1552 hb; replace BK1559 := zF BK1559 hb; replace BK1566 := zt BK1566 hb; replace HB := zf hb; (try clear hk)))
   go_meet
   case rel => exact ⟨_, ((t1558 != t1565)), zi, H', ⟨by first | omega | exact Nat.le_refl _⟩, ⟨vu (V_mono HO1556.out (fun _ hk => ⟨hk.1.1.1, ⟨hk.1.1.2, ⟨hk.1.2, hk.2⟩⟩⟩))⟩, ⟨vu (V_mono HO1563.out (fun _ hk => ⟨hk.1.1, ⟨hk.1.2.1, ⟨hk.1.2.2, hk.2⟩⟩⟩))⟩, ⟨zu BK1551⟩, ⟨zu BK1552⟩, ⟨zu BK1559⟩, ⟨zu BK1566⟩, ⟨zs⟩⟩
  replace c27 := Bool.eq_false_iff.mpr c27
  subst c27
  rw [if_neg (show ¬ (false = true) by decide)] at H
  have H' := zA H
  clear H
  have hnb36 := NB1559_1551.out
  have hnc36 := NB1551_1559.out
  have hnb37 := NB1559_1552.out
  have hnc37 := NB1552_1559.out
  have hnb38 := NB1559_1566.out
  have hnc38 := NB1566_1559.out
  obtain ⟨_, _, _, _, _, _⟩ := zc BK1559
  have hnb40 := NB1566_1551.out
  have hnc40 := NB1551_1566.out
  have hnb41 := NB1566_1552.out
  have hnc41 := NB1552_1566.out
  obtain ⟨_, _, _, _, _, _⟩ := zc BK1566
  go_wp2_with (first | ((with_reducible refine zG 23 rfl ?_); refine zL (some 23) rfl rfl Tryd.func23 #[.agg #[.bool t1553, .slice Ao16 t1554.length co16, .int .i64 t1557], .agg #[.bool t1560, .slice Ao25 t1561.length co25, .int .i64 t1564]] rfl ?_; (with_reducible refine (ulpref04_Same.calls k t1553 _ _ t1554 t1557 t1560 _ _ t1561 t1564 false _ ?side1 ?side2 ?side3 ?side4 A26.out).mono ?_); (case side1 => refine (V_reads' (e := 43) (base := w.heap.size) (ok := fun k_ => (((k_ ≠ gb1551 ∧ k_ ≠ gb1552) ∧ k_ ≠ gb1559) ∧ k_ ≠ gb1566)) (n := t1554.length) (c := co16) ?_).2.2; exact (vu (V_mono (zv gb1566 (V_mono HO1556.out (fun k_ hk => (⟨hk, hk.2⟩ : _ ∧ k_ ≠ gb1566))) (fun _ hk => hk.2) _ _ _) (fun _ h_ => h_.1)))); (case side2 => exact (V_reads' HO1556.out).2.1); (case side3 => refine (V_reads' (e := 43) (base := w.heap.size) (ok := fun k_ => ((k_ ≠ gb1551 ∧ (k_ ≠ gb1552 ∧ k_ ≠ gb1559)) ∧ k_ ≠ gb1566)) (n := t1561.length) (c := co25) ?_).2.2; exact (vu (V_mono (zv gb1566 (V_mono HO1563.out (fun k_ hk => (⟨hk, hk.2⟩ : _ ∧ k_ ≠ gb1566))) (fun _ hk => hk.2) _ _ _) (fun _ h_ => h_.1)))); (case side4 => exact (V_reads' HO1563.out).2.1); rintro e w43 ⟨rfl, hb⟩; refine ⟨_, rfl, ?_⟩; replace HO1556 := zA (V_below (vu (V_mono (zv gb1566 (V_mono HO1556.out (fun k_ hk => (⟨hk, hk.2⟩ : _ ∧ k_ ≠ gb1566))) (fun _ hk => hk.2) _ _ _) (fun _ h_ => h_.1))) hb); replace HO1563 := zA (V_below (vu (V_mono (zv gb1566 (V_mono HO1563.out (fun k_ hk => (⟨hk, hk.2⟩ : _ ∧ k_ ≠ gb1566))) (fun _ hk => hk.2) _ _ _) (fun _ h_ => h_.1))) hb); replace BK1551 := zF BK1551 hb; replace BK1552 := zF BK1552 hb; replace BK1559 := zF BK1559 hb; replace BK1566 := zt BK1566 hb; replace HB := zf hb; (try clear hk)))
  go_meet
  case rel => exact ⟨_, (true), zi, H', ⟨by first | omega | exact Nat.le_refl _⟩, ⟨vu (V_mono HO1556.out (fun _ hk => ⟨hk.1.1.1, ⟨hk.1.1.2, ⟨hk.1.2, hk.2⟩⟩⟩))⟩, ⟨vu (V_mono HO1563.out (fun _ hk => ⟨hk.1.1, ⟨hk.1.2.1, ⟨hk.1.2.2, hk.2⟩⟩⟩))⟩, ⟨zu BK1551⟩, ⟨zu BK1552⟩, ⟨zu BK1559⟩, ⟨zu BK1566⟩, ⟨zs⟩⟩
 case rest =>
  clear HC5
  try clear c27
  try clear hcz15_0 hcz15_1 hcz15_2 hfz15_0 hfz15_1 hfz15_2
  try clear hcz17_0 hcz17_1 hcz17_2 hfz17_0 hfz17_1 hfz17_2
  try clear hcz18_0 hcz18_1 hcz18_2 hfz18_0 hfz18_1 hfz18_2
  try clear hcz24_0 hcz24_1 hcz24_2 hfz24_0 hfz24_1 hfz24_2
  obtain ⟨kq, x29_4, rfl, HA, HJ4, HO_1560001, HO_1567001, BK1551, BK1552, BK1559, BK1566, HB⟩ := hcut
  cases kq with
  | zero => exact absurd HA.out (by simp [ulplaw04_DyadSums.j0])
  | succ kj4 =>
   have H := HA.out
   clear HA
   simp only [ulplaw04_DyadSums.j0] at H
   by_cases c44 : x29_4 = true
   ·subst c44
    rw [if_pos rfl] at H
    obtain rfl := Option.some.inj H
    exact absurd hr_.out (by decide)
   replace c44 := Bool.eq_false_iff.mpr c44
   subst c44
   rw [if_neg (show ¬ (false = true) by decide)] at H
   obtain ⟨⟨t1568, t1569, t1572, t1573⟩, A45, H⟩ := zh H
   (try dsimp only at H)
   obtain ⟨⟨t1574, t1575, t1578, t1579⟩, A46, H⟩ := zh H
   (try dsimp only at H)
   have HC47 := zA H
   clear H
   have hnb48 := NB1551_1552.out
   have hnc48 := NB1552_1551.out
   have hnb49 := NB1551_1559.out
   have hnc49 := NB1559_1551.out
   have hnb50 := NB1551_1566.out
   have hnc50 := NB1566_1551.out
   obtain ⟨_, _, _, _, _, _⟩ := zc BK1551
   have hnb52 := NB1552_1559.out
   have hnc52 := NB1559_1552.out
   have hnb53 := NB1552_1566.out
   have hnc53 := NB1566_1552.out
   obtain ⟨_, _, _, _, _, _⟩ := zc BK1552
   go_upto_region 7 with (first | ((with_reducible refine zG 40 rfl ?_); refine zL (some 33) rfl rfl Tryd.func40 #[.agg #[.bool a0_0, .slice A0_1 l0_1.length c0_1, .int .i64 a0_2], .agg #[.bool a1_0, .slice A1_1 l1_1.length c1_1, .int .i64 a1_2]] rfl ?_; (with_reducible refine (dyad_Sub.calls kj4 a0_0 (fun k_ => k_ < w.heap.size) _ _ l0_1 a0_2 a1_0 (fun k_ => k_ < w.heap.size) _ _ l1_1 a1_2 t1568 t1569 t1572 t1573 _ ?side1 ?side2 (laid_below hT zs) A45.out).mono ?_); (case side1 => exact V_mk HC0_1.out (Kd.F_below (C_F (Kd.heap_int .u64) HR0_1.out) zs)); (case side2 => exact V_mk HC1_1.out (Kd.F_below (C_F (Kd.heap_int .u64) HR1_1.out) zs)); rintro e w55 ⟨v1570, rfl, ho0, hb⟩; refine ⟨_, rfl, ?_⟩; replace HO_1560001 := zA (V_below (vu HO_1560001.out) hb); replace HO_1567001 := zA (V_below (vu HO_1567001.out) hb); have HO1571 := zA (V_lower (V_mono (ok' := fun k_ => k_ ≠ gb1551 ∧ k_ ≠ gb1552 ∧ k_ ≠ gb1559 ∧ k_ ≠ gb1566) ho0 (fun k_ hk_ => ⟨Or.elim hk_ (fun hs_ => Or.elim hs_ (fun hs_ => fun e_ => Nat.not_le.2 hs_ (by rw [e_]; exact GW1551.out)) (fun hs_ => fun e_ => Nat.not_le.2 hs_ (by rw [e_]; exact GW1551.out))) (fun hn_ => (zj BK1551 k_ hn_)), Or.elim hk_ (fun hs_ => Or.elim hs_ (fun hs_ => fun e_ => Nat.not_le.2 hs_ (by rw [e_]; exact GW1552.out)) (fun hs_ => fun e_ => Nat.not_le.2 hs_ (by rw [e_]; exact GW1552.out))) (fun hn_ => (zj BK1552 k_ hn_)), Or.elim hk_ (fun hs_ => Or.elim hs_ (fun hs_ => fun e_ => Nat.not_le.2 hs_ (by rw [e_]; exact GW1559.out)) (fun hs_ => fun e_ => Nat.not_le.2 hs_ (by rw [e_]; exact GW1559.out))) (fun hn_ => (zj BK1559 k_ hn_)), Or.elim hk_ (fun hs_ => Or.elim hs_ (fun hs_ => fun e_ => Nat.not_le.2 hs_ (by rw [e_]; exact GW1566.out)) (fun hs_ => fun e_ => Nat.not_le.2 hs_ (by rw [e_]; exact GW1566.out))) (fun hn_ => (zj BK1566 k_ hn_))⟩)) (below_size zs)); replace BK1551 := zb BK1551 hb; replace BK1552 := zb BK1552 hb; replace BK1559 := zb BK1559 hb; replace BK1566 := zb BK1566 hb; replace HB := zf hb; (try clear ho0); have hnb56 := NB1559_1566.out; have hnc56 := NB1566_1559.out; obtain ⟨hcz57_0, hcz57_1, hcz57_2, hfz57_0, hfz57_1, hfz57_2⟩ := zc BK1559; obtain ⟨Ao58, co58, eo58⟩ := V_slice HO1571.out; subst eo58; obtain ⟨hcz59_0, hcz59_1, hcz59_2, hfz59_0, hfz59_1, hfz59_2⟩ := zc BK1551; obtain ⟨hcz60_0, hcz60_1, hcz60_2, hfz60_0, hfz60_1, hfz60_2⟩ := zc BK1552) | ((with_reducible refine zG 52 rfl ?_); refine zL (some 39) rfl rfl Tryd.func52 #[.agg #[.bool a0_0, .slice A0_1 l0_1.length c0_1, .int .i64 a0_2], .agg #[.bool a1_0, .slice A1_1 l1_1.length c1_1, .int .i64 a1_2]] rfl ?_; (with_reducible refine (ulpref04_Sub.calls kj4 a0_0 _ _ l0_1 a0_2 a1_0 _ _ l1_1 a1_2 t1574 t1575 t1578 t1579 _ ?side1 ?side2 ?side3 ?side4 A46.out).mono ?_); (case side1 => exact C_below HR0_1.out zs); (case side2 => exact HC0_1.out); (case side3 => exact C_below HR1_1.out zs); (case side4 => exact HC1_1.out); rintro e w61 ⟨v1576, rfl, ho0, hb⟩; refine ⟨_, rfl, ?_⟩; replace HO_1560001 := zA (V_below (vu (V_mono (zv gb1559 (V_mono HO_1560001.out (fun k_ hk => (⟨hk, hk.2.2.1⟩ : _ ∧ k_ ≠ gb1559))) (fun _ hk => hk.2) _ _ _) (fun _ h_ => h_.1))) hb); replace HO_1567001 := zA (V_below (vu (V_mono (zv gb1559 (V_mono HO_1567001.out (fun k_ hk => (⟨hk, hk.2.2.1⟩ : _ ∧ k_ ≠ gb1559))) (fun _ hk => hk.2) _ _ _) (fun _ h_ => h_.1))) hb); replace HO1571 := zA (V_below (vu (V_mono (zv gb1559 (V_mono HO1571.out (fun k_ hk => (⟨hk, hk.2.2.1⟩ : _ ∧ k_ ≠ gb1559))) (fun _ hk => hk.2) _ _ _) (fun _ h_ => h_.1))) hb); have HO1577 := zA (V_lower (V_mono (ok' := fun k_ => k_ ≠ gb1551 ∧ k_ ≠ gb1552 ∧ k_ ≠ gb1559 ∧ k_ ≠ gb1566) ho0 (fun k_ hk_ => ⟨(Kd.freshB (g := gb1551) (o := .cells #[.bool a0_0, .slice A0_1 l0_1.length c0_1, .int .i64 a0_2] 25 (0, 0)) (zE BK1551) k_ hk_), (Kd.freshB (g := gb1552) (o := .cells #[.bool a1_0, .slice A1_1 l1_1.length c1_1, .int .i64 a1_2] 25 (0, 0)) (zE BK1552) k_ hk_), (Kd.freshB (g := gb1559) (o := .cells #[.bool t1568, .slice Ao58 t1569.length co58, .int .i64 t1572] 25 (0, 0)) (zy BK1559) k_ hk_), (Kd.freshB (g := gb1566) (o := .cells #[.bool t1560, .slice Ao25 t1561.length co25, .int .i64 t1564] 25 (0, 0)) (zE BK1566) k_ hk_)⟩)) (below_size zs)); replace BK1551 := zF BK1551 hb; replace BK1552 := zF BK1552 hb; replace BK1559 := zt BK1559 hb; replace BK1566 := zF BK1566 hb; replace HB := zf hb; (try clear hk); (try clear ho0); obtain ⟨hcz62_0, hcz62_1, hcz62_2, hfz62_0, hfz62_1, hfz62_2⟩ := zc BK1566; obtain ⟨Ao63, co63, eo63⟩ := V_slice HO1577.out; subst eo63))
   (try simp only [Act.put, List.setIfInBounds_toArray, List.set_cons_zero, List.set_cons_succ])
   go_cut [50] (fun v50 wc => ∃ (kq : Nat) (x50_46 : Bool), v50 = .bool x50_46 ∧ Aside0 (ulplaw04_DyadSums.j1 kq x50_46 a0_0 l0_1 a0_2 a1_0 l1_1 a1_2 = some r) ∧ Aside0 (kq ≤ kj4) ∧ Aside0 (Kd.V (Kd.int .u64) 43 wc w.heap.size (fun k_ => k_ ≠ gb1551 ∧ k_ ≠ gb1552 ∧ k_ ≠ gb1559 ∧ k_ ≠ gb1566) (.slice Ao58 t1569.length co58) t1569) ∧ Aside0 (Kd.V (Kd.int .u64) 43 wc w.heap.size (fun k_ => k_ ≠ gb1551 ∧ k_ ≠ gb1552 ∧ k_ ≠ gb1559 ∧ k_ ≠ gb1566) (.slice Ao63 t1575.length co63) t1575) ∧ Aside0 (wc.heap[gb1551]? = some (.cells #[.bool a0_0, (.slice A0_1 l0_1.length c0_1), .int .i64 a0_2] 25 (0, 0))) ∧ Aside0 (wc.heap[gb1552]? = some (.cells #[.bool a1_0, (.slice A1_1 l1_1.length c1_1), .int .i64 a1_2] 25 (0, 0))) ∧ Aside0 (wc.heap[gb1559]? = some (.cells #[.bool t1568, (.slice Ao58 t1569.length co58), .int .i64 t1572] 25 (0, 0))) ∧ Aside0 (wc.heap[gb1566]? = some (.cells #[.bool t1574, (.slice Ao63 t1575.length co63), .int .i64 t1578] 25 (0, 0))) ∧ Aside0 (Below w.heap.size w wc))
   case first =>
    have H := HC47.out
    clear HC47
    obtain ⟨t1580, A64, H⟩ := zh H
    by_cases c65 : t1580 = true
    ·subst c65
     rw [if_pos rfl] at H
     have H' := zA H
     clear H
     have hnb66 := NB1559_1551.out
     have hnc66 := NB1551_1559.out
     have hnb67 := NB1559_1552.out
     have hnc67 := NB1552_1559.out
     have hnb68 := NB1559_1566.out
     have hnc68 := NB1566_1559.out
     obtain ⟨_, _, _, _, _, _⟩ := zc BK1559
     have hnb70 := NB1566_1551.out
     have hnc70 := NB1551_1566.out
     have hnb71 := NB1566_1552.out
     have hnc71 := NB1552_1566.out
     obtain ⟨_, _, _, _, _, _⟩ := zc BK1566
     go_wp2_with (first | ((with_reducible refine zG 23 rfl ?_); refine zL (some 44) rfl rfl Tryd.func23 #[.agg #[.bool t1568, .slice Ao58 t1569.length co58, .int .i64 t1572], .agg #[.bool t1574, .slice Ao63 t1575.length co63, .int .i64 t1578]] rfl ?_; (with_reducible refine (ulpref04_Same.calls kj4 t1568 _ _ t1569 t1572 t1574 _ _ t1575 t1578 true _ ?side1 ?side2 ?side3 ?side4 A64.out).mono ?_); (case side1 => refine (V_reads' (e := 43) (base := w.heap.size) (ok := fun k_ => (k_ ≠ gb1551 ∧ (k_ ≠ gb1552 ∧ (k_ ≠ gb1559 ∧ k_ ≠ gb1566)))) (n := t1569.length) (c := co58) ?_).2.2; exact (vu (V_mono (zv gb1566 (V_mono HO1571.out (fun k_ hk => (⟨hk, hk.2.2.2⟩ : _ ∧ k_ ≠ gb1566))) (fun _ hk => hk.2) _ _ _) (fun _ h_ => h_.1)))); (case side2 => exact (V_reads' HO1571.out).2.1); (case side3 => refine (V_reads' (e := 43) (base := w.heap.size) (ok := fun k_ => (k_ ≠ gb1551 ∧ (k_ ≠ gb1552 ∧ (k_ ≠ gb1559 ∧ k_ ≠ gb1566)))) (n := t1575.length) (c := co63) ?_).2.2; exact (vu (V_mono (zv gb1566 (V_mono HO1577.out (fun k_ hk => (⟨hk, hk.2.2.2⟩ : _ ∧ k_ ≠ gb1566))) (fun _ hk => hk.2) _ _ _) (fun _ h_ => h_.1)))); (case side4 => exact (V_reads' HO1577.out).2.1); rintro e w73 ⟨rfl, hb⟩; refine ⟨_, rfl, ?_⟩; replace HO_1560001 := zA (V_below (vu (V_mono (zv gb1566 (V_mono HO_1560001.out (fun k_ hk => (⟨hk, hk.2.2.2⟩ : _ ∧ k_ ≠ gb1566))) (fun _ hk => hk.2) _ _ _) (fun _ h_ => h_.1))) hb); replace HO_1567001 := zA (V_below (vu (V_mono (zv gb1566 (V_mono HO_1567001.out (fun k_ hk => (⟨hk, hk.2.2.2⟩ : _ ∧ k_ ≠ gb1566))) (fun _ hk => hk.2) _ _ _) (fun _ h_ => h_.1))) hb); replace HO1571 := zA (V_below (vu (V_mono (zv gb1566 (V_mono HO1571.out (fun k_ hk => (⟨hk, hk.2.2.2⟩ : _ ∧ k_ ≠ gb1566))) (fun _ hk => hk.2) _ _ _) (fun _ h_ => h_.1))) hb); replace HO1577 := zA (V_below (vu (V_mono (zv gb1566 (V_mono HO1577.out (fun k_ hk => (⟨hk, hk.2.2.2⟩ : _ ∧ k_ ≠ gb1566))) (fun _ hk => hk.2) _ _ _) (fun _ h_ => h_.1))) hb); replace BK1551 := zF BK1551 hb; replace BK1552 := zF BK1552 hb; replace BK1559 := zF BK1559 hb; replace BK1566 := zt BK1566 hb; replace HB := zf hb; (try clear hk)))
     go_meet
     case rel => exact ⟨_, ((t1573 != t1579)), zi, H', ⟨by have := HJ4.out; first | omega | exact Nat.le_refl _⟩, ⟨vu HO1571.out⟩, ⟨vu HO1577.out⟩, ⟨zu BK1551⟩, ⟨zu BK1552⟩, ⟨zu BK1559⟩, ⟨zu BK1566⟩, ⟨zs⟩⟩
    replace c65 := Bool.eq_false_iff.mpr c65
    subst c65
    rw [if_neg (show ¬ (false = true) by decide)] at H
    have H' := zA H
    clear H
    have hnb74 := NB1559_1551.out
    have hnc74 := NB1551_1559.out
    have hnb75 := NB1559_1552.out
    have hnc75 := NB1552_1559.out
    have hnb76 := NB1559_1566.out
    have hnc76 := NB1566_1559.out
    obtain ⟨_, _, _, _, _, _⟩ := zc BK1559
    have hnb78 := NB1566_1551.out
    have hnc78 := NB1551_1566.out
    have hnb79 := NB1566_1552.out
    have hnc79 := NB1552_1566.out
    obtain ⟨_, _, _, _, _, _⟩ := zc BK1566
    go_wp2_with (first | ((with_reducible refine zG 23 rfl ?_); refine zL (some 44) rfl rfl Tryd.func23 #[.agg #[.bool t1568, .slice Ao58 t1569.length co58, .int .i64 t1572], .agg #[.bool t1574, .slice Ao63 t1575.length co63, .int .i64 t1578]] rfl ?_; (with_reducible refine (ulpref04_Same.calls kj4 t1568 _ _ t1569 t1572 t1574 _ _ t1575 t1578 false _ ?side1 ?side2 ?side3 ?side4 A64.out).mono ?_); (case side1 => refine (V_reads' (e := 43) (base := w.heap.size) (ok := fun k_ => (k_ ≠ gb1551 ∧ (k_ ≠ gb1552 ∧ (k_ ≠ gb1559 ∧ k_ ≠ gb1566)))) (n := t1569.length) (c := co58) ?_).2.2; exact (vu (V_mono (zv gb1566 (V_mono HO1571.out (fun k_ hk => (⟨hk, hk.2.2.2⟩ : _ ∧ k_ ≠ gb1566))) (fun _ hk => hk.2) _ _ _) (fun _ h_ => h_.1)))); (case side2 => exact (V_reads' HO1571.out).2.1); (case side3 => refine (V_reads' (e := 43) (base := w.heap.size) (ok := fun k_ => (k_ ≠ gb1551 ∧ (k_ ≠ gb1552 ∧ (k_ ≠ gb1559 ∧ k_ ≠ gb1566)))) (n := t1575.length) (c := co63) ?_).2.2; exact (vu (V_mono (zv gb1566 (V_mono HO1577.out (fun k_ hk => (⟨hk, hk.2.2.2⟩ : _ ∧ k_ ≠ gb1566))) (fun _ hk => hk.2) _ _ _) (fun _ h_ => h_.1)))); (case side4 => exact (V_reads' HO1577.out).2.1); rintro e w81 ⟨rfl, hb⟩; refine ⟨_, rfl, ?_⟩; replace HO_1560001 := zA (V_below (vu (V_mono (zv gb1566 (V_mono HO_1560001.out (fun k_ hk => (⟨hk, hk.2.2.2⟩ : _ ∧ k_ ≠ gb1566))) (fun _ hk => hk.2) _ _ _) (fun _ h_ => h_.1))) hb); replace HO_1567001 := zA (V_below (vu (V_mono (zv gb1566 (V_mono HO_1567001.out (fun k_ hk => (⟨hk, hk.2.2.2⟩ : _ ∧ k_ ≠ gb1566))) (fun _ hk => hk.2) _ _ _) (fun _ h_ => h_.1))) hb); replace HO1571 := zA (V_below (vu (V_mono (zv gb1566 (V_mono HO1571.out (fun k_ hk => (⟨hk, hk.2.2.2⟩ : _ ∧ k_ ≠ gb1566))) (fun _ hk => hk.2) _ _ _) (fun _ h_ => h_.1))) hb); replace HO1577 := zA (V_below (vu (V_mono (zv gb1566 (V_mono HO1577.out (fun k_ hk => (⟨hk, hk.2.2.2⟩ : _ ∧ k_ ≠ gb1566))) (fun _ hk => hk.2) _ _ _) (fun _ h_ => h_.1))) hb); replace BK1551 := zF BK1551 hb; replace BK1552 := zF BK1552 hb; replace BK1559 := zF BK1559 hb; replace BK1566 := zt BK1566 hb; replace HB := zf hb; (try clear hk)))
    go_meet
    case rel => exact ⟨_, (true), zi, H', ⟨by have := HJ4.out; first | omega | exact Nat.le_refl _⟩, ⟨vu HO1571.out⟩, ⟨vu HO1577.out⟩, ⟨zu BK1551⟩, ⟨zu BK1552⟩, ⟨zu BK1559⟩, ⟨zu BK1566⟩, ⟨zs⟩⟩
   case rest =>
    clear HC47
    try clear c27
    try clear c44
    try clear c65
    try clear hcz15_0 hcz15_1 hcz15_2 hfz15_0 hfz15_1 hfz15_2
    try clear hcz17_0 hcz17_1 hcz17_2 hfz17_0 hfz17_1 hfz17_2
    try clear hcz18_0 hcz18_1 hcz18_2 hfz18_0 hfz18_1 hfz18_2
    try clear hcz24_0 hcz24_1 hcz24_2 hfz24_0 hfz24_1 hfz24_2
    try clear hcz57_0 hcz57_1 hcz57_2 hfz57_0 hfz57_1 hfz57_2
    try clear hcz59_0 hcz59_1 hcz59_2 hfz59_0 hfz59_1 hfz59_2
    try clear hcz60_0 hcz60_1 hcz60_2 hfz60_0 hfz60_1 hfz60_2
    try clear hcz62_0 hcz62_1 hcz62_2 hfz62_0 hfz62_1 hfz62_2
    obtain ⟨kq, x50_46, rfl, HA, HJ46, HO_1560001, HO_1567001, BK1551, BK1552, BK1559, BK1566, HB⟩ := hcut
    cases kq with
    | zero => exact absurd HA.out (by simp [ulplaw04_DyadSums.j1])
    | succ kj46 =>
     have H := HA.out
     clear HA
     simp only [ulplaw04_DyadSums.j1] at H
     by_cases c82 : x50_46 = true
     ·subst c82
      rw [if_pos rfl] at H
      obtain rfl := Option.some.inj H
      exact absurd hr_.out (by decide)
     replace c82 := Bool.eq_false_iff.mpr c82
     subst c82
     rw [if_neg (show ¬ (false = true) by decide)] at H
     obtain ⟨⟨t1581, t1582, t1585, t1586⟩, A83, H⟩ := zh H
     (try dsimp only at H)
     obtain ⟨⟨t1587, t1588, t1591, t1592⟩, A84, H⟩ := zh H
     (try dsimp only at H)
     obtain ⟨t1593, A85, H⟩ := zh H
     by_cases c86 : t1593 = true
     ·subst c86
      rw [if_pos rfl] at H
      by_cases c87 : t1586 = t1592
      ·rw [if_pos c87] at H
       have c87b0 := beq_iff_eq.mpr c87
       have c87b1 := bne_eq_false_iff_eq.mpr c87
       clear c87
       obtain ⟨t1594, A88, H⟩ := zh H
       clear hr_
       obtain rfl := Option.some.inj H
       have hnb89 := NB1551_1552.out
       have hnc89 := NB1552_1551.out
       have hnb90 := NB1551_1559.out
       have hnc90 := NB1559_1551.out
       have hnb91 := NB1551_1566.out
       have hnc91 := NB1566_1551.out
       obtain ⟨_, _, _, _, _, _⟩ := zc BK1551
       have hnb93 := NB1552_1559.out
       have hnc93 := NB1559_1552.out
       have hnb94 := NB1552_1566.out
       have hnc94 := NB1566_1552.out
       obtain ⟨_, _, _, _, _, _⟩ := zc BK1552
       go_wp2_with (first | ((with_reducible refine zG 53 rfl ?_); refine zL (some 54) rfl rfl Tryd.func53 #[.agg #[.bool a0_0, .slice A0_1 l0_1.length c0_1, .int .i64 a0_2], .agg #[.bool a1_0, .slice A1_1 l1_1.length c1_1, .int .i64 a1_2]] rfl ?_; (with_reducible refine (dyad_Mul.calls kj46 a0_0 (fun k_ => k_ < w.heap.size) _ _ l0_1 a0_2 a1_0 (fun k_ => k_ < w.heap.size) _ _ l1_1 a1_2 t1581 t1582 t1585 t1586 _ ?side1 ?side2 (laid_below hT zs) A83.out).mono ?_); (case side1 => exact V_mk HC0_1.out (Kd.F_below (C_F (Kd.heap_int .u64) HR0_1.out) zs)); (case side2 => exact V_mk HC1_1.out (Kd.F_below (C_F (Kd.heap_int .u64) HR1_1.out) zs)); rintro e w96 ⟨v1583, rfl, ho0, hb⟩; refine ⟨_, rfl, ?_⟩; replace HO_1560001 := zA (V_below (vu HO_1560001.out) hb); replace HO_1567001 := zA (V_below (vu HO_1567001.out) hb); have HO1584 := zA (V_lower (V_mono (ok' := fun k_ => k_ ≠ gb1551 ∧ k_ ≠ gb1552 ∧ k_ ≠ gb1559 ∧ k_ ≠ gb1566) ho0 (fun k_ hk_ => ⟨Or.elim hk_ (fun hs_ => Or.elim hs_ (fun hs_ => fun e_ => Nat.not_le.2 hs_ (by rw [e_]; exact GW1551.out)) (fun hs_ => fun e_ => Nat.not_le.2 hs_ (by rw [e_]; exact GW1551.out))) (fun hn_ => (zj BK1551 k_ hn_)), Or.elim hk_ (fun hs_ => Or.elim hs_ (fun hs_ => fun e_ => Nat.not_le.2 hs_ (by rw [e_]; exact GW1552.out)) (fun hs_ => fun e_ => Nat.not_le.2 hs_ (by rw [e_]; exact GW1552.out))) (fun hn_ => (zj BK1552 k_ hn_)), Or.elim hk_ (fun hs_ => Or.elim hs_ (fun hs_ => fun e_ => Nat.not_le.2 hs_ (by rw [e_]; exact GW1559.out)) (fun hs_ => fun e_ => Nat.not_le.2 hs_ (by rw [e_]; exact GW1559.out))) (fun hn_ => (zj BK1559 k_ hn_)), Or.elim hk_ (fun hs_ => Or.elim hs_ (fun hs_ => fun e_ => Nat.not_le.2 hs_ (by rw [e_]; exact GW1566.out)) (fun hs_ => fun e_ => Nat.not_le.2 hs_ (by rw [e_]; exact GW1566.out))) (fun hn_ => (zj BK1566 k_ hn_))⟩)) (below_size zs)); replace BK1551 := zb BK1551 hb; replace BK1552 := zb BK1552 hb; replace BK1559 := zb BK1559 hb; replace BK1566 := zb BK1566 hb; replace HB := zf hb; (try clear ho0); have hnb97 := NB1559_1566.out; have hnc97 := NB1566_1559.out; obtain ⟨hcz98_0, hcz98_1, hcz98_2, hfz98_0, hfz98_1, hfz98_2⟩ := zc BK1559; obtain ⟨Ao99, co99, eo99⟩ := V_slice HO1584.out; subst eo99; obtain ⟨hcz100_0, hcz100_1, hcz100_2, hfz100_0, hfz100_1, hfz100_2⟩ := zc BK1551; obtain ⟨hcz101_0, hcz101_1, hcz101_2, hfz101_0, hfz101_1, hfz101_2⟩ := zc BK1552) | ((with_reducible refine zG 54 rfl ?_); refine zL (some 60) rfl rfl Tryd.func54 #[.agg #[.bool a0_0, .slice A0_1 l0_1.length c0_1, .int .i64 a0_2], .agg #[.bool a1_0, .slice A1_1 l1_1.length c1_1, .int .i64 a1_2]] rfl ?_; (with_reducible refine (ulpref04_Mul.calls kj46 a0_0 _ _ l0_1 a0_2 a1_0 _ _ l1_1 a1_2 t1587 t1588 t1591 t1592 _ ?side1 ?side2 ?side3 ?side4 A84.out).mono ?_); (case side1 => exact C_below HR0_1.out zs); (case side2 => exact HC0_1.out); (case side3 => exact C_below HR1_1.out zs); (case side4 => exact HC1_1.out); rintro e w102 ⟨v1589, rfl, ho0, hb⟩; refine ⟨_, rfl, ?_⟩; replace HO_1560001 := zA (V_below (vu (V_mono (zv gb1559 (V_mono HO_1560001.out (fun k_ hk => (⟨hk, hk.2.2.1⟩ : _ ∧ k_ ≠ gb1559))) (fun _ hk => hk.2) _ _ _) (fun _ h_ => h_.1))) hb); replace HO_1567001 := zA (V_below (vu (V_mono (zv gb1559 (V_mono HO_1567001.out (fun k_ hk => (⟨hk, hk.2.2.1⟩ : _ ∧ k_ ≠ gb1559))) (fun _ hk => hk.2) _ _ _) (fun _ h_ => h_.1))) hb); replace HO1584 := zA (V_below (vu (V_mono (zv gb1559 (V_mono HO1584.out (fun k_ hk => (⟨hk, hk.2.2.1⟩ : _ ∧ k_ ≠ gb1559))) (fun _ hk => hk.2) _ _ _) (fun _ h_ => h_.1))) hb); have HO1590 := zA (V_lower (V_mono (ok' := fun k_ => k_ ≠ gb1551 ∧ k_ ≠ gb1552 ∧ k_ ≠ gb1559 ∧ k_ ≠ gb1566) ho0 (fun k_ hk_ => ⟨(Kd.freshB (g := gb1551) (o := .cells #[.bool a0_0, .slice A0_1 l0_1.length c0_1, .int .i64 a0_2] 25 (0, 0)) (zE BK1551) k_ hk_), (Kd.freshB (g := gb1552) (o := .cells #[.bool a1_0, .slice A1_1 l1_1.length c1_1, .int .i64 a1_2] 25 (0, 0)) (zE BK1552) k_ hk_), (Kd.freshB (g := gb1559) (o := .cells #[.bool t1581, .slice Ao99 t1582.length co99, .int .i64 t1585] 25 (0, 0)) (zy BK1559) k_ hk_), (Kd.freshB (g := gb1566) (o := .cells #[.bool t1574, .slice Ao63 t1575.length co63, .int .i64 t1578] 25 (0, 0)) (zE BK1566) k_ hk_)⟩)) (below_size zs)); replace BK1551 := zF BK1551 hb; replace BK1552 := zF BK1552 hb; replace BK1559 := zt BK1559 hb; replace BK1566 := zF BK1566 hb; replace HB := zf hb; (try clear hk); (try clear ho0); obtain ⟨hcz103_0, hcz103_1, hcz103_2, hfz103_0, hfz103_1, hfz103_2⟩ := zc BK1566; obtain ⟨Ao104, co104, eo104⟩ := V_slice HO1590.out; subst eo104; obtain ⟨hcz105_0, hcz105_1, hcz105_2, hfz105_0, hfz105_1, hfz105_2⟩ := zc BK1559) | ((with_reducible refine zG 23 rfl ?_); refine zL (some 65) rfl rfl Tryd.func23 #[.agg #[.bool t1581, .slice Ao99 t1582.length co99, .int .i64 t1585], .agg #[.bool t1587, .slice Ao104 t1588.length co104, .int .i64 t1591]] rfl ?_; (with_reducible refine (ulpref04_Same.calls kj46 t1581 _ _ t1582 t1585 t1587 _ _ t1588 t1591 true _ ?side1 ?side2 ?side3 ?side4 A85.out).mono ?_); (case side1 => refine (V_reads' (e := 43) (base := w.heap.size) (ok := fun k_ => (k_ ≠ gb1551 ∧ (k_ ≠ gb1552 ∧ (k_ ≠ gb1559 ∧ k_ ≠ gb1566)))) (n := t1582.length) (c := co99) ?_).2.2; exact (vu (V_mono (zv gb1566 (V_mono HO1584.out (fun k_ hk => (⟨hk, hk.2.2.2⟩ : _ ∧ k_ ≠ gb1566))) (fun _ hk => hk.2) _ _ _) (fun _ h_ => h_.1)))); (case side2 => exact (V_reads' HO1584.out).2.1); (case side3 => refine (V_reads' (e := 43) (base := w.heap.size) (ok := fun k_ => (k_ ≠ gb1551 ∧ (k_ ≠ gb1552 ∧ (k_ ≠ gb1559 ∧ k_ ≠ gb1566)))) (n := t1588.length) (c := co104) ?_).2.2; exact (vu (V_mono (zv gb1566 (V_mono HO1590.out (fun k_ hk => (⟨hk, hk.2.2.2⟩ : _ ∧ k_ ≠ gb1566))) (fun _ hk => hk.2) _ _ _) (fun _ h_ => h_.1)))); (case side4 => exact (V_reads' HO1590.out).2.1); rintro e w106 ⟨rfl, hb⟩; refine ⟨_, rfl, ?_⟩; replace HO_1560001 := zA (V_below (vu (V_mono (zv gb1566 (V_mono HO_1560001.out (fun k_ hk => (⟨hk, hk.2.2.2⟩ : _ ∧ k_ ≠ gb1566))) (fun _ hk => hk.2) _ _ _) (fun _ h_ => h_.1))) hb); replace HO_1567001 := zA (V_below (vu (V_mono (zv gb1566 (V_mono HO_1567001.out (fun k_ hk => (⟨hk, hk.2.2.2⟩ : _ ∧ k_ ≠ gb1566))) (fun _ hk => hk.2) _ _ _) (fun _ h_ => h_.1))) hb); replace HO1584 := zA (V_below (vu (V_mono (zv gb1566 (V_mono HO1584.out (fun k_ hk => (⟨hk, hk.2.2.2⟩ : _ ∧ k_ ≠ gb1566))) (fun _ hk => hk.2) _ _ _) (fun _ h_ => h_.1))) hb); replace HO1590 := zA (V_below (vu (V_mono (zv gb1566 (V_mono HO1590.out (fun k_ hk => (⟨hk, hk.2.2.2⟩ : _ ∧ k_ ≠ gb1566))) (fun _ hk => hk.2) _ _ _) (fun _ h_ => h_.1))) hb); replace BK1551 := zF BK1551 hb; replace BK1552 := zF BK1552 hb; replace BK1559 := zF BK1559 hb; replace BK1566 := zt BK1566 hb; replace HB := zf hb; (try clear hk)) | (go_at_call 15; (with_reducible refine (ulplaw04_begins.calls kj46  t1594 _ (laid_below hT zs) (zA (ulplaw04_begins.true_ kj46 t1594 A88.out)) A88.out).mono ?_); rintro e w107 ⟨rfl, hb⟩; replace HO_1560001 := zA (V_below (vu HO_1560001.out) hb); replace HO_1567001 := zA (V_below (vu HO_1567001.out) hb); replace HO1584 := zA (V_below (vu HO1584.out) hb); replace HO1590 := zA (V_below (vu HO1590.out) hb); replace BK1551 := zb BK1551 hb; replace BK1552 := zb BK1552 hb; replace BK1559 := zb BK1559 hb; replace BK1566 := zb BK1566 hb; replace HB := zf hb))
       go_ret
       exact ⟨er, zs⟩
      rw [if_neg c87] at H
      have c87b0 := beq_eq_false_iff_ne.mpr c87
      have c87b1 := bne_iff_ne.mpr c87
      obtain rfl := Option.some.inj H
      exact absurd hr_.out (by decide)
     replace c86 := Bool.eq_false_iff.mpr c86
     subst c86
     rw [if_neg (show ¬ (false = true) by decide)] at H
     obtain rfl := Option.some.inj H
     exact absurd hr_.out (by decide)
end Go.Proofs.YtemfckibdojbbaaDoor.PAll
