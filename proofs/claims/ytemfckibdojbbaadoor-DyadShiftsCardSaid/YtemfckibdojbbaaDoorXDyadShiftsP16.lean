/- Printed functions, merged by a program of this session. -/
import Derived.Test.YtemfckibdojbbaaDoorXDyadShiftsP0
import Derived.Test.YtemfckibdojbbaaDoorXDyadShiftsP12
import Derived.Test.YtemfckibdojbbaaDoorXDyadShiftsP13
import Derived.Test.YtemfckibdojbbaaDoorXDyadShiftsP15
import Derived.Laws.StructEq
import Derived.Test.YtemfckibdojbbaaDoorXDyadShiftsSh
namespace Go.Proofs.YtemfckibdojbbaaDoor.PAll
open Go.RowKit Go.Proofs.YtemfckibdojbbaaDoorW.PrintWords Go.Proofs.YtemfckibdojbbaaDoorW.PrintLast Go.Proofs.YtemfckibdojbbaaDoorW.PrintMore Go.Proofs.YtemfckibdojbbaaDoorW.PrintWords.Kd
attribute [local go_sem] max2_int min2_int max_two min_two max_three min_three max_four min_four   -- for this text's walks alone
set_option linter.unusedVariables false
set_option linter.unusedSimpArgs false
attribute [local go_sem] ext135 ext136
mutual
def ulplaw04_DyadShifts.j0 : Nat → Int → Bool → Bool → List Int → Int → Bool → List Int → Int → Option (Bool)
 | 0, _, _, _, _, _, _, _, _ => none
 | k + 1, x1, x49, x1794000, x1794001, x1794002, x1802000, x1802001, x1802002 => if x49 = true then (some false) else (if x1 < (-32768) then (ulplaw04_DyadShifts.j1 k x1 true x1794000 x1794001 x1794002 x1802000 x1802001 x1802002) else (ulplaw04_DyadShifts.j1 k x1 (decide (x1 > 32768)) x1794000 x1794001 x1794002 x1802000 x1802001 x1802002))
def ulplaw04_DyadShifts.j1 : Nat → Int → Bool → Bool → List Int → Int → Bool → List Int → Int → Option (Bool)
 | 0, _, _, _, _, _, _, _, _ => none
 | k + 1, x1, x55, x1794000, x1794001, x1794002, x1802000, x1802001, x1802002 => if x55 = true then (some true) else ((dyad_Mul.f k x1794000 x1794001 x1794002 false (([1] : List Int)) x1).bind fun bt1820 => (if bt1820.2.2.2 = 0 then ((ulpref04_Same.f k bt1820.1 bt1820.2.1 bt1820.2.2.1 x1802000 x1802001 x1802002).bind fun t1827 => (some t1827)) else (some false)))
end
def ulplaw04_DyadShifts.f (k : Nat) (a0_0 : Bool) (l0_1 : List Int) (a0_2 : Int) (a1 : Int) : Option (Bool) := (ulplaw04_begins.f k).bind fun t1794 => (if t1794 = true then ((dyad_Shift.f k a0_0 l0_1 a0_2 a1).bind fun bt1795 => (if bt1795.2.2.2 = 0 then ((dyad_Shift.f k bt1795.1 bt1795.2.1 bt1795.2.2.1 (wrap64 (-a1))).bind fun bt1802 => ((dyad_Canon.f k a0_0 l0_1 a0_2).bind fun bt1809 => (if bt1802.2.2.2 = bt1809.2.2.2 then (if bt1802.2.2.2 = 0 then ((ulpref04_Same.f k bt1802.1 bt1802.2.1 bt1802.2.2.1 bt1809.1 bt1809.2.1 bt1809.2.2.1).bind fun t1816 => (ulplaw04_DyadShifts.j0 k a1 (!t1816) a0_0 l0_1 a0_2 bt1795.1 bt1795.2.1 bt1795.2.2.1)) else (ulplaw04_DyadShifts.j0 k a1 false a0_0 l0_1 a0_2 bt1795.1 bt1795.2.1 bt1795.2.2.1)) else (ulplaw04_DyadShifts.j0 k a1 true a0_0 l0_1 a0_2 bt1795.1 bt1795.2.1 bt1795.2.2.1)))) else (some ((bt1795.2.1.length : Int) == 0)))) else (some false))
set_option maxHeartbeats 8000000 in
set_option maxRecDepth 100000 in
theorem ulplaw04_DyadShifts.calls (k : Nat) (a0_0 : Bool) (A0_1 : Option Addr) (c0_1 : Nat) (l0_1 : List Int) (a0_2 : Int) (a1 : Int) (r : Bool) (w : World) (hr0_1 : Kd.C (Kd.int .u64) w A0_1 l0_1.length l0_1) (hc0_1 : l0_1.length ≤ c0_1) (hT : Laid w) (hr_ : Aside0 (r = true)) (h : ulplaw04_DyadShifts.f k a0_0 l0_1 a0_2 a1 = some r) :
  Calls Tryd.prog 14 #[.agg #[.bool a0_0, .slice A0_1 l0_1.length c0_1, .int .i64 a0_2], .int .i64 a1] w fun e w' => e = .returned (.bool r) ∧ Below w.heap.size w w' := by
 have hu25 := Tryd.underlying25
 have HR0_1 := zA hr0_1
 have HC0_1 := zA hc0_1
 clear hr0_1 hc0_1
 have HB := zA (Below.refl w.heap.size w)
 have H : ((ulplaw04_begins.f k).bind fun t1794 => (if t1794 = true then ((dyad_Shift.f k a0_0 l0_1 a0_2 a1).bind fun bt1795 => (if bt1795.2.2.2 = 0 then ((dyad_Shift.f k bt1795.1 bt1795.2.1 bt1795.2.2.1 (wrap64 (-a1))).bind fun bt1802 => ((dyad_Canon.f k a0_0 l0_1 a0_2).bind fun bt1809 => (if bt1802.2.2.2 = bt1809.2.2.2 then (if bt1802.2.2.2 = 0 then ((ulpref04_Same.f k bt1802.1 bt1802.2.1 bt1802.2.2.1 bt1809.1 bt1809.2.1 bt1809.2.2.1).bind fun t1816 => (ulplaw04_DyadShifts.j0 k a1 (!t1816) a0_0 l0_1 a0_2 bt1795.1 bt1795.2.1 bt1795.2.2.1)) else (ulplaw04_DyadShifts.j0 k a1 false a0_0 l0_1 a0_2 bt1795.1 bt1795.2.1 bt1795.2.2.1)) else (ulplaw04_DyadShifts.j0 k a1 true a0_0 l0_1 a0_2 bt1795.1 bt1795.2.1 bt1795.2.2.1)))) else (some ((bt1795.2.1.length : Int) == 0)))) else (some false))) = some r := h
 clear h
 obtain ⟨t1794, A3, H⟩ := zh H
 by_cases c4 : t1794 = true
 ·subst c4
  rw [if_pos rfl] at H
  obtain ⟨⟨t1795, t1796, t1799, t1800⟩, A5, H⟩ := zh H
  (try dsimp only at H)
  by_cases c6 : t1800 = 0
  ·rw [if_pos c6] at H
   have c6b0 := beq_iff_eq.mpr c6
   have c6b1 := bne_eq_false_iff_eq.mpr c6
   clear c6
   obtain ⟨⟨t1802, t1803, t1806, t1807⟩, A7, H⟩ := zh H
   (try dsimp only at H)
   obtain ⟨⟨t1809, t1810, t1813, t1814⟩, A8, H⟩ := zh H
   (try dsimp only at H)
   have HC9 := zA H
   clear H
   go_enter Tryd.func14, Tryd.ntmps14
   go_upto_region 8 with (first | ((with_reducible refine zD 2 rfl ?_); refine zn (N := 2) (cs := #[.bool a0_0, .slice A0_1 l0_1.length c0_1, .int .i64 a0_2]) (t := 25) rfl rfl ?_; intro gb1793 hg w10 hbox hb; have BK1793 := zA (hbox); have GW1793 := zw hg; replace HB := ze hb; clear hb hbox hg) | ((with_reducible refine zG 15 rfl ?_); refine zL (some 11) rfl rfl Tryd.func15 #[] rfl ?_; (with_reducible refine (ulplaw04_begins.calls k  true _ (laid_below hT zs) (zA (ulplaw04_begins.true_ k true A3.out)) A3.out).mono ?_); rintro e w11 ⟨rfl, hb⟩; refine ⟨_, rfl, ?_⟩; replace BK1793 := zb BK1793 hb; replace HB := zf hb; obtain ⟨hcz12_0, hcz12_1, hcz12_2, hfz12_0, hfz12_1, hfz12_2⟩ := zc BK1793) | ((with_reducible refine zG 31 rfl ?_); refine zL (some 16) rfl rfl Tryd.func31 #[.agg #[.bool a0_0, .slice A0_1 l0_1.length c0_1, .int .i64 a0_2], .int .i64 a1] rfl ?_; (with_reducible refine (dyad_Shift.calls k a0_0 (fun k_ => k_ < w.heap.size) _ _ l0_1 a0_2 a1 t1795 t1796 t1799 t1800 _ ?side1 (laid_below hT zs) A5.out).mono ?_); (case side1 => exact V_mk HC0_1.out (Kd.F_below (C_F (Kd.heap_int .u64) HR0_1.out) zs)); rintro e w13 ⟨v1797, rfl, ho0, hb⟩; refine ⟨_, rfl, ?_⟩; have HO1798 := zA (V_lower (V_mono (ok' := fun k_ => k_ ≠ gb1793) ho0 (fun k_ hk_ => Or.elim hk_ (fun hs_ => fun e_ => Nat.not_le.2 hs_ (by rw [e_]; exact GW1793.out)) (fun hn_ => (zj BK1793 k_ hn_)))) (below_size zs)); replace BK1793 := zb BK1793 hb; replace HB := zf hb; (try clear ho0)) | ((with_reducible refine zD 5 rfl ?_); refine zn (N := 5) (cs := #[.bool false, .slice none 0 0, .int .i64 0]) (t := 25) rfl rfl ?_; intro gb1801 hg w14 hbox hb; replace HO1798 := zA (V_below (V_elderB (vu HO1798.out) gb1801 (Nat.le_of_eq hg.symm)) hb); have BK1801 := zA (hbox); have GW1801 := zx hg; replace HB := zf hb; have NB1793_1801 := zl BK1793 hg; have NB1801_1793 := zg BK1793 hg; replace BK1793 := zb BK1793 hb; clear hb hbox hg; have hnb15 := NB1801_1793.out; have hnc15 := NB1793_1801.out; obtain ⟨hcz16_0, hcz16_1, hcz16_2, hfz16_0, hfz16_1, hfz16_2⟩ := zc BK1801; obtain ⟨Ao17, co17, eo17⟩ := V_slice HO1798.out; subst eo17) | ((with_reducible refine gate_store (t := 25) (p := 5) rfl ?_); refine store_event (t := 25) (p := 5) (v := ?vo_w18) (w1 := (((w14.setCell ⟨gb1801, 0, none⟩ (.bool t1795)).setCell ⟨gb1801, 1, none⟩ (.slice Ao17 t1796.length co17)).setCell ⟨gb1801, 2, none⟩ (.int .i64 t1799))) ?hg ?ho ?hn ?hr ?_; (case ho => rfl); (case hg => rfl); (case hn => rfl); (case hr => first | (go_simp; done) | (go_simp; rfl)); intro w18 hw; have n0_ : Aside0 (Kd.V (Kd.int .u64) 43 w18 w.heap.size (fun k_ => k_ ≠ gb1793 ∧ k_ ≠ gb1801) (.slice Ao17 t1796.length co17) t1796) := ⟨(by rw [hw]; exact (vu (V_mono (zv gb1801 (V_mono HO1798.out (fun k_ hk => (⟨hk, hk.2⟩ : _ ∧ k_ ≠ gb1801))) (fun _ hk => hk.2) _ _ _) (fun _ hk => ⟨hk.1.1, hk.1.2⟩))))⟩; have n1_ : Aside0 (w18.heap[gb1793]? = some (.cells #[.bool a0_0, .slice A0_1 l0_1.length c0_1, .int .i64 a0_2] 25 (0, 0))) := ⟨(by rw [hw]; exact (zE BK1793))⟩; have n2_ : Aside0 (w18.heap[gb1801]? = some (.cells #[.bool t1795, .slice Ao17 t1796.length co17, .int .i64 t1799] 25 (0, 0))) := ⟨(by rw [hw]; exact (zy BK1801))⟩; have n3_ : Aside0 (Below w.heap.size w w18) := ⟨(by rw [hw]; exact zs)⟩; clear hw; clear HO1798; clear BK1793; clear BK1801; clear HB; have HO1798 := n0_; have BK1793 := n1_; have BK1801 := n2_; have HB := n3_; clear n0_ n1_ n2_ n3_; obtain ⟨hcz19_0, hcz19_1, hcz19_2, hfz19_0, hfz19_1, hfz19_2⟩ := zc BK1801) | ((with_reducible refine zG 31 rfl ?_); refine zL (some 29) rfl rfl Tryd.func31 #[.agg #[.bool t1795, .slice Ao17 t1796.length co17, .int .i64 t1799], .int .i64 (wrap64 (-a1))] rfl ?_; (with_reducible refine (dyad_Shift.calls k t1795 (fun k_ => (k_ ≠ gb1793 ∧ k_ ≠ gb1801)) _ _ t1796 t1799 (wrap64 (-a1)) t1802 t1803 t1806 t1807 _ ?side1 (laid_below hT zs) A7.out).mono ?_); (case side1 => exact HO1798.out); rintro e w20 ⟨v1804, rfl, ho0, hb⟩; refine ⟨_, rfl, ?_⟩; replace HO1798 := zA (V_below (vu HO1798.out) hb); have HO1805 := zA (V_lower (V_mono (ok' := fun k_ => k_ ≠ gb1793 ∧ k_ ≠ gb1801) ho0 (fun k_ hk_ => ⟨Or.elim hk_ (fun hs_ => hs_.1) (fun hn_ => (zj BK1793 k_ hn_)), Or.elim hk_ (fun hs_ => hs_.2) (fun hn_ => (zj BK1801 k_ hn_))⟩)) (below_size zs)); replace BK1793 := zb BK1793 hb; replace BK1801 := zb BK1801 hb; replace HB := zf hb; (try clear ho0)) | ((with_reducible refine zD 7 rfl ?_); refine zn (N := 7) (cs := #[.bool false, .slice none 0 0, .int .i64 0]) (t := 25) rfl rfl ?_; intro gb1808 hg w21 hbox hb; replace HO1798 := zA (V_below (V_elderB (vu HO1798.out) gb1808 (Nat.le_of_eq hg.symm)) hb); replace HO1805 := zA (V_below (V_elderB (vu HO1805.out) gb1808 (Nat.le_of_eq hg.symm)) hb); have BK1808 := zA (hbox); have GW1808 := zx hg; replace HB := zf hb; have NB1793_1808 := zl BK1793 hg; have NB1808_1793 := zg BK1793 hg; replace BK1793 := zb BK1793 hb; have NB1801_1808 := zl BK1801 hg; have NB1808_1801 := zg BK1801 hg; replace BK1801 := zb BK1801 hb; clear hb hbox hg; have hnb22 := NB1808_1793.out; have hnc22 := NB1793_1808.out; have hnb23 := NB1808_1801.out; have hnc23 := NB1801_1808.out; obtain ⟨hcz24_0, hcz24_1, hcz24_2, hfz24_0, hfz24_1, hfz24_2⟩ := zc BK1808; obtain ⟨Ao25, co25, eo25⟩ := V_slice HO1805.out; subst eo25) | ((with_reducible refine gate_store (t := 25) (p := 7) rfl ?_); refine store_event (t := 25) (p := 7) (v := ?vo_w26) (w1 := (((w21.setCell ⟨gb1808, 0, none⟩ (.bool t1802)).setCell ⟨gb1808, 1, none⟩ (.slice Ao25 t1803.length co25)).setCell ⟨gb1808, 2, none⟩ (.int .i64 t1806))) ?hg ?ho ?hn ?hr ?_; (case ho => rfl); (case hg => rfl); (case hn => rfl); (case hr => first | (go_simp; done) | (go_simp; rfl)); intro w26 hw; have n0_ : Aside0 (Kd.V (Kd.int .u64) 43 w26 w.heap.size (fun k_ => k_ ≠ gb1793 ∧ k_ ≠ gb1801 ∧ k_ ≠ gb1808) (.slice Ao17 t1796.length co17) t1796) := ⟨(by rw [hw]; exact (vu (V_mono (zv gb1808 (V_mono HO1798.out (fun k_ hk => (⟨hk, hk.2⟩ : _ ∧ k_ ≠ gb1808))) (fun _ hk => hk.2) _ _ _) (fun _ hk => ⟨hk.1.1.1, ⟨hk.1.1.2, hk.1.2⟩⟩))))⟩; have n1_ : Aside0 (Kd.V (Kd.int .u64) 43 w26 w.heap.size (fun k_ => k_ ≠ gb1793 ∧ k_ ≠ gb1801 ∧ k_ ≠ gb1808) (.slice Ao25 t1803.length co25) t1803) := ⟨(by rw [hw]; exact (vu (V_mono (zv gb1808 (V_mono HO1805.out (fun k_ hk => (⟨hk, hk.2⟩ : _ ∧ k_ ≠ gb1808))) (fun _ hk => hk.2) _ _ _) (fun _ hk => ⟨hk.1.1.1, ⟨hk.1.1.2, hk.1.2⟩⟩))))⟩; have n2_ : Aside0 (w26.heap[gb1793]? = some (.cells #[.bool a0_0, .slice A0_1 l0_1.length c0_1, .int .i64 a0_2] 25 (0, 0))) := ⟨(by rw [hw]; exact (zE BK1793))⟩; have n3_ : Aside0 (w26.heap[gb1801]? = some (.cells #[.bool t1795, .slice Ao17 t1796.length co17, .int .i64 t1799] 25 (0, 0))) := ⟨(by rw [hw]; exact (zE BK1801))⟩; have n4_ : Aside0 (w26.heap[gb1808]? = some (.cells #[.bool t1802, .slice Ao25 t1803.length co25, .int .i64 t1806] 25 (0, 0))) := ⟨(by rw [hw]; exact (zy BK1808))⟩; have n5_ : Aside0 (Below w.heap.size w w26) := ⟨(by rw [hw]; exact zs)⟩; clear hw; clear HO1798; clear HO1805; clear BK1793; clear BK1801; clear BK1808; clear HB; have HO1798 := n0_; have HO1805 := n1_; have BK1793 := n2_; have BK1801 := n3_; have BK1808 := n4_; have HB := n5_; clear n0_ n1_ n2_ n3_ n4_ n5_; obtain ⟨hcz27_0, hcz27_1, hcz27_2, hfz27_0, hfz27_1, hfz27_2⟩ := zc BK1793) | ((with_reducible refine zG 19 rfl ?_); refine zL (some 34) rfl rfl Tryd.func19 #[.agg #[.bool a0_0, .slice A0_1 l0_1.length c0_1, .int .i64 a0_2]] rfl ?_; (with_reducible refine (dyad_Canon.calls k a0_0 (fun k_ => k_ < w.heap.size) _ _ l0_1 a0_2 t1809 t1810 t1813 t1814 _ ?side1 (laid_below hT zs) A8.out).mono ?_); (case side1 => exact V_mk HC0_1.out (Kd.F_below (C_F (Kd.heap_int .u64) HR0_1.out) zs)); rintro e w28 ⟨v1811, rfl, ho0, hb⟩; refine ⟨_, rfl, ?_⟩; replace HO1798 := zA (V_below (vu HO1798.out) hb); replace HO1805 := zA (V_below (vu HO1805.out) hb); have HO1812 := zA (V_lower (V_mono (ok' := fun k_ => k_ ≠ gb1793 ∧ k_ ≠ gb1801 ∧ k_ ≠ gb1808) ho0 (fun k_ hk_ => ⟨Or.elim hk_ (fun hs_ => fun e_ => Nat.not_le.2 hs_ (by rw [e_]; exact GW1793.out)) (fun hn_ => (zj BK1793 k_ hn_)), Or.elim hk_ (fun hs_ => fun e_ => Nat.not_le.2 hs_ (by rw [e_]; exact GW1801.out)) (fun hn_ => (zj BK1801 k_ hn_)), Or.elim hk_ (fun hs_ => fun e_ => Nat.not_le.2 hs_ (by rw [e_]; exact GW1808.out)) (fun hn_ => (zj BK1808 k_ hn_))⟩)) (below_size zs)); replace BK1793 := zb BK1793 hb; replace BK1801 := zb BK1801 hb; replace BK1808 := zb BK1808 hb; replace HB := zf hb; (try clear ho0)) | ((with_reducible refine zD 8 rfl ?_); refine zn (N := 8) (cs := #[.bool false, .slice none 0 0, .int .i64 0]) (t := 25) rfl rfl ?_; intro gb1815 hg w29 hbox hb; replace HO1798 := zA (V_below (V_elderB (vu HO1798.out) gb1815 (Nat.le_of_eq hg.symm)) hb); replace HO1805 := zA (V_below (V_elderB (vu HO1805.out) gb1815 (Nat.le_of_eq hg.symm)) hb); replace HO1812 := zA (V_below (V_elderB (vu HO1812.out) gb1815 (Nat.le_of_eq hg.symm)) hb); have BK1815 := zA (hbox); have GW1815 := zx hg; replace HB := zf hb; have NB1793_1815 := zl BK1793 hg; have NB1815_1793 := zg BK1793 hg; replace BK1793 := zb BK1793 hb; have NB1801_1815 := zl BK1801 hg; have NB1815_1801 := zg BK1801 hg; replace BK1801 := zb BK1801 hb; have NB1808_1815 := zl BK1808 hg; have NB1815_1808 := zg BK1808 hg; replace BK1808 := zb BK1808 hb; clear hb hbox hg; have hnb30 := NB1815_1793.out; have hnc30 := NB1793_1815.out; have hnb31 := NB1815_1801.out; have hnc31 := NB1801_1815.out; have hnb32 := NB1815_1808.out; have hnc32 := NB1808_1815.out; obtain ⟨hcz33_0, hcz33_1, hcz33_2, hfz33_0, hfz33_1, hfz33_2⟩ := zc BK1815; obtain ⟨Ao34, co34, eo34⟩ := V_slice HO1812.out; subst eo34))
   (try simp only [Act.put, List.setIfInBounds_toArray, List.set_cons_zero, List.set_cons_succ])
   go_cut [49] (fun v49 wc => ∃ (kq : Nat) (x49_8 : Bool), v49 = .bool x49_8 ∧ Aside0 (ulplaw04_DyadShifts.j0 kq a1 x49_8 a0_0 l0_1 a0_2 t1795 t1796 t1799 = some r) ∧ Aside0 (kq ≤ k) ∧ Aside0 (Kd.V (Kd.int .u64) 43 wc w.heap.size (fun k_ => k_ ≠ gb1793 ∧ k_ ≠ gb1801 ∧ k_ ≠ gb1808 ∧ k_ ≠ gb1815) (.slice Ao17 t1796.length co17) t1796) ∧ Aside0 (Kd.V (Kd.int .u64) 43 wc w.heap.size (fun k_ => k_ ≠ gb1793 ∧ k_ ≠ gb1801 ∧ k_ ≠ gb1808 ∧ k_ ≠ gb1815) (.slice Ao25 t1803.length co25) t1803) ∧ Aside0 (Kd.V (Kd.int .u64) 43 wc w.heap.size (fun k_ => k_ ≠ gb1793 ∧ k_ ≠ gb1801 ∧ k_ ≠ gb1808 ∧ k_ ≠ gb1815) (.slice Ao34 t1810.length co34) t1810) ∧ Aside0 (wc.heap[gb1793]? = some (.cells #[.bool a0_0, (.slice A0_1 l0_1.length c0_1), .int .i64 a0_2] 25 (0, 0))) ∧ Aside0 (wc.heap[gb1801]? = some (.cells #[.bool t1795, (.slice Ao17 t1796.length co17), .int .i64 t1799] 25 (0, 0))) ∧ Aside0 (wc.heap[gb1808]? = some (.cells #[.bool t1802, (.slice Ao25 t1803.length co25), .int .i64 t1806] 25 (0, 0))) ∧ Aside0 (wc.heap[gb1815]? = some (.cells #[.bool t1809, (.slice Ao34 t1810.length co34), .int .i64 t1813] 25 (0, 0))) ∧ Aside0 (Below w.heap.size w wc))
   case first =>
    have H := HC9.out
    clear HC9
    by_cases c35 : t1807 = t1814
    ·rw [if_pos c35] at H
     have c35b0 := beq_iff_eq.mpr c35
     have c35b1 := bne_eq_false_iff_eq.mpr c35
     clear c35
     (first | rw [c35b0] | (simp only [i64_w, i32_w]; rw [c35b0]) | skip)
     by_cases c36 : t1807 = 0
     ·rw [if_pos c36] at H
      have c36b0 := beq_iff_eq.mpr c36
      have c36b1 := bne_eq_false_iff_eq.mpr c36
      clear c36
      obtain ⟨t1816, A37, H⟩ := zh H
      have H' := zA H
      clear H
      have hnb38 := NB1808_1793.out
      have hnc38 := NB1793_1808.out
      have hnb39 := NB1808_1801.out
      have hnc39 := NB1801_1808.out
      have hnb40 := NB1808_1815.out
      have hnc40 := NB1815_1808.out
      obtain ⟨_, _, _, _, _, _⟩ := zc BK1808
      have hnb42 := NB1815_1793.out
      have hnc42 := NB1793_1815.out
      have hnb43 := NB1815_1801.out
      have hnc43 := NB1801_1815.out
      obtain ⟨_, _, _, _, _, _⟩ := zc BK1815
      go_wp2_with (first | (go_at_call 23; (with_reducible refine (ulpref04_Same.calls k t1802 _ _ t1803 t1806 t1809 _ _ t1810 t1813 t1816 _ ?side1 ?side2 ?side3 ?side4 A37.out).mono ?_); (case side1 => refine (V_reads' (e := 43) (base := w.heap.size) (ok := fun k_ => ((k_ ≠ gb1793 ∧ (k_ ≠ gb1801 ∧ k_ ≠ gb1808)) ∧ k_ ≠ gb1815)) (n := t1803.length) (c := co25) ?_).2.2; exact (vu (V_mono (zv gb1815 (V_mono HO1805.out (fun k_ hk => (⟨hk, hk.2⟩ : _ ∧ k_ ≠ gb1815))) (fun _ hk => hk.2) _ _ _) (fun _ h_ => h_.1)))); (case side2 => exact (V_reads' HO1805.out).2.1); (case side3 => refine (V_reads' (e := 43) (base := w.heap.size) (ok := fun k_ => ((k_ ≠ gb1793 ∧ (k_ ≠ gb1801 ∧ k_ ≠ gb1808)) ∧ k_ ≠ gb1815)) (n := t1810.length) (c := co34) ?_).2.2; exact (vu (V_mono (zv gb1815 (V_mono HO1812.out (fun k_ hk => (⟨hk, hk.2⟩ : _ ∧ k_ ≠ gb1815))) (fun _ hk => hk.2) _ _ _) (fun _ h_ => h_.1)))); (case side4 => exact (V_reads' HO1812.out).2.1); rintro e w45 ⟨rfl, hb⟩; replace HO1798 := zA (V_below (vu (V_mono (zv gb1815 (V_mono HO1798.out (fun k_ hk => (⟨hk, hk.2⟩ : _ ∧ k_ ≠ gb1815))) (fun _ hk => hk.2) _ _ _) (fun _ h_ => h_.1))) hb); replace HO1805 := zA (V_below (vu (V_mono (zv gb1815 (V_mono HO1805.out (fun k_ hk => (⟨hk, hk.2⟩ : _ ∧ k_ ≠ gb1815))) (fun _ hk => hk.2) _ _ _) (fun _ h_ => h_.1))) hb); replace HO1812 := zA (V_below (vu (V_mono (zv gb1815 (V_mono HO1812.out (fun k_ hk => (⟨hk, hk.2⟩ : _ ∧ k_ ≠ gb1815))) (fun _ hk => hk.2) _ _ _) (fun _ h_ => h_.1))) hb); replace BK1793 := zF BK1793 hb; replace BK1801 := zF BK1801 hb; replace BK1808 := zF BK1808 hb; replace BK1815 := zt BK1815 hb; replace HB := zf hb; (try clear hk)))
      go_meet
      case rel => exact ⟨_, (!t1816), zi, H', ⟨by first | omega | exact Nat.le_refl _⟩, ⟨vu (V_mono HO1798.out (fun _ hk => ⟨hk.1.1, ⟨hk.1.2.1, ⟨hk.1.2.2, hk.2⟩⟩⟩))⟩, ⟨vu (V_mono HO1805.out (fun _ hk => ⟨hk.1.1, ⟨hk.1.2.1, ⟨hk.1.2.2, hk.2⟩⟩⟩))⟩, ⟨vu (V_mono HO1812.out (fun _ hk => ⟨hk.1.1, ⟨hk.1.2.1, ⟨hk.1.2.2, hk.2⟩⟩⟩))⟩, ⟨zu BK1793⟩, ⟨zu BK1801⟩, ⟨zu BK1808⟩, ⟨zu BK1815⟩, ⟨zs⟩⟩
     rw [if_neg c36] at H
     have c36b0 := beq_eq_false_iff_ne.mpr c36
     have c36b1 := bne_iff_ne.mpr c36
     have H' := zA H
     clear H
     go_wp2
     go_meet
     case rel => exact ⟨_, (false), zi, H', ⟨by first | omega | exact Nat.le_refl _⟩, ⟨vu (V_mono (zv gb1815 (V_mono HO1798.out (fun k_ hk => (⟨hk, hk.2⟩ : _ ∧ k_ ≠ gb1815))) (fun _ hk => hk.2) _ _ _) (fun _ hk => ⟨hk.1.1.1, ⟨hk.1.1.2.1, ⟨hk.1.1.2.2, hk.1.2⟩⟩⟩))⟩, ⟨vu (V_mono (zv gb1815 (V_mono HO1805.out (fun k_ hk => (⟨hk, hk.2⟩ : _ ∧ k_ ≠ gb1815))) (fun _ hk => hk.2) _ _ _) (fun _ hk => ⟨hk.1.1.1, ⟨hk.1.1.2.1, ⟨hk.1.1.2.2, hk.1.2⟩⟩⟩))⟩, ⟨vu (V_mono (zv gb1815 (V_mono HO1812.out (fun k_ hk => (⟨hk, hk.2⟩ : _ ∧ k_ ≠ gb1815))) (fun _ hk => hk.2) _ _ _) (fun _ hk => ⟨hk.1.1.1, ⟨hk.1.1.2.1, ⟨hk.1.1.2.2, hk.1.2⟩⟩⟩))⟩, ⟨by (with_reducible repeat (first | refine blk_drewN ?_ _ | refine blk_drew ?_ | refine blk_alloc ?_ _)); refine blk_far ?_ NB1793_1815.out _; refine blk_far ?_ NB1793_1815.out _; refine blk_far ?_ NB1793_1815.out _; exact BK1793.out⟩, ⟨by (with_reducible repeat (first | refine blk_drewN ?_ _ | refine blk_drew ?_ | refine blk_alloc ?_ _)); refine blk_far ?_ NB1801_1815.out _; refine blk_far ?_ NB1801_1815.out _; refine blk_far ?_ NB1801_1815.out _; exact BK1801.out⟩, ⟨by (with_reducible repeat (first | refine blk_drewN ?_ _ | refine blk_drew ?_ | refine blk_alloc ?_ _)); refine blk_far ?_ NB1808_1815.out _; refine blk_far ?_ NB1808_1815.out _; refine blk_far ?_ NB1808_1815.out _; exact BK1808.out⟩, ⟨by (with_reducible repeat (first | refine blk_drewN ?_ _ | refine blk_drew ?_ | refine blk_alloc ?_ _)); exact zp (zu BK1815)⟩, ⟨zs⟩⟩
    rw [if_neg c35] at H
    have c35b0 := beq_eq_false_iff_ne.mpr c35
    have c35b1 := bne_iff_ne.mpr c35
    (first | rw [c35b0] | (simp only [i64_w, i32_w]; rw [c35b0]) | skip)
    have H' := zA H
    clear H
    go_wp2
    go_meet
    case rel => exact ⟨_, (true), zi, H', ⟨by first | omega | exact Nat.le_refl _⟩, ⟨vu (V_mono (zv gb1815 (V_mono HO1798.out (fun k_ hk => (⟨hk, hk.2⟩ : _ ∧ k_ ≠ gb1815))) (fun _ hk => hk.2) _ _ _) (fun _ hk => ⟨hk.1.1.1, ⟨hk.1.1.2.1, ⟨hk.1.1.2.2, hk.1.2⟩⟩⟩))⟩, ⟨vu (V_mono (zv gb1815 (V_mono HO1805.out (fun k_ hk => (⟨hk, hk.2⟩ : _ ∧ k_ ≠ gb1815))) (fun _ hk => hk.2) _ _ _) (fun _ hk => ⟨hk.1.1.1, ⟨hk.1.1.2.1, ⟨hk.1.1.2.2, hk.1.2⟩⟩⟩))⟩, ⟨vu (V_mono (zv gb1815 (V_mono HO1812.out (fun k_ hk => (⟨hk, hk.2⟩ : _ ∧ k_ ≠ gb1815))) (fun _ hk => hk.2) _ _ _) (fun _ hk => ⟨hk.1.1.1, ⟨hk.1.1.2.1, ⟨hk.1.1.2.2, hk.1.2⟩⟩⟩))⟩, ⟨by (with_reducible repeat (first | refine blk_drewN ?_ _ | refine blk_drew ?_ | refine blk_alloc ?_ _)); refine blk_far ?_ NB1793_1815.out _; refine blk_far ?_ NB1793_1815.out _; refine blk_far ?_ NB1793_1815.out _; exact BK1793.out⟩, ⟨by (with_reducible repeat (first | refine blk_drewN ?_ _ | refine blk_drew ?_ | refine blk_alloc ?_ _)); refine blk_far ?_ NB1801_1815.out _; refine blk_far ?_ NB1801_1815.out _; refine blk_far ?_ NB1801_1815.out _; exact BK1801.out⟩, ⟨by (with_reducible repeat (first | refine blk_drewN ?_ _ | refine blk_drew ?_ | refine blk_alloc ?_ _)); refine blk_far ?_ NB1808_1815.out _; refine blk_far ?_ NB1808_1815.out _; refine blk_far ?_ NB1808_1815.out _; exact BK1808.out⟩, ⟨by (with_reducible repeat (first | refine blk_drewN ?_ _ | refine blk_drew ?_ | refine blk_alloc ?_ _)); exact zp (zu BK1815)⟩, ⟨zs⟩⟩
   case rest =>
    clear HC9
    try clear c4
    try clear c6
    try clear c6b0
    try clear c6b1
    try clear c35
    try clear c35b0
    try clear c35b1
    try clear c36
    try clear c36b0
    try clear c36b1
    try clear hcz12_0 hcz12_1 hcz12_2 hfz12_0 hfz12_1 hfz12_2
    try clear hcz16_0 hcz16_1 hcz16_2 hfz16_0 hfz16_1 hfz16_2
    try clear hcz19_0 hcz19_1 hcz19_2 hfz19_0 hfz19_1 hfz19_2
    try clear hcz24_0 hcz24_1 hcz24_2 hfz24_0 hfz24_1 hfz24_2
    try clear hcz27_0 hcz27_1 hcz27_2 hfz27_0 hfz27_1 hfz27_2
    try clear hcz33_0 hcz33_1 hcz33_2 hfz33_0 hfz33_1 hfz33_2
    obtain ⟨kq, x49_8, rfl, HA, HJ8, HO_1802001, HO_1809001, HO_1816001, BK1793, BK1801, BK1808, BK1815, HB⟩ := hcut
    cases kq with
    | zero => exact absurd HA.out (by simp [ulplaw04_DyadShifts.j0])
    | succ kj8 =>
     have H := HA.out
     clear HA
     simp only [ulplaw04_DyadShifts.j0] at H
     by_cases c46 : x49_8 = true
     ·subst c46
      rw [if_pos rfl] at H
      obtain rfl := Option.some.inj H
      exact absurd hr_.out (by decide)
     replace c46 := Bool.eq_false_iff.mpr c46
     subst c46
     rw [if_neg (show ¬ (false = true) by decide)] at H
     have HC47 := zA H
     clear H
     go_upto_region 10 with (fail)
     go_cut [55] (fun v55 wc => ∃ (kq : Nat) (x55_46 : Bool), v55 = .bool x55_46 ∧ Aside0 (ulplaw04_DyadShifts.j1 kq a1 x55_46 a0_0 l0_1 a0_2 t1795 t1796 t1799 = some r) ∧ Aside0 (kq ≤ kj8) ∧ Aside0 (Kd.V (Kd.int .u64) 43 wc w.heap.size (fun k_ => k_ ≠ gb1793 ∧ k_ ≠ gb1801 ∧ k_ ≠ gb1808 ∧ k_ ≠ gb1815) (.slice Ao17 t1796.length co17) t1796) ∧ Aside0 (Kd.V (Kd.int .u64) 43 wc w.heap.size (fun k_ => k_ ≠ gb1793 ∧ k_ ≠ gb1801 ∧ k_ ≠ gb1808 ∧ k_ ≠ gb1815) (.slice Ao25 t1803.length co25) t1803) ∧ Aside0 (Kd.V (Kd.int .u64) 43 wc w.heap.size (fun k_ => k_ ≠ gb1793 ∧ k_ ≠ gb1801 ∧ k_ ≠ gb1808 ∧ k_ ≠ gb1815) (.slice Ao34 t1810.length co34) t1810) ∧ Aside0 (wc.heap[gb1793]? = some (.cells #[.bool a0_0, (.slice A0_1 l0_1.length c0_1), .int .i64 a0_2] 25 (0, 0))) ∧ Aside0 (wc.heap[gb1801]? = some (.cells #[.bool t1795, (.slice Ao17 t1796.length co17), .int .i64 t1799] 25 (0, 0))) ∧ Aside0 (wc.heap[gb1808]? = some (.cells #[.bool t1802, (.slice Ao25 t1803.length co25), .int .i64 t1806] 25 (0, 0))) ∧ Aside0 (wc.heap[gb1815]? = some (.cells #[.bool t1809, (.slice Ao34 t1810.length co34), .int .i64 t1813] 25 (0, 0))) ∧ Aside0 (Below w.heap.size w wc))
     case first =>
      have H := HC47.out
      clear HC47
      by_cases c48 : a1 < (-32768)
      ·rw [if_pos c48] at H
       have c48b0 := decide_eq_true c48
       clear c48
       (first | rw [c48b0] | (simp only [i64_w, i32_w]; rw [c48b0]) | skip)
       have H' := zA H
       clear H
       go_wp2
       go_meet
       case rel => exact ⟨_, (true), zi, H', ⟨by have := HJ8.out; first | omega | exact Nat.le_refl _⟩, ⟨vu HO_1802001.out⟩, ⟨vu HO_1809001.out⟩, ⟨vu HO_1816001.out⟩, ⟨zu BK1793⟩, ⟨zu BK1801⟩, ⟨zu BK1808⟩, ⟨zu BK1815⟩, ⟨zs⟩⟩
      rw [if_neg c48] at H
      have c48b0 := decide_eq_false c48
      clear c48
      (first | rw [c48b0] | (simp only [i64_w, i32_w]; rw [c48b0]) | skip)
      have H' := zA H
      clear H
      go_wp2
      go_meet
      case rel => exact ⟨_, (decide (a1 > 32768)), zi, H', ⟨by have := HJ8.out; first | omega | exact Nat.le_refl _⟩, ⟨vu HO_1802001.out⟩, ⟨vu HO_1809001.out⟩, ⟨vu HO_1816001.out⟩, ⟨zu BK1793⟩, ⟨zu BK1801⟩, ⟨zu BK1808⟩, ⟨zu BK1815⟩, ⟨zs⟩⟩
     case rest =>
      clear HC47
      try clear c4
      try clear c6
      try clear c6b0
      try clear c6b1
      try clear c35
      try clear c35b0
      try clear c35b1
      try clear c36
      try clear c36b0
      try clear c36b1
      try clear c46
      try clear c48
      try clear c48b0
      try clear hcz12_0 hcz12_1 hcz12_2 hfz12_0 hfz12_1 hfz12_2
      try clear hcz16_0 hcz16_1 hcz16_2 hfz16_0 hfz16_1 hfz16_2
      try clear hcz19_0 hcz19_1 hcz19_2 hfz19_0 hfz19_1 hfz19_2
      try clear hcz24_0 hcz24_1 hcz24_2 hfz24_0 hfz24_1 hfz24_2
      try clear hcz27_0 hcz27_1 hcz27_2 hfz27_0 hfz27_1 hfz27_2
      try clear hcz33_0 hcz33_1 hcz33_2 hfz33_0 hfz33_1 hfz33_2
      obtain ⟨kq, x55_46, rfl, HA, HJ46, HO_1802001, HO_1809001, HO_1816001, BK1793, BK1801, BK1808, BK1815, HB⟩ := hcut
      cases kq with
      | zero => exact absurd HA.out (by simp [ulplaw04_DyadShifts.j1])
      | succ kj46 =>
       have H := HA.out
       clear HA
       simp only [ulplaw04_DyadShifts.j1] at H
       by_cases c49 : x55_46 = true
       ·subst c49
        rw [if_pos rfl] at H
        clear hr_
        obtain rfl := Option.some.inj H
        go_wp2
        go_ret
        exact ⟨er, zs⟩
       replace c49 := Bool.eq_false_iff.mpr c49
       subst c49
       rw [if_neg (show ¬ (false = true) by decide)] at H
       obtain ⟨y1817, hy1817⟩ : ∃ y_ : List Int, y_ = (([1] : List Int)) := ⟨_, rfl⟩
       replace H : ((dyad_Mul.f kj46 a0_0 l0_1 a0_2 false y1817 a1).bind fun bt1820 => (if bt1820.2.2.2 = 0 then ((ulpref04_Same.f kj46 bt1820.1 bt1820.2.1 bt1820.2.2.1 t1795 t1796 t1799).bind fun t1827 => (some t1827)) else (some false))) = some r := zR hy1817 H
       have Ny1817 := zA hy1817
       clear hy1817
       obtain ⟨⟨t1820, t1821, t1824, t1825⟩, A50, H⟩ := zh H
       (try dsimp only at H)
       by_cases c51 : t1825 = 0
       ·rw [if_pos c51] at H
        have c51b0 := beq_iff_eq.mpr c51
        have c51b1 := bne_eq_false_iff_eq.mpr c51
        clear c51
        obtain ⟨t1827, A52, H⟩ := zh H
        clear hr_
        obtain rfl := Option.some.inj H
        have hnb53 := NB1793_1801.out
        have hnc53 := NB1801_1793.out
        have hnb54 := NB1793_1808.out
        have hnc54 := NB1808_1793.out
        have hnb55 := NB1793_1815.out
        have hnc55 := NB1815_1793.out
        obtain ⟨_, _, _, _, _, _⟩ := zc BK1793
        go_wp2_with (first | ((with_reducible refine zD 58 rfl ?_); refine R_lit (Kd.int .u64) _ 43 ?hg (N := 58) ?hd (xs := ([1] : List Int)) (inner := [.int .u64 1]) (ok := fun _ => True) (okp := fun _ => True) ?hr ?hp (fun _ hk => hk) trivial (Below.refl _ _) (Nat.le_refl _) (by simp) ?_; (case hd => rfl); (case hg => rfl); (case hr => first | (go_simp; done) | (go_simp; rfl)); (case hp => exact (Reps.one (show Kd.M (Kd.int .u64) _ _ _ 1 [.int .u64 1] from rfl) (Reps.none _ _))); intro v1818 w57 ho58 hb hg_ hnew_; clear hg_ hnew_; (first | rw [← Ny1817.out] at ho58 | (simp only [Int.reduceToNat] at ho58; rw [← Ny1817.out] at ho58)); replace HO_1802001 := zA (V_elder' (vu HO_1802001.out) (R_base ho58) hb); replace HO_1809001 := zA (V_elder' (vu HO_1809001.out) (R_base ho58) hb); replace HO_1816001 := zA (V_elder' (vu HO_1816001.out) (R_base ho58) hb); have HO1819 := zA (R_lower ho58 (below_size zs)); replace BK1793 := zb BK1793 hb; replace BK1801 := zb BK1801 hb; replace BK1808 := zb BK1808 hb; replace BK1815 := zb BK1815 hb; replace HB := zf hb; clear hb ho58; obtain ⟨Ao59, co59, eo59⟩ := R_slice HO1819.out; subst eo59) | ((with_reducible refine zG 53 rfl ?_); refine zL (some 61) rfl rfl Tryd.func53 #[.agg #[.bool a0_0, .slice A0_1 l0_1.length c0_1, .int .i64 a0_2], .agg #[.bool false, .slice Ao59 y1817.length co59, .int .i64 a1]] rfl ?_; (with_reducible refine (dyad_Mul.calls kj46 a0_0 (fun k_ => k_ < w.heap.size) _ _ l0_1 a0_2 false (fun k_ => some k_ = (.slice Ao59 y1817.length co59 : Value).ownBlock) _ _ y1817 a1 t1820 t1821 t1824 t1825 _ ?side1 ?side2 (laid_below hT zs) A50.out).mono ?_); (case side1 => exact V_mk HC0_1.out (Kd.F_below (C_F (Kd.heap_int .u64) HR0_1.out) zs)); (case side2 => exact R_V (R_tight rfl (R_types (R_types (R_types (R_types (HO1819.out) BK1793.out (by decide)) BK1801.out (by decide)) BK1808.out (by decide)) BK1815.out (by decide)))); rintro e w60 ⟨v1822, rfl, ho0, hb⟩; refine ⟨_, rfl, ?_⟩; replace HO_1802001 := zA (V_below (vu HO_1802001.out) hb); replace HO_1809001 := zA (V_below (vu HO_1809001.out) hb); replace HO_1816001 := zA (V_below (vu HO_1816001.out) hb); have HO1823 := zA (V_lower (V_mono (ok' := fun k_ => k_ ≠ gb1793 ∧ k_ ≠ gb1801 ∧ k_ ≠ gb1808 ∧ k_ ≠ gb1815) ho0 (fun k_ hk_ => ⟨Or.elim hk_ (fun hs_ => Or.elim hs_ (fun hs_ => fun e_ => Nat.not_le.2 hs_ (by rw [e_]; exact GW1793.out)) (fun hs_ => ((R_types (R_types (R_types (R_types (HO1819.out) BK1793.out (by decide)) BK1801.out (by decide)) BK1808.out (by decide)) BK1815.out (by decide)).1 k_ hs_.symm).1.1.1.2)) (fun hn_ => (zj BK1793 k_ hn_)), Or.elim hk_ (fun hs_ => Or.elim hs_ (fun hs_ => fun e_ => Nat.not_le.2 hs_ (by rw [e_]; exact GW1801.out)) (fun hs_ => ((R_types (R_types (R_types (R_types (HO1819.out) BK1793.out (by decide)) BK1801.out (by decide)) BK1808.out (by decide)) BK1815.out (by decide)).1 k_ hs_.symm).1.1.2)) (fun hn_ => (zj BK1801 k_ hn_)), Or.elim hk_ (fun hs_ => Or.elim hs_ (fun hs_ => fun e_ => Nat.not_le.2 hs_ (by rw [e_]; exact GW1808.out)) (fun hs_ => ((R_types (R_types (R_types (R_types (HO1819.out) BK1793.out (by decide)) BK1801.out (by decide)) BK1808.out (by decide)) BK1815.out (by decide)).1 k_ hs_.symm).1.2)) (fun hn_ => (zj BK1808 k_ hn_)), Or.elim hk_ (fun hs_ => Or.elim hs_ (fun hs_ => fun e_ => Nat.not_le.2 hs_ (by rw [e_]; exact GW1815.out)) (fun hs_ => ((R_types (R_types (R_types (R_types (HO1819.out) BK1793.out (by decide)) BK1801.out (by decide)) BK1808.out (by decide)) BK1815.out (by decide)).1 k_ hs_.symm).2)) (fun hn_ => (zj BK1815 k_ hn_))⟩)) (below_size zs)); replace HO1819 := zA (R_below (ru HO1819.out) hb); replace BK1793 := zb BK1793 hb; replace BK1801 := zb BK1801 hb; replace BK1808 := zb BK1808 hb; replace BK1815 := zb BK1815 hb; replace HB := zf hb; (try clear ho0)) | ((with_reducible refine zD 10 rfl ?_); refine zn (N := 10) (cs := #[.bool false, .slice none 0 0, .int .i64 0]) (t := 25) rfl rfl ?_; intro gb1826 hg w61 hbox hb; replace HO_1802001 := zA (V_below (V_elderB (vu HO_1802001.out) gb1826 (Nat.le_of_eq hg.symm)) hb); replace HO_1809001 := zA (V_below (V_elderB (vu HO_1809001.out) gb1826 (Nat.le_of_eq hg.symm)) hb); replace HO_1816001 := zA (V_below (V_elderB (vu HO_1816001.out) gb1826 (Nat.le_of_eq hg.symm)) hb); replace HO1819 := zA (R_below (ru HO1819.out) hb); replace HO1823 := zA (V_below (V_elderB (vu HO1823.out) gb1826 (Nat.le_of_eq hg.symm)) hb); have BK1826 := zA (hbox); have GW1826 := zx hg; replace HB := zf hb; have NB1793_1826 := zl BK1793 hg; have NB1826_1793 := zg BK1793 hg; replace BK1793 := zb BK1793 hb; have NB1801_1826 := zl BK1801 hg; have NB1826_1801 := zg BK1801 hg; replace BK1801 := zb BK1801 hb; have NB1808_1826 := zl BK1808 hg; have NB1826_1808 := zg BK1808 hg; replace BK1808 := zb BK1808 hb; have NB1815_1826 := zl BK1815 hg; have NB1826_1815 := zg BK1815 hg; replace BK1815 := zb BK1815 hb; clear hb hbox hg; have hnb62 := NB1826_1793.out; have hnc62 := NB1793_1826.out; have hnb63 := NB1826_1801.out; have hnc63 := NB1801_1826.out; have hnb64 := NB1826_1808.out; have hnc64 := NB1808_1826.out; have hnb65 := NB1826_1815.out; have hnc65 := NB1815_1826.out; obtain ⟨hcz66_0, hcz66_1, hcz66_2, hfz66_0, hfz66_1, hfz66_2⟩ := zc BK1826; obtain ⟨Ao67, co67, eo67⟩ := V_slice HO1823.out; subst eo67; have hnb68 := NB1801_1808.out; have hnc68 := NB1808_1801.out; have hnb69 := NB1801_1815.out; have hnc69 := NB1815_1801.out; obtain ⟨hcz70_0, hcz70_1, hcz70_2, hfz70_0, hfz70_1, hfz70_2⟩ := zc BK1801) | (go_at_call 23; (with_reducible refine (ulpref04_Same.calls kj46 t1820 _ _ t1821 t1824 t1795 _ _ t1796 t1799 t1827 _ ?side1 ?side2 ?side3 ?side4 A52.out).mono ?_); (case side1 => refine (V_reads' (e := 43) (base := w.heap.size) (ok := fun k_ => ((k_ ≠ gb1793 ∧ (k_ ≠ gb1801 ∧ (k_ ≠ gb1808 ∧ k_ ≠ gb1815))) ∧ k_ ≠ gb1826)) (n := t1821.length) (c := co67) ?_).2.2; exact (vu (V_mono (zv gb1826 (V_mono HO1823.out (fun k_ hk => (⟨hk, hk.2⟩ : _ ∧ k_ ≠ gb1826))) (fun _ hk => hk.2) _ _ _) (fun _ h_ => h_.1)))); (case side2 => exact (V_reads' HO1823.out).2.1); (case side3 => refine (V_reads' (e := 43) (base := w.heap.size) (ok := fun k_ => (((k_ ≠ gb1793 ∧ (k_ ≠ gb1801 ∧ (k_ ≠ gb1808 ∧ k_ ≠ gb1815))) ∧ some k_ ≠ (.slice Ao59 y1817.length co59 : Value).ownBlock) ∧ k_ ≠ gb1826)) (n := t1796.length) (c := co17) ?_).2.2; exact (vu (V_mono (zv gb1826 (V_mono HO_1802001.out (fun k_ hk => (⟨hk, hk.2⟩ : _ ∧ k_ ≠ gb1826))) (fun _ hk => hk.2) _ _ _) (fun _ h_ => h_.1)))); (case side4 => exact (V_reads' HO_1802001.out).2.1); rintro e w71 ⟨rfl, hb⟩; replace HO_1802001 := zA (V_below (vu (V_mono (zv gb1826 (V_mono HO_1802001.out (fun k_ hk => (⟨hk, hk.2⟩ : _ ∧ k_ ≠ gb1826))) (fun _ hk => hk.2) _ _ _) (fun _ h_ => h_.1))) hb); replace HO_1809001 := zA (V_below (vu (V_mono (zv gb1826 (V_mono HO_1809001.out (fun k_ hk => (⟨hk, hk.2⟩ : _ ∧ k_ ≠ gb1826))) (fun _ hk => hk.2) _ _ _) (fun _ h_ => h_.1))) hb); replace HO_1816001 := zA (V_below (vu (V_mono (zv gb1826 (V_mono HO_1816001.out (fun k_ hk => (⟨hk, hk.2⟩ : _ ∧ k_ ≠ gb1826))) (fun _ hk => hk.2) _ _ _) (fun _ h_ => h_.1))) hb); replace HO1819 := zA (R_below (ru (R_mono (zr gb1826 (R_types HO1819.out BK1826.out (by decide)) (fun _ hk => hk.2) _ _ _) (fun _ h_ => h_.1))) hb); replace HO1823 := zA (V_below (vu (V_mono (zv gb1826 (V_mono HO1823.out (fun k_ hk => (⟨hk, hk.2⟩ : _ ∧ k_ ≠ gb1826))) (fun _ hk => hk.2) _ _ _) (fun _ h_ => h_.1))) hb); replace BK1793 := zF BK1793 hb; replace BK1801 := zF BK1801 hb; replace BK1808 := zF BK1808 hb; replace BK1815 := zF BK1815 hb; replace BK1826 := zt BK1826 hb; replace HB := zf hb; (try clear hk)))
        go_ret
        exact ⟨er, zs⟩
       rw [if_neg c51] at H
       have c51b0 := beq_eq_false_iff_ne.mpr c51
       have c51b1 := bne_iff_ne.mpr c51
       obtain rfl := Option.some.inj H
       exact absurd hr_.out (by decide)
  rw [if_neg c6] at H
  have c6b0 := beq_eq_false_iff_ne.mpr c6
  have c6b1 := bne_iff_ne.mpr c6
  clear hr_
  obtain rfl := Option.some.inj H
  go_enter Tryd.func14, Tryd.ntmps14
  go_wp2_with (first | ((with_reducible refine zD 2 rfl ?_); refine zn (N := 2) (cs := #[.bool a0_0, .slice A0_1 l0_1.length c0_1, .int .i64 a0_2]) (t := 25) rfl rfl ?_; intro gb1793 hg w72 hbox hb; have BK1793 := zA (hbox); have GW1793 := zw hg; replace HB := ze hb; clear hb hbox hg) | ((with_reducible refine zG 15 rfl ?_); refine zL (some 11) rfl rfl Tryd.func15 #[] rfl ?_; (with_reducible refine (ulplaw04_begins.calls k  true _ (laid_below hT zs) (zA (ulplaw04_begins.true_ k true A3.out)) A3.out).mono ?_); rintro e w73 ⟨rfl, hb⟩; refine ⟨_, rfl, ?_⟩; replace BK1793 := zb BK1793 hb; replace HB := zf hb; obtain ⟨hcz74_0, hcz74_1, hcz74_2, hfz74_0, hfz74_1, hfz74_2⟩ := zc BK1793) | ((with_reducible refine zG 31 rfl ?_); refine zL (some 16) rfl rfl Tryd.func31 #[.agg #[.bool a0_0, .slice A0_1 l0_1.length c0_1, .int .i64 a0_2], .int .i64 a1] rfl ?_; (with_reducible refine (dyad_Shift.calls k a0_0 (fun k_ => k_ < w.heap.size) _ _ l0_1 a0_2 a1 t1795 t1796 t1799 t1800 _ ?side1 (laid_below hT zs) A5.out).mono ?_); (case side1 => exact V_mk HC0_1.out (Kd.F_below (C_F (Kd.heap_int .u64) HR0_1.out) zs)); rintro e w75 ⟨v1797, rfl, ho0, hb⟩; refine ⟨_, rfl, ?_⟩; have HO1798 := zA (V_lower (V_mono (ok' := fun k_ => k_ ≠ gb1793) ho0 (fun k_ hk_ => Or.elim hk_ (fun hs_ => fun e_ => Nat.not_le.2 hs_ (by rw [e_]; exact GW1793.out)) (fun hn_ => (zj BK1793 k_ hn_)))) (below_size zs)); replace BK1793 := zb BK1793 hb; replace HB := zf hb; (try clear ho0)) | ((with_reducible refine zD 5 rfl ?_); refine zn (N := 5) (cs := #[.bool false, .slice none 0 0, .int .i64 0]) (t := 25) rfl rfl ?_; intro gb1801 hg w76 hbox hb; replace HO1798 := zA (V_below (V_elderB (vu HO1798.out) gb1801 (Nat.le_of_eq hg.symm)) hb); have BK1801 := zA (hbox); have GW1801 := zx hg; replace HB := zf hb; have NB1793_1801 := zl BK1793 hg; have NB1801_1793 := zg BK1793 hg; replace BK1793 := zb BK1793 hb; clear hb hbox hg; have hnb77 := NB1801_1793.out; have hnc77 := NB1793_1801.out; obtain ⟨hcz78_0, hcz78_1, hcz78_2, hfz78_0, hfz78_1, hfz78_2⟩ := zc BK1801; obtain ⟨Ao79, co79, eo79⟩ := V_slice HO1798.out; subst eo79))
  go_ret
  exact ⟨er, zs⟩
 replace c4 := Bool.eq_false_iff.mpr c4
 subst c4
 rw [if_neg (show ¬ (false = true) by decide)] at H
 obtain rfl := Option.some.inj H
 exact absurd hr_.out (by decide)
end Go.Proofs.YtemfckibdojbbaaDoor.PAll
