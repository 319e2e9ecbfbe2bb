/- Printed functions, merged by a program of this session. -/
import Derived.Test.YtemfckibdojbbaaDoorXDyadPartsP0
import Derived.Test.YtemfckibdojbbaaDoorXDyadPartsP6
import Derived.Test.YtemfckibdojbbaaDoorXDyadPartsP12
import Derived.Test.YtemfckibdojbbaaDoorXDyadPartsP13
import Derived.Test.YtemfckibdojbbaaDoorXDyadPartsP18
import Derived.Test.YtemfckibdojbbaaDoorXDyadPartsP21
import Derived.Laws.StructEq
import Derived.Test.YtemfckibdojbbaaDoorXDyadPartsSh
namespace Go.Proofs.YtemfckibdojbbaaDoor.PAll
open Go.RowKit Go.Proofs.YtemfckibdojbbaaDoorW.PrintWords Go.Proofs.YtemfckibdojbbaaDoorW.PrintLast Go.Proofs.YtemfckibdojbbaaDoorW.PrintMore Go.Proofs.YtemfckibdojbbaaDoorW.PrintWords.Kd
attribute [local go_sem] max2_int min2_int max_two min_two max_three min_three max_four min_four   -- for this text's walks alone
set_option linter.unusedVariables false
set_option linter.unusedSimpArgs false
attribute [local go_sem] ext135 ext136
def ulplaw04_DyadParts.j0 : Nat → Int → Bool → Bool → List Int → Int → Bool → List Int → Int → Bool → List Int → Int → Option (Bool)
 | 0, _, _, _, _, _, _, _, _, _, _, _ => none
 | k + 1, x5, x32, x1381000, x1381001, x1381002, x1382000, x1382001, x1382002, x1389000, x1389001, x1389002 => if x32 = true then (some false) else (if x5 = 0 then ((dyad_Add.f k x1381000 x1381001 x1381002 x1382000 x1382001 x1382002).bind fun bt1389 => (if bt1389.2.2.2 = 0 then ((ulpref04_Same.f k bt1389.1 bt1389.2.1 bt1389.2.2.1 x1389000 x1389001 x1389002).bind fun t1396 => (if t1396 = true then (if x1381002 ≥ 0 then (if x1382000 = true then (some false) else ((dyad_Int.f k 1).bind fun bt1397 => ((ulpref04_Order.f k x1382000 x1382001 x1382002 bt1397.1 bt1397.2.1 bt1397.2.2).bind fun t1402 => (some (decide (t1402 < 0)))))) else (some false)) else (some false))) else (some false))) else (if (x1381001.length : Int) = 0 then (some ((x1382001.length : Int) == 0)) else (some false)))
def ulplaw04_DyadParts.f (k : Nat) (a0_0 : Bool) (l0_1 : List Int) (a0_2 : Int) : Option (Bool) := (ulplaw04_begins.f k).bind fun t1368 => (if t1368 = true then ((dyad_Floor.f k a0_0 l0_1 a0_2).bind fun bt1369 => ((dyad_Canon.f k a0_0 l0_1 a0_2).bind fun bt1382 => (if bt1369.2.2.2.2.2.2 = bt1382.2.2.2 then (ulplaw04_DyadParts.j0 k bt1369.2.2.2.2.2.2 false bt1369.1 bt1369.2.1 bt1369.2.2.1 bt1369.2.2.2.1 bt1369.2.2.2.2.1 bt1369.2.2.2.2.2.1 bt1382.1 bt1382.2.1 bt1382.2.2.1) else (if bt1369.2.2.2.2.2.2 = 3 then (ulplaw04_DyadParts.j0 k bt1369.2.2.2.2.2.2 (bt1382.2.2.2 != 0) bt1369.1 bt1369.2.1 bt1369.2.2.1 bt1369.2.2.2.1 bt1369.2.2.2.2.1 bt1369.2.2.2.2.2.1 bt1382.1 bt1382.2.1 bt1382.2.2.1) else (ulplaw04_DyadParts.j0 k bt1369.2.2.2.2.2.2 true bt1369.1 bt1369.2.1 bt1369.2.2.1 bt1369.2.2.2.1 bt1369.2.2.2.2.1 bt1369.2.2.2.2.2.1 bt1382.1 bt1382.2.1 bt1382.2.2.1))))) else (some false))
def ulplaw04_DyadParts.T10 : Bool × List (List Nat × List Nat) := (true, [([], []), ([0], [0]), ([1], [1]), ([2], [2]), ([2], [2]), ([3, 4, 2, 2], [2, 3, 4]), ([2, 5], [2, 5]), ([6, 5], [6]), ([7], [7]), ([8, 7], [7, 8]), ([9, 7], [7, 9]), ([7, 10], [7, 10]), ([11, 7], [11]), ([12], [12]), ([13, 12], [12, 13]), ([14, 12], [12, 14]), ([12, 15], [12, 15]), ([16, 12], [16]), ([17], [17]), ([17, 17], [17]), ([18, 19, 19, 17], [17, 18, 19]), ([20, 17], [17, 20]), ([17, 21], [17, 21]), ([22, 20, 0, 1, 2, 3, 4, 5, 6, 7, 8, 9, 10, 11, 12, 13, 14, 15, 16, 17, 18, 19, 20, 21, 22], [22])])
def ulplaw04_DyadParts.B10 : List Nat := [0, 1, 3, 7, 7, 31, 63, 127, 255, 511, 1023, 2047, 4095, 8191, 16383, 32767, 65535, 131071, 262143, 262143, 1048575, 2097151, 4194303, 8388607]
theorem ulplaw04_DyadParts.tab10 : rtab .any (opsOf Tryd.f10 10) = ulplaw04_DyadParts.T10 := by kernel_rfl
theorem ulplaw04_DyadParts.bits10 : waitsOk ulplaw04_DyadParts.T10.2 ulplaw04_DyadParts.B10 = true := by kernel_rfl
set_option maxHeartbeats 8000000 in
set_option maxRecDepth 100000 in
theorem ulplaw04_DyadParts.calls (k : Nat) (a0_0 : Bool) (A0_1 : Option Addr) (c0_1 : Nat) (l0_1 : List Int) (a0_2 : Int) (r : Bool) (w : World) (hr0_1 : Kd.C (Kd.int .u64) w A0_1 l0_1.length l0_1) (hc0_1 : l0_1.length ≤ c0_1) (hT : Laid w) (hr_ : Aside0 (r = true)) (h : ulplaw04_DyadParts.f k a0_0 l0_1 a0_2 = some r) :
  Calls Tryd.prog 10 #[.agg #[.bool a0_0, .slice A0_1 l0_1.length c0_1, .int .i64 a0_2]] w fun e w' => e = .returned (.bool r) ∧ Below w.heap.size w w' := by
 have hu25 := Tryd.underlying25
 have HR0_1 := zA hr0_1
 have HC0_1 := zA hc0_1
 clear hr0_1 hc0_1
 have HB := zA (Below.refl w.heap.size w)
 have H : ((ulplaw04_begins.f k).bind fun t1368 => (if t1368 = true then ((dyad_Floor.f k a0_0 l0_1 a0_2).bind fun bt1369 => ((dyad_Canon.f k a0_0 l0_1 a0_2).bind fun bt1382 => (if bt1369.2.2.2.2.2.2 = bt1382.2.2.2 then (ulplaw04_DyadParts.j0 k bt1369.2.2.2.2.2.2 false bt1369.1 bt1369.2.1 bt1369.2.2.1 bt1369.2.2.2.1 bt1369.2.2.2.2.1 bt1369.2.2.2.2.2.1 bt1382.1 bt1382.2.1 bt1382.2.2.1) else (if bt1369.2.2.2.2.2.2 = 3 then (ulplaw04_DyadParts.j0 k bt1369.2.2.2.2.2.2 (bt1382.2.2.2 != 0) bt1369.1 bt1369.2.1 bt1369.2.2.1 bt1369.2.2.2.1 bt1369.2.2.2.2.1 bt1369.2.2.2.2.2.1 bt1382.1 bt1382.2.1 bt1382.2.2.1) else (ulplaw04_DyadParts.j0 k bt1369.2.2.2.2.2.2 true bt1369.1 bt1369.2.1 bt1369.2.2.1 bt1369.2.2.2.1 bt1369.2.2.2.2.1 bt1369.2.2.2.2.2.1 bt1382.1 bt1382.2.1 bt1382.2.2.1))))) else (some false))) = some r := h
 clear h
 obtain ⟨t1368, A2, H⟩ := zh H
 by_cases c3 : t1368 = true
 ·subst c3
  rw [if_pos rfl] at H
  obtain ⟨⟨t1369, t1370, t1373, t1374, t1375, t1378, t1379⟩, A4, H⟩ := zh H
  (try dsimp only at H)
  obtain ⟨⟨t1382, t1383, t1386, t1387⟩, A5, H⟩ := zh H
  (try dsimp only at H)
  have HC6 := zA H
  clear H
  go_enter Tryd.func10, Tryd.ntmps10
  go_upto_region 5 with (first | ((with_reducible refine zD 1 rfl ?_); (try (refine gate_guard (by rfl) ?_; dsimp only)); refine zn (N := 1) (cs := #[.bool a0_0, .slice A0_1 l0_1.length c0_1, .int .i64 a0_2]) (t := 25) rfl rfl ?_; intro gb1367 hg w7 hbox hb; have BK1367 := zA (hbox); have GW1367 := zw hg; replace HB := ze hb; clear hb hbox hg) | ((with_reducible refine zG 15 rfl ?_); refine zL (some 9) rfl rfl Tryd.func15 #[] rfl ?_; (with_reducible refine (ulplaw04_begins.calls k  true _ (laid_below hT zs) (zA (ulplaw04_begins.true_ k true A2.out)) A2.out).mono ?_); rintro e w8 ⟨rfl, hb⟩; refine ⟨_, rfl, ?_⟩; replace BK1367 := zb BK1367 hb; replace HB := zf hb; obtain ⟨hcz9_0, hcz9_1, hcz9_2, hfz9_0, hfz9_1, hfz9_2⟩ := zc BK1367) | ((with_reducible refine zG 48 rfl ?_); refine zL (some 13) rfl rfl Tryd.func48 #[.agg #[.bool a0_0, .slice A0_1 l0_1.length c0_1, .int .i64 a0_2]] rfl ?_; (with_reducible refine (dyad_Floor.calls k a0_0 (fun k_ => k_ < w.heap.size) _ _ l0_1 a0_2 t1369 t1370 t1373 t1374 t1375 t1378 t1379 _ ?side1 (laid_below hT zs) A4.out).mono ?_); (case side1 => exact V_mk HC0_1.out (Kd.F_below (C_F (Kd.heap_int .u64) HR0_1.out) zs)); rintro e w10 ⟨v1371, v1376, rfl, ho0, ho1, hb⟩; refine ⟨_, rfl, ?_⟩; have HO1372 := zA (V_lower (V_mono (ok' := fun k_ => k_ ≠ gb1367) ho0 (fun k_ hk_ => Or.elim hk_ (fun hs_ => fun e_ => Nat.not_le.2 hs_ (by rw [e_]; exact GW1367.out)) (fun hn_ => (zj BK1367 k_ hn_)))) (below_size zs)); have HO1377 := zA (V_lower (V_mono (ok' := fun k_ => k_ ≠ gb1367) ho1 (fun k_ hk_ => Or.elim hk_ (fun hs_ => fun e_ => Nat.not_le.2 hs_ (by rw [e_]; exact GW1367.out)) (fun hn_ => (zj BK1367 k_ hn_)))) (below_size zs)); replace BK1367 := zb BK1367 hb; replace HB := zf hb; (try clear ho0); (try clear ho1)) | ((with_reducible refine zD 3 rfl ?_); (try (refine gate_guard (by rfl) ?_; dsimp only)); refine zn (N := 3) (cs := #[.bool false, .slice none 0 0, .int .i64 0]) (t := 25) rfl rfl ?_; intro gb1380 hg w11 hbox hb; replace HO1372 := zA (V_below (V_elderB (vu HO1372.out) gb1380 (Nat.le_of_eq hg.symm)) hb); replace HO1377 := zA (V_below (V_elderB (vu HO1377.out) gb1380 (Nat.le_of_eq hg.symm)) hb); have BK1380 := zA (hbox); have GW1380 := zx hg; replace HB := zf hb; have NB1367_1380 := zl BK1367 hg; have NB1380_1367 := zg BK1367 hg; replace BK1367 := zb BK1367 hb; clear hb hbox hg) | ((with_reducible refine zD 4 rfl ?_); (try (refine gate_guard (by rfl) ?_; dsimp only)); refine zn (N := 4) (cs := #[.bool false, .slice none 0 0, .int .i64 0]) (t := 25) rfl rfl ?_; intro gb1381 hg w12 hbox hb; replace HO1372 := zA (V_below (V_elderB (vu HO1372.out) gb1381 (Nat.le_of_eq hg.symm)) hb); replace HO1377 := zA (V_below (V_elderB (vu HO1377.out) gb1381 (Nat.le_of_eq hg.symm)) hb); have BK1381 := zA (hbox); have GW1381 := zx hg; replace HB := zf hb; have NB1367_1381 := zl BK1367 hg; have NB1381_1367 := zg BK1367 hg; replace BK1367 := zb BK1367 hb; have NB1380_1381 := zl BK1380 hg; have NB1381_1380 := zg BK1380 hg; replace BK1380 := zb BK1380 hb; clear hb hbox hg; have hnb13 := NB1380_1367.out; have hnc13 := NB1367_1380.out; have hnb14 := NB1380_1381.out; have hnc14 := NB1381_1380.out; obtain ⟨hcz15_0, hcz15_1, hcz15_2, hfz15_0, hfz15_1, hfz15_2⟩ := zc BK1380; obtain ⟨Ao16, co16, eo16⟩ := V_slice HO1372.out; subst eo16) | ((with_reducible refine gate_store (t := 25) (p := 3) rfl ?_); refine store_event (t := 25) (p := 3) (v := ?vo_w17) (w1 := (((w12.setCell ⟨gb1380, 0, none⟩ (.bool t1369)).setCell ⟨gb1380, 1, none⟩ (.slice Ao16 t1370.length co16)).setCell ⟨gb1380, 2, none⟩ (.int .i64 t1373))) ?hg ?ho ?hn ?hr ?_; (case ho => rfl); (case hg => rfl); (case hn => rfl); (case hr => first | (go_simp; done) | (go_simp; rfl)); intro w17 hw; have n0_ : Aside0 (Kd.V (Kd.int .u64) 43 w17 w.heap.size (fun k_ => k_ ≠ gb1367 ∧ k_ ≠ gb1380 ∧ k_ ≠ gb1381) (.slice Ao16 t1370.length co16) t1370) := ⟨(by rw [hw]; exact (vu (V_mono (zv gb1380 (V_mono HO1372.out (fun k_ hk => (⟨hk, hk.1.2⟩ : _ ∧ k_ ≠ gb1380))) (fun _ hk => hk.2) _ _ _) (fun _ hk => ⟨hk.1.1.1, ⟨hk.1.1.2, hk.1.2⟩⟩))))⟩; have n1_ : Aside0 (Kd.V (Kd.int .u64) 43 w17 w.heap.size (fun k_ => k_ ≠ gb1367 ∧ k_ ≠ gb1380 ∧ k_ ≠ gb1381) v1376 t1375) := ⟨(by rw [hw]; exact (vu (V_mono (zv gb1380 (V_mono HO1377.out (fun k_ hk => (⟨hk, hk.1.2⟩ : _ ∧ k_ ≠ gb1380))) (fun _ hk => hk.2) _ _ _) (fun _ hk => ⟨hk.1.1.1, ⟨hk.1.1.2, hk.1.2⟩⟩))))⟩; have n2_ : Aside0 (w17.heap[gb1367]? = some (.cells #[.bool a0_0, .slice A0_1 l0_1.length c0_1, .int .i64 a0_2] 25 (0, 0))) := ⟨(by rw [hw]; exact (zE BK1367))⟩; have n3_ : Aside0 (w17.heap[gb1380]? = some (.cells #[.bool t1369, .slice Ao16 t1370.length co16, .int .i64 t1373] 25 (0, 0))) := ⟨(by rw [hw]; exact (zy BK1380))⟩; have n4_ : Aside0 (w17.heap[gb1381]? = some (.cells #[.bool false, .slice none 0 0, .int .i64 0] 25 (0, 0))) := ⟨(by rw [hw]; exact (zE BK1381))⟩; have n5_ : Aside0 (Below w.heap.size w w17) := ⟨(by rw [hw]; exact zs)⟩; clear hw; clear HO1372; clear HO1377; clear BK1367; clear BK1380; clear BK1381; clear HB; have HO1372 := n0_; have HO1377 := n1_; have BK1367 := n2_; have BK1380 := n3_; have BK1381 := n4_; have HB := n5_; clear n0_ n1_ n2_ n3_ n4_ n5_; have hnb18 := NB1381_1367.out; have hnc18 := NB1367_1381.out; obtain ⟨hcz19_0, hcz19_1, hcz19_2, hfz19_0, hfz19_1, hfz19_2⟩ := zc BK1381; obtain ⟨Ao20, co20, eo20⟩ := V_slice HO1377.out; subst eo20) | ((with_reducible refine gate_store (t := 25) (p := 4) rfl ?_); refine store_event (t := 25) (p := 4) (v := ?vo_w21) (w1 := (((w17.setCell ⟨gb1381, 0, none⟩ (.bool t1374)).setCell ⟨gb1381, 1, none⟩ (.slice Ao20 t1375.length co20)).setCell ⟨gb1381, 2, none⟩ (.int .i64 t1378))) ?hg ?ho ?hn ?hr ?_; (case ho => rfl); (case hg => rfl); (case hn => rfl); (case hr => first | (go_simp; done) | (go_simp; rfl)); intro w21 hw; have n0_ : Aside0 (Kd.V (Kd.int .u64) 43 w21 w.heap.size (fun k_ => k_ ≠ gb1367 ∧ k_ ≠ gb1380 ∧ k_ ≠ gb1381) (.slice Ao16 t1370.length co16) t1370) := ⟨(by rw [hw]; exact (vu (V_mono (zv gb1381 (V_mono HO1372.out (fun k_ hk => (⟨hk, hk.2.2⟩ : _ ∧ k_ ≠ gb1381))) (fun _ hk => hk.2) _ _ _) (fun _ hk => ⟨hk.1.1, ⟨hk.1.2.1, hk.1.2.2⟩⟩))))⟩; have n1_ : Aside0 (Kd.V (Kd.int .u64) 43 w21 w.heap.size (fun k_ => k_ ≠ gb1367 ∧ k_ ≠ gb1380 ∧ k_ ≠ gb1381) (.slice Ao20 t1375.length co20) t1375) := ⟨(by rw [hw]; exact (vu (V_mono (zv gb1381 (V_mono HO1377.out (fun k_ hk => (⟨hk, hk.2.2⟩ : _ ∧ k_ ≠ gb1381))) (fun _ hk => hk.2) _ _ _) (fun _ hk => ⟨hk.1.1, ⟨hk.1.2.1, hk.1.2.2⟩⟩))))⟩; have n2_ : Aside0 (w21.heap[gb1367]? = some (.cells #[.bool a0_0, .slice A0_1 l0_1.length c0_1, .int .i64 a0_2] 25 (0, 0))) := ⟨(by rw [hw]; exact (zE BK1367))⟩; have n3_ : Aside0 (w21.heap[gb1380]? = some (.cells #[.bool t1369, .slice Ao16 t1370.length co16, .int .i64 t1373] 25 (0, 0))) := ⟨(by rw [hw]; exact (zE BK1380))⟩; have n4_ : Aside0 (w21.heap[gb1381]? = some (.cells #[.bool t1374, .slice Ao20 t1375.length co20, .int .i64 t1378] 25 (0, 0))) := ⟨(by rw [hw]; exact (zy BK1381))⟩; have n5_ : Aside0 (Below w.heap.size w w21) := ⟨(by rw [hw]; exact zs)⟩; clear hw; clear HO1372; clear HO1377; clear BK1367; clear BK1380; clear BK1381; clear HB; have HO1372 := n0_; have HO1377 := n1_; have BK1367 := n2_; have BK1380 := n3_; have BK1381 := n4_; have HB := n5_; clear n0_ n1_ n2_ n3_ n4_ n5_; obtain ⟨hcz22_0, hcz22_1, hcz22_2, hfz22_0, hfz22_1, hfz22_2⟩ := zc BK1367) | ((with_reducible refine zG 19 rfl ?_); refine zL (some 19) rfl rfl Tryd.func19 #[.agg #[.bool a0_0, .slice A0_1 l0_1.length c0_1, .int .i64 a0_2]] rfl ?_; (with_reducible refine (dyad_Canon.calls k a0_0 (fun k_ => k_ < w.heap.size) _ _ l0_1 a0_2 t1382 t1383 t1386 t1387 _ ?side1 (laid_below hT zs) A5.out).mono ?_); (case side1 => exact V_mk HC0_1.out (Kd.F_below (C_F (Kd.heap_int .u64) HR0_1.out) zs)); rintro e w23 ⟨v1384, rfl, ho0, hb⟩; refine ⟨_, rfl, ?_⟩; replace HO1372 := zA (V_below (vu HO1372.out) hb); replace HO1377 := zA (V_below (vu HO1377.out) hb); have HO1385 := zA (V_lower (V_mono (ok' := fun k_ => k_ ≠ gb1367 ∧ k_ ≠ gb1380 ∧ k_ ≠ gb1381) ho0 (fun k_ hk_ => ⟨Or.elim hk_ (fun hs_ => fun e_ => Nat.not_le.2 hs_ (by rw [e_]; exact GW1367.out)) (fun hn_ => (zj BK1367 k_ hn_)), Or.elim hk_ (fun hs_ => fun e_ => Nat.not_le.2 hs_ (by rw [e_]; exact GW1380.out)) (fun hn_ => (zj BK1380 k_ hn_)), Or.elim hk_ (fun hs_ => fun e_ => Nat.not_le.2 hs_ (by rw [e_]; exact GW1381.out)) (fun hn_ => (zj BK1381 k_ hn_))⟩)) (below_size zs)); replace BK1367 := zb BK1367 hb; replace BK1380 := zb BK1380 hb; replace BK1381 := zb BK1381 hb; replace HB := zf hb; (try clear ho0)) | ((with_reducible refine zD 6 rfl ?_); (try (refine gate_guard (by rfl) ?_; dsimp only)); refine zn (N := 6) (cs := #[.bool false, .slice none 0 0, .int .i64 0]) (t := 25) rfl rfl ?_; intro gb1388 hg w24 hbox hb; replace HO1372 := zA (V_below (V_elderB (vu HO1372.out) gb1388 (Nat.le_of_eq hg.symm)) hb); replace HO1377 := zA (V_below (V_elderB (vu HO1377.out) gb1388 (Nat.le_of_eq hg.symm)) hb); replace HO1385 := zA (V_below (V_elderB (vu HO1385.out) gb1388 (Nat.le_of_eq hg.symm)) hb); have BK1388 := zA (hbox); have GW1388 := zx hg; replace HB := zf hb; have NB1367_1388 := zl BK1367 hg; have NB1388_1367 := zg BK1367 hg; replace BK1367 := zb BK1367 hb; have NB1380_1388 := zl BK1380 hg; have NB1388_1380 := zg BK1380 hg; replace BK1380 := zb BK1380 hb; have NB1381_1388 := zl BK1381 hg; have NB1388_1381 := zg BK1381 hg; replace BK1381 := zb BK1381 hb; clear hb hbox hg; have hnb25 := NB1388_1367.out; have hnc25 := NB1367_1388.out; have hnb26 := NB1388_1380.out; have hnc26 := NB1380_1388.out; have hnb27 := NB1388_1381.out; have hnc27 := NB1381_1388.out; obtain ⟨hcz28_0, hcz28_1, hcz28_2, hfz28_0, hfz28_1, hfz28_2⟩ := zc BK1388; obtain ⟨Ao29, co29, eo29⟩ := V_slice HO1385.out; subst eo29))
  (try simp only [Act.put, List.setIfInBounds_toArray, List.set_cons_zero, List.set_cons_succ])
  go_cut [32] (fun v32 wc => ∃ (kq : Nat) (x32_5 : Bool), v32 = .bool x32_5 ∧ Aside0 (ulplaw04_DyadParts.j0 kq t1379 x32_5 t1369 t1370 t1373 t1374 t1375 t1378 t1382 t1383 t1386 = some r) ∧ Aside0 (kq ≤ k) ∧ Aside0 (Kd.V (Kd.int .u64) 43 wc w.heap.size (fun k_ => k_ ≠ gb1367 ∧ k_ ≠ gb1380 ∧ k_ ≠ gb1381 ∧ k_ ≠ gb1388) (.slice Ao16 t1370.length co16) t1370) ∧ Aside0 (Kd.V (Kd.int .u64) 43 wc w.heap.size (fun k_ => k_ ≠ gb1367 ∧ k_ ≠ gb1380 ∧ k_ ≠ gb1381 ∧ k_ ≠ gb1388) (.slice Ao20 t1375.length co20) t1375) ∧ Aside0 (Kd.V (Kd.int .u64) 43 wc w.heap.size (fun k_ => k_ ≠ gb1367 ∧ k_ ≠ gb1380 ∧ k_ ≠ gb1381 ∧ k_ ≠ gb1388) (.slice Ao29 t1383.length co29) t1383) ∧ Aside0 (wc.heap[gb1367]? = some (.cells #[.bool a0_0, (.slice A0_1 l0_1.length c0_1), .int .i64 a0_2] 25 (0, 0))) ∧ Aside0 (wc.heap[gb1380]? = some (.cells #[.bool t1369, (.slice Ao16 t1370.length co16), .int .i64 t1373] 25 (0, 0))) ∧ Aside0 (wc.heap[gb1381]? = some (.cells #[.bool t1374, (.slice Ao20 t1375.length co20), .int .i64 t1378] 25 (0, 0))) ∧ Aside0 (wc.heap[gb1388]? = some (.cells #[.bool t1382, (.slice Ao29 t1383.length co29), .int .i64 t1386] 25 (0, 0))) ∧ Aside0 (Below w.heap.size w wc))
  case first =>
   have H := HC6.out
   clear HC6
   by_cases c30 : t1379 = t1387
   ·rw [if_pos c30] at H
    have c30b0 := beq_iff_eq.mpr c30
    have c30b1 := bne_eq_false_iff_eq.mpr c30
    clear c30
    (first | rw [c30b0] | (simp only [i64_w, i32_w]; rw [c30b0]) | skip)
    have H' := zA H
    clear H
    go_wp2
    go_meet
    case rel => exact ⟨_, (false), zi, H', ⟨by first | omega | exact Nat.le_refl _⟩, ⟨vu (V_mono (zv gb1388 (V_mono HO1372.out (fun k_ hk => (⟨hk, hk.2⟩ : _ ∧ k_ ≠ gb1388))) (fun _ hk => hk.2) _ _ _) (fun _ hk => ⟨hk.1.1.1, ⟨hk.1.1.2.1, ⟨hk.1.1.2.2, hk.1.2⟩⟩⟩))⟩, ⟨vu (V_mono (zv gb1388 (V_mono HO1377.out (fun k_ hk => (⟨hk, hk.2⟩ : _ ∧ k_ ≠ gb1388))) (fun _ hk => hk.2) _ _ _) (fun _ hk => ⟨hk.1.1.1, ⟨hk.1.1.2.1, ⟨hk.1.1.2.2, hk.1.2⟩⟩⟩))⟩, ⟨vu (V_mono (zv gb1388 (V_mono HO1385.out (fun k_ hk => (⟨hk, hk.2⟩ : _ ∧ k_ ≠ gb1388))) (fun _ hk => hk.2) _ _ _) (fun _ hk => ⟨hk.1.1.1, ⟨hk.1.1.2.1, ⟨hk.1.1.2.2, hk.1.2⟩⟩⟩))⟩, ⟨by (with_reducible repeat (first | refine blk_drewN ?_ _ | refine blk_drew ?_ | refine blk_alloc ?_ _)); refine blk_far ?_ NB1367_1388.out _; refine blk_far ?_ NB1367_1388.out _; refine blk_far ?_ NB1367_1388.out _; exact BK1367.out⟩, ⟨by (with_reducible repeat (first | refine blk_drewN ?_ _ | refine blk_drew ?_ | refine blk_alloc ?_ _)); refine blk_far ?_ NB1380_1388.out _; refine blk_far ?_ NB1380_1388.out _; refine blk_far ?_ NB1380_1388.out _; exact BK1380.out⟩, ⟨by (with_reducible repeat (first | refine blk_drewN ?_ _ | refine blk_drew ?_ | refine blk_alloc ?_ _)); refine blk_far ?_ NB1381_1388.out _; refine blk_far ?_ NB1381_1388.out _; refine blk_far ?_ NB1381_1388.out _; exact BK1381.out⟩, ⟨by (with_reducible repeat (first | refine blk_drewN ?_ _ | refine blk_drew ?_ | refine blk_alloc ?_ _)); exact zp (zu BK1388)⟩, ⟨zs⟩⟩
   rw [if_neg c30] at H
   have c30b0 := beq_eq_false_iff_ne.mpr c30
   have c30b1 := bne_iff_ne.mpr c30
   (first | rw [c30b0] | (simp only [i64_w, i32_w]; rw [c30b0]) | skip)
   by_cases c31 : t1379 = 3
   ·rw [if_pos c31] at H
    have c31b0 := beq_iff_eq.mpr c31
    have c31b1 := bne_eq_false_iff_eq.mpr c31
    clear c31
    have H' := zA H
    clear H
    go_wp2
    go_meet
    case rel => exact ⟨_, ((t1387 != 0)), zi, H', ⟨by first | omega | exact Nat.le_refl _⟩, ⟨vu (V_mono (zv gb1388 (V_mono HO1372.out (fun k_ hk => (⟨hk, hk.2⟩ : _ ∧ k_ ≠ gb1388))) (fun _ hk => hk.2) _ _ _) (fun _ hk => ⟨hk.1.1.1, ⟨hk.1.1.2.1, ⟨hk.1.1.2.2, hk.1.2⟩⟩⟩))⟩, ⟨vu (V_mono (zv gb1388 (V_mono HO1377.out (fun k_ hk => (⟨hk, hk.2⟩ : _ ∧ k_ ≠ gb1388))) (fun _ hk => hk.2) _ _ _) (fun _ hk => ⟨hk.1.1.1, ⟨hk.1.1.2.1, ⟨hk.1.1.2.2, hk.1.2⟩⟩⟩))⟩, ⟨vu (V_mono (zv gb1388 (V_mono HO1385.out (fun k_ hk => (⟨hk, hk.2⟩ : _ ∧ k_ ≠ gb1388))) (fun _ hk => hk.2) _ _ _) (fun _ hk => ⟨hk.1.1.1, ⟨hk.1.1.2.1, ⟨hk.1.1.2.2, hk.1.2⟩⟩⟩))⟩, ⟨by (with_reducible repeat (first | refine blk_drewN ?_ _ | refine blk_drew ?_ | refine blk_alloc ?_ _)); refine blk_far ?_ NB1367_1388.out _; refine blk_far ?_ NB1367_1388.out _; refine blk_far ?_ NB1367_1388.out _; exact BK1367.out⟩, ⟨by (with_reducible repeat (first | refine blk_drewN ?_ _ | refine blk_drew ?_ | refine blk_alloc ?_ _)); refine blk_far ?_ NB1380_1388.out _; refine blk_far ?_ NB1380_1388.out _; refine blk_far ?_ NB1380_1388.out _; exact BK1380.out⟩, ⟨by (with_reducible repeat (first | refine blk_drewN ?_ _ | refine blk_drew ?_ | refine blk_alloc ?_ _)); refine blk_far ?_ NB1381_1388.out _; refine blk_far ?_ NB1381_1388.out _; refine blk_far ?_ NB1381_1388.out _; exact BK1381.out⟩, ⟨by (with_reducible repeat (first | refine blk_drewN ?_ _ | refine blk_drew ?_ | refine blk_alloc ?_ _)); exact zp (zu BK1388)⟩, ⟨zs⟩⟩
   rw [if_neg c31] at H
   have c31b0 := beq_eq_false_iff_ne.mpr c31
   have c31b1 := bne_iff_ne.mpr c31
   have H' := zA H
   clear H
   go_wp2
   go_meet
   case rel => exact ⟨_, (true), zi, H', ⟨by first | omega | exact Nat.le_refl _⟩, ⟨vu (V_mono (zv gb1388 (V_mono HO1372.out (fun k_ hk => (⟨hk, hk.2⟩ : _ ∧ k_ ≠ gb1388))) (fun _ hk => hk.2) _ _ _) (fun _ hk => ⟨hk.1.1.1, ⟨hk.1.1.2.1, ⟨hk.1.1.2.2, hk.1.2⟩⟩⟩))⟩, ⟨vu (V_mono (zv gb1388 (V_mono HO1377.out (fun k_ hk => (⟨hk, hk.2⟩ : _ ∧ k_ ≠ gb1388))) (fun _ hk => hk.2) _ _ _) (fun _ hk => ⟨hk.1.1.1, ⟨hk.1.1.2.1, ⟨hk.1.1.2.2, hk.1.2⟩⟩⟩))⟩, ⟨vu (V_mono (zv gb1388 (V_mono HO1385.out (fun k_ hk => (⟨hk, hk.2⟩ : _ ∧ k_ ≠ gb1388))) (fun _ hk => hk.2) _ _ _) (fun _ hk => ⟨hk.1.1.1, ⟨hk.1.1.2.1, ⟨hk.1.1.2.2, hk.1.2⟩⟩⟩))⟩, ⟨by (with_reducible repeat (first | refine blk_drewN ?_ _ | refine blk_drew ?_ | refine blk_alloc ?_ _)); refine blk_far ?_ NB1367_1388.out _; refine blk_far ?_ NB1367_1388.out _; refine blk_far ?_ NB1367_1388.out _; exact BK1367.out⟩, ⟨by (with_reducible repeat (first | refine blk_drewN ?_ _ | refine blk_drew ?_ | refine blk_alloc ?_ _)); refine blk_far ?_ NB1380_1388.out _; refine blk_far ?_ NB1380_1388.out _; refine blk_far ?_ NB1380_1388.out _; exact BK1380.out⟩, ⟨by (with_reducible repeat (first | refine blk_drewN ?_ _ | refine blk_drew ?_ | refine blk_alloc ?_ _)); refine blk_far ?_ NB1381_1388.out _; refine blk_far ?_ NB1381_1388.out _; refine blk_far ?_ NB1381_1388.out _; exact BK1381.out⟩, ⟨by (with_reducible repeat (first | refine blk_drewN ?_ _ | refine blk_drew ?_ | refine blk_alloc ?_ _)); exact zp (zu BK1388)⟩, ⟨zs⟩⟩
  case rest =>
   clear HC6
   try clear c3
   try clear c30
   try clear c30b0
   try clear c30b1
   try clear c31
   try clear c31b0
   try clear c31b1
   try clear hcz15_0 hcz15_1 hcz15_2 hfz15_0 hfz15_1 hfz15_2
   try clear hcz19_0 hcz19_1 hcz19_2 hfz19_0 hfz19_1 hfz19_2
   try clear hcz22_0 hcz22_1 hcz22_2 hfz22_0 hfz22_1 hfz22_2
   try clear hcz28_0 hcz28_1 hcz28_2 hfz28_0 hfz28_1 hfz28_2
   try clear hcz9_0 hcz9_1 hcz9_2 hfz9_0 hfz9_1 hfz9_2
   obtain ⟨kq, x32_5, rfl, HA, HJ5, HO_1381001, HO_1382001, HO_1389001, BK1367, BK1380, BK1381, BK1388, HB⟩ := hcut
   cases kq with
   | zero => exact absurd HA.out (by simp [ulplaw04_DyadParts.j0])
   | succ kj5 =>
    have H := HA.out
    clear HA
    simp only [ulplaw04_DyadParts.j0] at H
    by_cases c32 : x32_5 = true
    ·subst c32
     rw [if_pos rfl] at H
     obtain rfl := Option.some.inj H
     exact absurd hr_.out (by decide)
    replace c32 := Bool.eq_false_iff.mpr c32
    subst c32
    rw [if_neg (show ¬ (false = true) by decide)] at H
    by_cases c33 : t1379 = 0
    ·rw [if_pos c33] at H
     have c33b0 := beq_iff_eq.mpr c33
     have c33b1 := bne_eq_false_iff_eq.mpr c33
     clear c33
     obtain ⟨⟨t1389, t1390, t1393, t1394⟩, A34, H⟩ := zh H
     (try dsimp only at H)
     by_cases c35 : t1394 = 0
     ·rw [if_pos c35] at H
      have c35b0 := beq_iff_eq.mpr c35
      have c35b1 := bne_eq_false_iff_eq.mpr c35
      clear c35
      obtain ⟨t1396, A36, H⟩ := zh H
      by_cases c37 : t1396 = true
      ·subst c37
       rw [if_pos rfl] at H
       by_cases c38 : t1373 ≥ 0
       ·rw [if_pos c38] at H
        have c38b0 := decide_eq_true c38
        clear c38
        by_cases c39 : t1374 = true
        ·subst c39
         rw [if_pos rfl] at H
         obtain rfl := Option.some.inj H
         exact absurd hr_.out (by decide)
        replace c39 := Bool.eq_false_iff.mpr c39
        subst c39
        rw [if_neg (show ¬ (false = true) by decide)] at H
        obtain ⟨⟨t1397, t1398, t1401⟩, A40, H⟩ := zh H
        (try dsimp only at H)
        obtain ⟨t1402, A41, H⟩ := zh H
        clear hr_
        obtain rfl := Option.some.inj H
        have hnb42 := NB1380_1367.out
        have hnc42 := NB1367_1380.out
        have hnb43 := NB1380_1381.out
        have hnc43 := NB1381_1380.out
        have hnb44 := NB1380_1388.out
        have hnc44 := NB1388_1380.out
        obtain ⟨_, _, _, _, _, _⟩ := zc BK1380
        have hnb46 := NB1381_1367.out
        have hnc46 := NB1367_1381.out
        have hnb47 := NB1381_1388.out
        have hnc47 := NB1388_1381.out
        obtain ⟨_, _, _, _, _, _⟩ := zc BK1381
        try go_wp2_with (first | ((with_reducible refine zG 17 rfl ?_); refine zL (some 48) rfl rfl Tryd.func17 #[.agg #[.bool t1369, .slice Ao16 t1370.length co16, .int .i64 t1373], .agg #[.bool false, .slice Ao20 t1375.length co20, .int .i64 t1378]] rfl ?_; (with_reducible refine (dyad_Add.calls kj5 t1369 (fun k_ => (k_ ≠ gb1367 ∧ (k_ ≠ gb1380 ∧ (k_ ≠ gb1381 ∧ k_ ≠ gb1388)))) _ _ t1370 t1373 false (fun k_ => (k_ ≠ gb1367 ∧ (k_ ≠ gb1380 ∧ (k_ ≠ gb1381 ∧ k_ ≠ gb1388)))) _ _ t1375 t1378 t1389 t1390 t1393 t1394 _ ?side1 ?side2 (laid_below hT zs) A34.out).mono ?_); (case side1 => exact HO_1381001.out); (case side2 => exact HO_1382001.out); rintro e w49 ⟨v1391, rfl, ho0, hb⟩; refine ⟨_, rfl, ?_⟩; replace HO_1381001 := zA (V_below (vu HO_1381001.out) hb); replace HO_1382001 := zA (V_below (vu HO_1382001.out) hb); replace HO_1389001 := zA (V_below (vu HO_1389001.out) hb); have HO1392 := zA (V_lower (V_mono (ok' := fun k_ => k_ ≠ gb1367 ∧ k_ ≠ gb1380 ∧ k_ ≠ gb1381 ∧ k_ ≠ gb1388) ho0 (fun k_ hk_ => ⟨Or.elim hk_ (fun hs_ => Or.elim hs_ (fun hs_ => hs_.1) (fun hs_ => hs_.1)) (fun hn_ => (zj BK1367 k_ hn_)), Or.elim hk_ (fun hs_ => Or.elim hs_ (fun hs_ => hs_.2.1) (fun hs_ => hs_.2.1)) (fun hn_ => (zj BK1380 k_ hn_)), Or.elim hk_ (fun hs_ => Or.elim hs_ (fun hs_ => hs_.2.2.1) (fun hs_ => hs_.2.2.1)) (fun hn_ => (zj BK1381 k_ hn_)), Or.elim hk_ (fun hs_ => Or.elim hs_ (fun hs_ => hs_.2.2.2) (fun hs_ => hs_.2.2.2)) (fun hn_ => (zj BK1388 k_ hn_))⟩)) (below_size zs)); replace BK1367 := zb BK1367 hb; replace BK1380 := zb BK1380 hb; replace BK1381 := zb BK1381 hb; replace BK1388 := zb BK1388 hb; replace HB := zf hb; (try clear ho0)) | ((with_reducible refine zD 8 rfl ?_); (try (refine gate_guard (by rfl) ?_; dsimp only)); refine zn (N := 8) (cs := #[.bool false, .slice none 0 0, .int .i64 0]) (t := 25) rfl rfl ?_; intro gb1395 hg w50 hbox hb; replace HO_1381001 := zA (V_below (V_elderB (vu HO_1381001.out) gb1395 (Nat.le_of_eq hg.symm)) hb); replace HO_1382001 := zA (V_below (V_elderB (vu HO_1382001.out) gb1395 (Nat.le_of_eq hg.symm)) hb); replace HO_1389001 := zA (V_below (V_elderB (vu HO_1389001.out) gb1395 (Nat.le_of_eq hg.symm)) hb); replace HO1392 := zA (V_below (V_elderB (vu HO1392.out) gb1395 (Nat.le_of_eq hg.symm)) hb); have BK1395 := zA (hbox); have GW1395 := zx hg; replace HB := zf hb; have NB1367_1395 := zl BK1367 hg; have NB1395_1367 := zg BK1367 hg; replace BK1367 := zb BK1367 hb; have NB1380_1395 := zl BK1380 hg; have NB1395_1380 := zg BK1380 hg; replace BK1380 := zb BK1380 hb; have NB1381_1395 := zl BK1381 hg; have NB1395_1381 := zg BK1381 hg; replace BK1381 := zb BK1381 hb; have NB1388_1395 := zl BK1388 hg; have NB1395_1388 := zg BK1388 hg; replace BK1388 := zb BK1388 hb; clear hb hbox hg; have hnb51 := NB1395_1367.out; have hnc51 := NB1367_1395.out; have hnb52 := NB1395_1380.out; have hnc52 := NB1380_1395.out; have hnb53 := NB1395_1381.out; have hnc53 := NB1381_1395.out; have hnb54 := NB1395_1388.out; have hnc54 := NB1388_1395.out; obtain ⟨hcz55_0, hcz55_1, hcz55_2, hfz55_0, hfz55_1, hfz55_2⟩ := zc BK1395; obtain ⟨Ao56, co56, eo56⟩ := V_slice HO1392.out; subst eo56))
        have n0_ : Aside0 (Kd.V (Kd.int .u64) 43 (((w50.setCell ⟨gb1395, 0, none⟩ (.bool t1389)).setCell ⟨gb1395, 1, none⟩ (.slice Ao56 t1390.length co56)).setCell ⟨gb1395, 2, none⟩ (.int .i64 t1393)) w.heap.size (fun k_ => k_ ≠ gb1367 ∧ k_ ≠ gb1380 ∧ k_ ≠ gb1381 ∧ k_ ≠ gb1388 ∧ k_ ≠ gb1395) (.slice Ao16 t1370.length co16) t1370) := ⟨vu (V_mono (zv gb1395 (V_mono HO_1381001.out (fun k_ hk => (⟨hk, hk.2⟩ : _ ∧ k_ ≠ gb1395))) (fun _ hk => hk.2) _ _ _) (fun _ hk => ⟨hk.1.1.1, ⟨hk.1.1.2.1, ⟨hk.1.1.2.2.1, ⟨hk.1.1.2.2.2, hk.1.2⟩⟩⟩⟩))⟩
        have n1_ : Aside0 (Kd.V (Kd.int .u64) 43 (((w50.setCell ⟨gb1395, 0, none⟩ (.bool t1389)).setCell ⟨gb1395, 1, none⟩ (.slice Ao56 t1390.length co56)).setCell ⟨gb1395, 2, none⟩ (.int .i64 t1393)) w.heap.size (fun k_ => k_ ≠ gb1367 ∧ k_ ≠ gb1380 ∧ k_ ≠ gb1381 ∧ k_ ≠ gb1388 ∧ k_ ≠ gb1395) (.slice Ao20 t1375.length co20) t1375) := ⟨vu (V_mono (zv gb1395 (V_mono HO_1382001.out (fun k_ hk => (⟨hk, hk.2⟩ : _ ∧ k_ ≠ gb1395))) (fun _ hk => hk.2) _ _ _) (fun _ hk => ⟨hk.1.1.1, ⟨hk.1.1.2.1, ⟨hk.1.1.2.2.1, ⟨hk.1.1.2.2.2, hk.1.2⟩⟩⟩⟩))⟩
        have n2_ : Aside0 (Kd.V (Kd.int .u64) 43 (((w50.setCell ⟨gb1395, 0, none⟩ (.bool t1389)).setCell ⟨gb1395, 1, none⟩ (.slice Ao56 t1390.length co56)).setCell ⟨gb1395, 2, none⟩ (.int .i64 t1393)) w.heap.size (fun k_ => k_ ≠ gb1367 ∧ k_ ≠ gb1380 ∧ k_ ≠ gb1381 ∧ k_ ≠ gb1388 ∧ k_ ≠ gb1395) (.slice Ao29 t1383.length co29) t1383) := ⟨vu (V_mono (zv gb1395 (V_mono HO_1389001.out (fun k_ hk => (⟨hk, hk.2⟩ : _ ∧ k_ ≠ gb1395))) (fun _ hk => hk.2) _ _ _) (fun _ hk => ⟨hk.1.1.1, ⟨hk.1.1.2.1, ⟨hk.1.1.2.2.1, ⟨hk.1.1.2.2.2, hk.1.2⟩⟩⟩⟩))⟩
        have n3_ : Aside0 (Kd.V (Kd.int .u64) 43 (((w50.setCell ⟨gb1395, 0, none⟩ (.bool t1389)).setCell ⟨gb1395, 1, none⟩ (.slice Ao56 t1390.length co56)).setCell ⟨gb1395, 2, none⟩ (.int .i64 t1393)) w.heap.size (fun k_ => k_ ≠ gb1367 ∧ k_ ≠ gb1380 ∧ k_ ≠ gb1381 ∧ k_ ≠ gb1388 ∧ k_ ≠ gb1395) (.slice Ao56 t1390.length co56) t1390) := ⟨vu (V_mono (zv gb1395 (V_mono HO1392.out (fun k_ hk => (⟨hk, hk.2⟩ : _ ∧ k_ ≠ gb1395))) (fun _ hk => hk.2) _ _ _) (fun _ hk => ⟨hk.1.1.1, ⟨hk.1.1.2.1, ⟨hk.1.1.2.2.1, ⟨hk.1.1.2.2.2, hk.1.2⟩⟩⟩⟩))⟩
        have n4_ : Aside0 ((((w50.setCell ⟨gb1395, 0, none⟩ (.bool t1389)).setCell ⟨gb1395, 1, none⟩ (.slice Ao56 t1390.length co56)).setCell ⟨gb1395, 2, none⟩ (.int .i64 t1393)).heap[gb1367]? = some (.cells #[.bool a0_0, .slice A0_1 l0_1.length c0_1, .int .i64 a0_2] 25 (0, 0))) := ⟨by (with_reducible repeat (first | refine blk_drewN ?_ _ | refine blk_drew ?_ | refine blk_alloc ?_ _)); refine blk_far ?_ NB1367_1395.out _; refine blk_far ?_ NB1367_1395.out _; refine blk_far ?_ NB1367_1395.out _; exact BK1367.out⟩
        have n5_ : Aside0 ((((w50.setCell ⟨gb1395, 0, none⟩ (.bool t1389)).setCell ⟨gb1395, 1, none⟩ (.slice Ao56 t1390.length co56)).setCell ⟨gb1395, 2, none⟩ (.int .i64 t1393)).heap[gb1380]? = some (.cells #[.bool t1369, .slice Ao16 t1370.length co16, .int .i64 t1373] 25 (0, 0))) := ⟨by (with_reducible repeat (first | refine blk_drewN ?_ _ | refine blk_drew ?_ | refine blk_alloc ?_ _)); refine blk_far ?_ NB1380_1395.out _; refine blk_far ?_ NB1380_1395.out _; refine blk_far ?_ NB1380_1395.out _; exact BK1380.out⟩
        have n6_ : Aside0 ((((w50.setCell ⟨gb1395, 0, none⟩ (.bool t1389)).setCell ⟨gb1395, 1, none⟩ (.slice Ao56 t1390.length co56)).setCell ⟨gb1395, 2, none⟩ (.int .i64 t1393)).heap[gb1381]? = some (.cells #[.bool false, .slice Ao20 t1375.length co20, .int .i64 t1378] 25 (0, 0))) := ⟨by (with_reducible repeat (first | refine blk_drewN ?_ _ | refine blk_drew ?_ | refine blk_alloc ?_ _)); refine blk_far ?_ NB1381_1395.out _; refine blk_far ?_ NB1381_1395.out _; refine blk_far ?_ NB1381_1395.out _; exact BK1381.out⟩
        have n7_ : Aside0 ((((w50.setCell ⟨gb1395, 0, none⟩ (.bool t1389)).setCell ⟨gb1395, 1, none⟩ (.slice Ao56 t1390.length co56)).setCell ⟨gb1395, 2, none⟩ (.int .i64 t1393)).heap[gb1388]? = some (.cells #[.bool t1382, .slice Ao29 t1383.length co29, .int .i64 t1386] 25 (0, 0))) := ⟨by (with_reducible repeat (first | refine blk_drewN ?_ _ | refine blk_drew ?_ | refine blk_alloc ?_ _)); refine blk_far ?_ NB1388_1395.out _; refine blk_far ?_ NB1388_1395.out _; refine blk_far ?_ NB1388_1395.out _; exact BK1388.out⟩
        have n8_ : Aside0 ((((w50.setCell ⟨gb1395, 0, none⟩ (.bool t1389)).setCell ⟨gb1395, 1, none⟩ (.slice Ao56 t1390.length co56)).setCell ⟨gb1395, 2, none⟩ (.int .i64 t1393)).heap[gb1395]? = some (.cells #[.bool t1389, .slice Ao56 t1390.length co56, .int .i64 t1393] 25 (0, 0))) := ⟨by (with_reducible repeat (first | refine blk_drewN ?_ _ | refine blk_drew ?_ | refine blk_alloc ?_ _)); exact zp (zu BK1395)⟩
        have n9_ : Aside0 (Below w.heap.size w (((w50.setCell ⟨gb1395, 0, none⟩ (.bool t1389)).setCell ⟨gb1395, 1, none⟩ (.slice Ao56 t1390.length co56)).setCell ⟨gb1395, 2, none⟩ (.int .i64 t1393))) := ⟨zs⟩
        (try clear HO_1381001)
        (try clear HO_1382001)
        (try clear HO_1389001)
        (try clear HO1392)
        (try clear BK1367)
        (try clear BK1380)
        (try clear BK1381)
        (try clear BK1388)
        (try clear BK1395)
        (try clear HB)
        generalize (((w50.setCell ⟨gb1395, 0, none⟩ (.bool t1389)).setCell ⟨gb1395, 1, none⟩ (.slice Ao56 t1390.length co56)).setCell ⟨gb1395, 2, none⟩ (.int .i64 t1393)) = w57 at n0_ n1_ n2_ n3_ n4_ n5_ n6_ n7_ n8_ n9_ ⊢
        have HO_1381001 := n0_
        have HO_1382001 := n1_
        have HO_1389001 := n2_
        have HO1392 := n3_
        have BK1367 := n4_
        have BK1380 := n5_
        have BK1381 := n6_
        have BK1388 := n7_
        have BK1395 := n8_
        have HB := n9_
        clear n0_ n1_ n2_ n3_ n4_ n5_ n6_ n7_ n8_ n9_
        replace HO_1381001 := zA (V_drew HO_1381001.out)
        replace HO_1382001 := zA (V_drew HO_1382001.out)
        replace HO_1389001 := zA (V_drew HO_1389001.out)
        replace HO1392 := zA (V_drew HO1392.out)
        replace BK1367 := zA (blk_drew BK1367.out)
        replace BK1380 := zA (blk_drew BK1380.out)
        replace BK1381 := zA (blk_drew BK1381.out)
        replace BK1388 := zA (blk_drew BK1388.out)
        replace BK1395 := zA (blk_drew BK1395.out)
        replace HB := zA (below_drew1 HB.out)
        refine start_ (n := 24) (S := fun w' => z4 w' gb1395 (.bool t1389) (.slice Ao56 t1390.length co56) (.int .i64 t1393) (z4 w' gb1388 (.bool t1382) (.slice Ao29 t1383.length co29) (.int .i64 t1386) (z4 w' gb1380 (.bool t1369) (.slice Ao16 t1370.length co16) (.int .i64 t1373) (z3 w' gb1381 (.bool false) (.slice Ao20 t1375.length co20) (.int .i64 t1378))))) (ds := []) #[false, false, false, false, false, false, false, false, false, false, false, false, false, false, false, false, false, false, false, false, false, false, false, false] (by kernel_rfl) rfl rfl (za BK1395 (za BK1388 (za BK1380 (zz BK1381)))) (fun hHeld => ?_); refine with_tabW ulplaw04_DyadParts.tab10 ulplaw04_DyadParts.bits10 (fun HT_ HW_ => ?_)
        generalize w57.drew = w58 at HO_1381001 HO_1382001 HO_1389001 HO1392 BK1367 BK1380 BK1381 BK1388 BK1395 HB hHeld ⊢
        refine pure_ (i := 0) (N := some 51) (v := ?_) (a' := ?_) #[true, false, false, false, false, false, false, false, false, false, false, false, false, false, false, false, false, false, false, false, false, false, false, false] rfl rfl (any_of HT_.out (by kernel_rfl)) (fun _ _ _ h => h) (Or.inl ⟨by rfl, ?_⟩) ?_ ?_
        rotate_left
        ·intro w'
         go_simp
         with_reducible rfl
        rotate_left
        ·exact zq
        refine pure_ (i := 1) (N := some 52) (v := ?_) (a' := ?_) #[true, true, false, false, false, false, false, false, false, false, false, false, false, false, false, false, false, false, false, false, false, false, false, false] rfl rfl (any_of HT_.out (by kernel_rfl)) (fun _ _ _ h => h) (Or.inl ⟨by rfl, ?_⟩) ?_ ?_
        rotate_left
        ·intro w'
         go_simp
         with_reducible rfl
        rotate_left
        ·exact zq
        refine pure_ (i := 2) (N := some 53) (v := ?_) (a' := ?_) #[true, true, true, false, false, false, false, false, false, false, false, false, false, false, false, false, false, false, false, false, false, false, false, false] rfl rfl (any_of HT_.out (by kernel_rfl)) (fun _ _ _ h => h) (Or.inl ⟨by rfl, ?_⟩) ?_ ?_
        rotate_left
        ·intro w'
         go_simp
         with_reducible rfl
        rotate_left
        ·exact zq
        refine take_ (i := 3) (N := some 54) (v := ?_) (a' := ?_) #[true, true, true, true, false, false, false, false, false, false, false, false, false, false, false, false, false, false, false, false, false, false, false, false] rfl rfl (take_ofW HT_.out HW_.out (by kernel_rfl)) (fun _ _ _ h => h) (Or.inl ⟨by rfl, ?_⟩) hHeld ?_ ?_
        rotate_left
        ·rintro w' ⟨s0, s1, s2, s3, s4, s5, s6, s7, s8, s9, s10, s11⟩
         go_simp
         with_reducible rfl
        rotate_left
        ·exact zq
        refine take_ (i := 4) (N := some 55) (v := ?_) (a' := ?_) #[true, true, true, true, true, false, false, false, false, false, false, false, false, false, false, false, false, false, false, false, false, false, false, false] rfl rfl (take_ofW HT_.out HW_.out (by kernel_rfl)) (fun _ _ _ h => h) (Or.inl ⟨by rfl, ?_⟩) hHeld ?_ ?_
        rotate_left
        ·rintro w' ⟨s0, s1, s2, s3, s4, s5, s6, s7, s8, s9, s10, s11⟩
         go_simp
         with_reducible rfl
        rotate_left
        ·exact zq
        refine one_ (i := 5) (N := some 56) #[true, true, true, true, true, true, false, false, false, false, false, false, false, false, false, false, false, false, false, false, false, false, false, false] rfl rfl (one_of HT_.out (by kernel_rfl)) (by decide) (fun K hK => ?_)
        refine goes_ Tryd.func23 (by kernel_rfl) rfl #[.agg #[.bool t1389, .slice Ao56 t1390.length co56, .int .i64 t1393], .agg #[.bool t1382, .slice Ao29 t1383.length co29, .int .i64 t1386]] (by rfl) rfl rfl ga ?_
        with_reducible refine (ulpref04_Same.calls kj5 t1389 _ _ t1390 t1393 t1382 _ _ t1383 t1386 true _ ?side1 ?side2 ?side3 ?side4 A36.out).mono ?_
        (case side1 => exact zk (V_reads' HO1392.out).2.2)
        (case side2 => exact (V_reads' HO1392.out).2.1)
        (case side3 => exact zk (V_reads' HO_1389001.out).2.2)
        (case side4 => exact (V_reads' HO_1389001.out).2.1)
        rintro e w59 ⟨rfl, hb⟩
        refine ⟨_, rfl, ?_⟩
        replace HO_1381001 := zA (V_below (vu HO_1381001.out) hb)
        replace HO_1382001 := zA (V_below (vu HO_1382001.out) hb)
        replace HO_1389001 := zA (V_below (vu HO_1389001.out) hb)
        replace HO1392 := zA (V_below (vu HO1392.out) hb)
        replace BK1367 := zb BK1367 hb
        replace BK1380 := zb BK1380 hb
        replace BK1381 := zb BK1381 hb
        replace BK1388 := zb BK1388 hb
        replace BK1395 := zb BK1395 hb
        replace HB := zf hb
        (try clear hb)
        (try clear hb2)
        (try clear hk)
        (try clear hi)
        refine hK.out _ _ (za BK1395 (za BK1388 (za BK1380 (zz BK1381)))) (fun hHeld => ?_)
        clear hK K
        refine norm_ (a' := ?_) ?_ ?_
        rotate_left
        ·show Act.put _ (some 56) _ = _
         simp only [Act.put, List.setIfInBounds_toArray, List.set_cons_zero, List.set_cons_succ, i64_w, i32_w]
         rfl
        refine pure_ (i := 6) (N := some 57) (v := ?_) (a' := ?_) #[true, true, true, true, true, true, true, false, false, false, false, false, false, false, false, false, false, false, false, false, false, false, false, false] rfl rfl (any_of HT_.out (by kernel_rfl)) (fun _ _ _ h => h) (Or.inl ⟨by rfl, ?_⟩) ?_ ?_
        rotate_left
        ·intro w'
         go_simp
         with_reducible rfl
        rotate_left
        ·exact zq
        refine pure_ (i := 7) (N := some 58) (v := ?_) (a' := ?_) #[true, true, true, true, true, true, true, true, false, false, false, false, false, false, false, false, false, false, false, false, false, false, false, false] rfl rfl (any_of HT_.out (by kernel_rfl)) (fun _ _ _ h => h) (Or.inl ⟨by rfl, ?_⟩) ?_ ?_
        rotate_left
        ·intro w'
         go_simp
         with_reducible rfl
        rotate_left
        ·exact zq
        refine pure_ (i := 8) (N := some 59) (v := ?_) (a' := ?_) #[true, true, true, true, true, true, true, true, true, false, false, false, false, false, false, false, false, false, false, false, false, false, false, false] rfl rfl (any_of HT_.out (by kernel_rfl)) (fun _ _ _ h => h) (Or.inl ⟨by rfl, ?_⟩) ?_ ?_
        rotate_left
        ·intro w'
         go_simp
         with_reducible rfl
        rotate_left
        ·exact zq
        refine take_ (i := 9) (N := some 60) (v := ?_) (a' := ?_) #[true, true, true, true, true, true, true, true, true, true, false, false, false, false, false, false, false, false, false, false, false, false, false, false] rfl rfl (take_ofW HT_.out HW_.out (by kernel_rfl)) (fun _ _ _ h => h) (Or.inl ⟨by rfl, ?_⟩) hHeld ?_ ?_
        rotate_left
        ·rintro w' ⟨s0, s1, s2, s3, s4, s5, s6, s7, s8, s9, s10, s11⟩
         go_simp
         with_reducible rfl
        rotate_left
        ·exact zq
        refine pure_ (i := 10) (N := some 61) (v := ?_) (a' := ?_) #[true, true, true, true, true, true, true, true, true, true, true, false, false, false, false, false, false, false, false, false, false, false, false, false] rfl rfl (any_of HT_.out (by kernel_rfl)) (fun _ _ _ h => h) (Or.inl ⟨by rfl, ?_⟩) ?_ ?_
        rotate_left
        ·intro w'
         go_simp
         with_reducible rfl
        rotate_left
        ·exact zq
        refine pure_ (i := 11) (N := some 62) (v := ?_) (a' := ?_) #[true, true, true, true, true, true, true, true, true, true, true, true, false, false, false, false, false, false, false, false, false, false, false, false] rfl rfl (any_of HT_.out (by kernel_rfl)) (fun _ _ _ h => h) (Or.inl ⟨by rfl, ?_⟩) ?_ ?_
        rotate_left
        ·intro w'
         go_simp
         with_reducible rfl
        rotate_left
        ·exact zq
        refine pure_ (i := 12) (N := some 63) (v := ?_) (a' := ?_) #[true, true, true, true, true, true, true, true, true, true, true, true, true, false, false, false, false, false, false, false, false, false, false, false] rfl rfl (any_of HT_.out (by kernel_rfl)) (fun _ _ _ h => h) (Or.inl ⟨by rfl, ?_⟩) ?_ ?_
        rotate_left
        ·intro w'
         go_simp
         with_reducible rfl
        rotate_left
        ·exact zq
        refine pure_ (i := 13) (N := some 64) (v := ?_) (a' := ?_) #[true, true, true, true, true, true, true, true, true, true, true, true, true, true, false, false, false, false, false, false, false, false, false, false] rfl rfl (any_of HT_.out (by kernel_rfl)) (fun _ _ _ h => h) (Or.inl ⟨by rfl, ?_⟩) ?_ ?_
        rotate_left
        ·intro w'
         go_simp
         with_reducible rfl
        rotate_left
        ·exact zq
        refine take_ (i := 14) (N := some 65) (v := ?_) (a' := ?_) #[true, true, true, true, true, true, true, true, true, true, true, true, true, true, true, false, false, false, false, false, false, false, false, false] rfl rfl (take_ofW HT_.out HW_.out (by kernel_rfl)) (fun _ _ _ h => h) (Or.inl ⟨by rfl, ?_⟩) hHeld ?_ ?_
        rotate_left
        ·rintro w' ⟨s0, s1, s2, s3, s4, s5, s6, s7, s8, s9, s10, s11⟩
         go_simp
         with_reducible rfl
        rotate_left
        ·exact zq
        refine pure_ (i := 15) (N := some 66) (v := ?_) (a' := ?_) #[true, true, true, true, true, true, true, true, true, true, true, true, true, true, true, true, false, false, false, false, false, false, false, false] rfl rfl (any_of HT_.out (by kernel_rfl)) (fun _ _ _ h => h) (Or.inl ⟨by rfl, ?_⟩) ?_ ?_
        rotate_left
        ·intro w'
         go_simp
         with_reducible rfl
        rotate_left
        ·exact zq
        refine pure_ (i := 16) (N := some 67) (v := ?_) (a' := ?_) #[true, true, true, true, true, true, true, true, true, true, true, true, true, true, true, true, true, false, false, false, false, false, false, false] rfl rfl (any_of HT_.out (by kernel_rfl)) (fun _ _ _ h => h) (Or.inl ⟨by rfl, ?_⟩) ?_ ?_
        rotate_left
        ·intro w'
         go_simp
         with_reducible rfl
        rotate_left
        ·exact zq
        refine pure_ (i := 17) (N := some 68) (v := ?_) (a' := ?_) #[true, true, true, true, true, true, true, true, true, true, true, true, true, true, true, true, true, true, false, false, false, false, false, false] rfl rfl (any_of HT_.out (by kernel_rfl)) (fun _ _ _ h => h) (Or.inl ⟨by rfl, ?_⟩) ?_ ?_
        rotate_left
        ·intro w'
         go_simp
         with_reducible rfl
        rotate_left
        ·exact zq
        refine take_ (i := 18) (N := some 69) (v := ?_) (a' := ?_) #[true, true, true, true, true, true, true, true, true, true, true, true, true, true, true, true, true, true, true, false, false, false, false, false] rfl rfl (take_ofW HT_.out HW_.out (by kernel_rfl)) (fun _ _ _ h => h) (Or.inl ⟨by rfl, ?_⟩) hHeld ?_ ?_
        rotate_left
        ·rintro w' ⟨s0, s1, s2, s3, s4, s5, s6, s7, s8, s9, s10, s11⟩
         go_simp
         with_reducible rfl
        rotate_left
        ·exact zq
        refine one_ (i := 19) (N := some 70) #[true, true, true, true, true, true, true, true, true, true, true, true, true, true, true, true, true, true, true, true, false, false, false, false] rfl rfl (one_of HT_.out (by kernel_rfl)) (by decide) (fun K hK => ?_)
        refine goes_ Tryd.func45 (by kernel_rfl) rfl #[.int .i64 1] (by rfl) rfl rfl ga ?_
        with_reducible refine (dyad_Int.calls kj5 1 t1397 t1398 t1401 _ (laid_below hT zs) A40.out).mono ?_
        rintro e w60 ⟨v1399, rfl, ho0, hb⟩
        refine ⟨_, rfl, ?_⟩
        replace HO_1381001 := zA (V_below (vu HO_1381001.out) hb)
        replace HO_1382001 := zA (V_below (vu HO_1382001.out) hb)
        replace HO_1389001 := zA (V_below (vu HO_1389001.out) hb)
        replace HO1392 := zA (V_below (vu HO1392.out) hb)
        have HO1400 := zA (V_lower (V_mono (ok' := fun k_ => k_ ≠ gb1367 ∧ k_ ≠ gb1380 ∧ k_ ≠ gb1381 ∧ k_ ≠ gb1388 ∧ k_ ≠ gb1395) ho0 (fun k_ hk_ => ⟨(zj BK1367 k_ hk_), (zj BK1380 k_ hk_), (zj BK1381 k_ hk_), (zj BK1388 k_ hk_), (zj BK1395 k_ hk_)⟩)) (below_size zs))
        replace BK1367 := zb BK1367 hb
        replace BK1380 := zb BK1380 hb
        replace BK1381 := zb BK1381 hb
        replace BK1388 := zb BK1388 hb
        replace BK1395 := zb BK1395 hb
        replace HB := zf hb
        (try clear hb)
        (try clear hb2)
        (try clear hk)
        (try clear hi)
        (try clear ho0)
        obtain ⟨Ao61, co61, eo61⟩ := V_slice HO1400.out
        (first | subst eo61 | (injection eo61 with f1_ f2_ f3_; have f4_ := f1_.symm; have f5_ := f3_.symm; clear f1_ f2_ f3_; subst f4_; subst f5_))
        refine hK.out _ _ (za BK1395 (za BK1388 (za BK1380 (zz BK1381)))) (fun hHeld => ?_)
        clear hK K
        refine norm_ (a' := ?_) ?_ ?_
        rotate_left
        ·show Act.put _ (some 70) _ = _
         simp only [Act.put, List.setIfInBounds_toArray, List.set_cons_zero, List.set_cons_succ, i64_w, i32_w]
         rfl
        refine one_ (i := 20) (N := some 71) #[true, true, true, true, true, true, true, true, true, true, true, true, true, true, true, true, true, true, true, true, true, false, false, false] rfl rfl (one_of HT_.out (by kernel_rfl)) (by decide) (fun K hK => ?_)
        refine goes_ Tryd.func50 (by kernel_rfl) rfl #[.agg #[.bool false, .slice Ao20 t1375.length co20, .int .i64 t1378], .agg #[.bool t1397, .slice Ao61 t1398.length co61, .int .i64 t1401]] (by rfl) rfl rfl ga ?_
        with_reducible refine (ulpref04_Order.calls kj5 false _ _ t1375 t1378 t1397 _ _ t1398 t1401 t1402 _ ?side1 ?side2 ?side3 ?side4 A41.out).mono ?_
        (case side1 => exact zk (V_reads' HO_1382001.out).2.2)
        (case side2 => exact (V_reads' HO_1382001.out).2.1)
        (case side3 => exact zk (V_reads' HO1400.out).2.2)
        (case side4 => exact (V_reads' HO1400.out).2.1)
        rintro e w62 ⟨rfl, hb⟩
        refine ⟨_, rfl, ?_⟩
        replace HO_1381001 := zA (V_below (vu HO_1381001.out) hb)
        replace HO_1382001 := zA (V_below (vu HO_1382001.out) hb)
        replace HO_1389001 := zA (V_below (vu HO_1389001.out) hb)
        replace HO1392 := zA (V_below (vu HO1392.out) hb)
        replace HO1400 := zA (V_below (vu HO1400.out) hb)
        replace BK1367 := zb BK1367 hb
        replace BK1380 := zb BK1380 hb
        replace BK1381 := zb BK1381 hb
        replace BK1388 := zb BK1388 hb
        replace BK1395 := zb BK1395 hb
        replace HB := zf hb
        (try clear hb)
        (try clear hb2)
        (try clear hk)
        (try clear hi)
        refine hK.out _ _ (za BK1395 (za BK1388 (za BK1380 (zz BK1381)))) (fun hHeld => ?_)
        clear hK K
        refine norm_ (a' := ?_) ?_ ?_
        rotate_left
        ·show Act.put _ (some 71) _ = _
         simp only [Act.put, List.setIfInBounds_toArray, List.set_cons_zero, List.set_cons_succ, i64_w, i32_w]
         rfl
        refine pure_ (i := 21) (N := some 72) (v := ?_) (a' := ?_) #[true, true, true, true, true, true, true, true, true, true, true, true, true, true, true, true, true, true, true, true, true, true, false, false] rfl rfl (any_of HT_.out (by kernel_rfl)) (fun _ _ _ h => h) (Or.inl ⟨by rfl, ?_⟩) ?_ ?_
        rotate_left
        ·intro w'
         go_simp
         with_reducible rfl
        rotate_left
        ·exact zq
        refine pure_ (i := 22) (N := some 73) (v := ?_) (a' := ?_) #[true, true, true, true, true, true, true, true, true, true, true, true, true, true, true, true, true, true, true, true, true, true, true, false] rfl rfl (any_of HT_.out (by kernel_rfl)) (fun _ _ _ h => h) (Or.inl ⟨by rfl, ?_⟩) ?_ ?_
        rotate_left
        ·intro w'
         go_simp
         with_reducible rfl
        rotate_left
        ·exact zq
        refine pure_ (i := 23) (N := some 2) (v := ?_) (a' := ?_) #[true, true, true, true, true, true, true, true, true, true, true, true, true, true, true, true, true, true, true, true, true, true, true, true] rfl rfl (any_of HT_.out (by kernel_rfl)) (fun _ _ _ h => h) (Or.inl ⟨by rfl, ?_⟩) ?_ ?_
        rotate_left
        ·intro w'
         go_simp
         with_reducible rfl
        rotate_left
        ·exact zq
        refine done_ (done_of HT_.out (by kernel_rfl)) ?_
        try go_wp2
        go_ret
        exact ⟨er, zs⟩
       rw [if_neg c38] at H
       have c38b0 := decide_eq_false c38
       clear c38
       obtain rfl := Option.some.inj H
       exact absurd hr_.out (by decide)
      replace c37 := Bool.eq_false_iff.mpr c37
      subst c37
      rw [if_neg (show ¬ (false = true) by decide)] at H
      obtain rfl := Option.some.inj H
      exact absurd hr_.out (by decide)
     rw [if_neg c35] at H
     have c35b0 := beq_eq_false_iff_ne.mpr c35
     have c35b1 := bne_iff_ne.mpr c35
     obtain rfl := Option.some.inj H
     exact absurd hr_.out (by decide)
    rw [if_neg c33] at H
    have c33b0 := beq_eq_false_iff_ne.mpr c33
    have c33b1 := bne_iff_ne.mpr c33
    by_cases c63 : (t1370.length : Int) = 0
    ·rw [if_pos c63] at H
     have c63b0 := beq_iff_eq.mpr c63
     have c63b1 := bne_eq_false_iff_eq.mpr c63
     clear c63
     clear hr_
     obtain rfl := Option.some.inj H
     have hnb64 := NB1380_1367.out
     have hnc64 := NB1367_1380.out
     have hnb65 := NB1380_1381.out
     have hnc65 := NB1381_1380.out
     have hnb66 := NB1380_1388.out
     have hnc66 := NB1388_1380.out
     obtain ⟨_, _, _, _, _, _⟩ := zc BK1380
     have hnb68 := NB1381_1367.out
     have hnc68 := NB1367_1381.out
     have hnb69 := NB1381_1388.out
     have hnc69 := NB1388_1381.out
     obtain ⟨_, _, _, _, _, _⟩ := zc BK1381
     go_wp2
     go_ret
     exact ⟨er, zs⟩
    rw [if_neg c63] at H
    have c63b0 := beq_eq_false_iff_ne.mpr c63
    have c63b1 := bne_iff_ne.mpr c63
    have c63b2 : ¬ (t1370 = []) := fun h_ => c63 (by rw [h_]; rfl)
    obtain rfl := Option.some.inj H
    exact absurd hr_.out (by decide)
 replace c3 := Bool.eq_false_iff.mpr c3
 subst c3
 rw [if_neg (show ¬ (false = true) by decide)] at H
 obtain rfl := Option.some.inj H
 exact absurd hr_.out (by decide)
end Go.Proofs.YtemfckibdojbbaaDoor.PAll
