/- Printed functions, merged by a program of this session. -/
import Derived.Test.YtemfckibdojbbaaDoorXDyadExactP0
import Derived.Test.YtemfckibdojbbaaDoorXDyadExactP6
import Derived.Test.YtemfckibdojbbaaDoorXDyadExactP13
import Derived.Test.YtemfckibdojbbaaDoorXDyadExactP14
import Derived.Laws.StructEq
import Derived.Test.YtemfckibdojbbaaDoorXDyadExactSh
namespace Go.Proofs.YtemfckibdojbbaaDoor.PAll
open Go.RowKit Go.Proofs.YtemfckibdojbbaaDoorW.PrintWords Go.Proofs.YtemfckibdojbbaaDoorW.PrintLast Go.Proofs.YtemfckibdojbbaaDoorW.PrintMore Go.Proofs.YtemfckibdojbbaaDoorW.PrintWords.Kd
attribute [local go_sem] max2_int min2_int max_two min_two max_three min_three max_four min_four   -- for this text's walks alone
set_option linter.unusedVariables false
set_option linter.unusedSimpArgs false
attribute [local go_sem] ext135 ext136
def bits_amount.f (a0 : Int) : Option (Int) := some (Go.bits .andNot .u64 a0 9223372036854775808)
set_option maxHeartbeats 8000000 in
set_option maxRecDepth 100000 in
theorem bits_amount.calls (a0 : Int) (r : Int) (w : World) (h : bits_amount.f a0 = some r) :
  Calls Tryd.prog 130 #[.int .u64 a0] w fun e w' => e = .returned (.int .u64 r) ∧ Drawn0 w w' := by
 have H : (some (Go.bits .andNot .u64 a0 9223372036854775808)) = some r := h
 clear h
 obtain rfl := Option.some.inj H
 go_enter Tryd.func130, Tryd.ntmps130
 go_wp2
 go_ret
 exact ⟨by first | rfl | (simp; done) | (simp [*]; done), by repeat (first | exact Drawn0.refl _ | apply Drawn0.step)⟩
def bits_number.f (a0 : Int) : Option (Bool) := (bits_amount.f a0).bind fun t1403 => (some (decide (t1403 ≤ 9218868437227405312)))
set_option maxHeartbeats 8000000 in
set_option maxRecDepth 100000 in
theorem bits_number.calls (a0 : Int) (r : Bool) (w : World) (h : bits_number.f a0 = some r) :
  Calls Tryd.prog 104 #[.int .u64 a0] w fun e w' => e = .returned (.bool r) ∧ Drawn0 w w' := by
 have H : ((bits_amount.f a0).bind fun t1403 => (some (decide (t1403 ≤ 9218868437227405312)))) = some r := h
 clear h
 obtain ⟨t1403, A2, H⟩ := zh H
 obtain rfl := Option.some.inj H
 go_enter Tryd.func104, Tryd.ntmps104
 go_wp2_with (first | ((with_reducible refine zG 130 rfl ?_); refine zL (some 4) rfl rfl Tryd.func130 #[.int .u64 a0] rfl ?_; (with_reducible refine (bits_amount.calls a0 t1403 _ A2.out).mono ?_); rintro e w' ⟨rfl, ⟨nd, rfl⟩⟩; refine ⟨_, rfl, ?_⟩))
 go_ret
 exact ⟨by first | rfl | (simp; done) | (simp [*]; done), by repeat (first | exact Drawn0.refl _ | apply Drawn0.step)⟩
def bits_place.f (a0 : Int) : Option (Int) := if (Go.bits .and .u64 a0 9223372036854775808) = 0 then (some (wrap64 (a0))) else ((bits_amount.f a0).bind fun t1404 => (some (wrap64 (-(wrap64 (t1404))))))
set_option maxHeartbeats 8000000 in
set_option maxRecDepth 100000 in
theorem bits_place.calls (a0 : Int) (r : Int) (w : World) (h : bits_place.f a0 = some r) :
  Calls Tryd.prog 105 #[.int .u64 a0] w fun e w' => e = .returned (.int .i64 r) ∧ Drawn0 w w' := by
 have H : (if (Go.bits .and .u64 a0 9223372036854775808) = 0 then (some (wrap64 (a0))) else ((bits_amount.f a0).bind fun t1404 => (some (wrap64 (-(wrap64 (t1404))))))) = some r := h
 clear h
 by_cases c2 : (Go.bits .and .u64 a0 9223372036854775808) = 0
 ·rw [if_pos c2] at H
  have c2b0 := beq_iff_eq.mpr c2
  have c2b1 := bne_eq_false_iff_eq.mpr c2
  clear c2
  obtain rfl := Option.some.inj H
  go_enter Tryd.func105, Tryd.ntmps105
  go_wp2
  go_ret
  exact ⟨by first | rfl | (simp; done) | (simp [*]; done), by repeat (first | exact Drawn0.refl _ | apply Drawn0.step)⟩
 rw [if_neg c2] at H
 have c2b0 := beq_eq_false_iff_ne.mpr c2
 have c2b1 := bne_iff_ne.mpr c2
 obtain ⟨t1404, A3, H⟩ := zh H
 obtain rfl := Option.some.inj H
 go_enter Tryd.func105, Tryd.ntmps105
 go_wp2_with (first | ((with_reducible refine zG 130 rfl ?_); refine zL (some 7) rfl rfl Tryd.func130 #[.int .u64 a0] rfl ?_; (with_reducible refine (bits_amount.calls a0 t1404 _ A3.out).mono ?_); rintro e w' ⟨rfl, ⟨nd, rfl⟩⟩; refine ⟨_, rfl, ?_⟩))
 go_ret
 exact ⟨by first | rfl | (simp; done) | (simp [*]; done), by repeat (first | exact Drawn0.refl _ | apply Drawn0.step)⟩
def bits_Less.f (a0 : Int) (a1 : Int) : Option (Bool) := (bits_number.f a0).bind fun t1405 => (if t1405 = true then ((bits_number.f a1).bind fun t1406 => (if t1406 = true then ((bits_place.f a0).bind fun t1407 => ((bits_place.f a1).bind fun t1408 => (some (decide (t1407 < t1408))))) else (some false))) else (some false))
set_option maxHeartbeats 8000000 in
set_option maxRecDepth 100000 in
theorem bits_Less.calls (a0 : Int) (a1 : Int) (r : Bool) (w : World) (h : bits_Less.f a0 a1 = some r) :
  Calls Tryd.prog 51 #[.int .u64 a0, .int .u64 a1] w fun e w' => e = .returned (.bool r) ∧ Drawn0 w w' := by
 have H : ((bits_number.f a0).bind fun t1405 => (if t1405 = true then ((bits_number.f a1).bind fun t1406 => (if t1406 = true then ((bits_place.f a0).bind fun t1407 => ((bits_place.f a1).bind fun t1408 => (some (decide (t1407 < t1408))))) else (some false))) else (some false))) = some r := h
 clear h
 obtain ⟨t1405, A3, H⟩ := zh H
 by_cases c4 : t1405 = true
 ·subst c4
  rw [if_pos rfl] at H
  obtain ⟨t1406, A5, H⟩ := zh H
  by_cases c6 : t1406 = true
  ·subst c6
   rw [if_pos rfl] at H
   obtain ⟨t1407, A7, H⟩ := zh H
   obtain ⟨t1408, A8, H⟩ := zh H
   obtain rfl := Option.some.inj H
   go_enter Tryd.func51, Tryd.ntmps51
   go_wp2_with (first | ((with_reducible refine zG 104 rfl ?_); refine zL (some 6) rfl rfl Tryd.func104 #[.int .u64 a0] rfl ?_; (with_reducible refine (bits_number.calls a0 true _ A3.out).mono ?_); rintro e w' ⟨rfl, ⟨nd, rfl⟩⟩; refine ⟨_, rfl, ?_⟩) | (go_at_call 104; (with_reducible refine (bits_number.calls a1 true _ A5.out).mono ?_); rintro e w' ⟨rfl, ⟨nd, rfl⟩⟩) | (go_at_call 105; (with_reducible refine (bits_place.calls a0 t1407 _ A7.out).mono ?_); rintro e w' ⟨rfl, ⟨nd, rfl⟩⟩) | (go_at_call 105; (with_reducible refine (bits_place.calls a1 t1408 _ A8.out).mono ?_); rintro e w' ⟨rfl, ⟨nd, rfl⟩⟩))
   go_ret
   exact ⟨by first | rfl | (simp; done) | (simp [*]; done), by repeat (first | exact Drawn0.refl _ | apply Drawn0.step)⟩
  replace c6 := Bool.eq_false_iff.mpr c6
  subst c6
  rw [if_neg (show ¬ (false = true) by decide)] at H
  obtain rfl := Option.some.inj H
  go_enter Tryd.func51, Tryd.ntmps51
  go_wp2_with (first | ((with_reducible refine zG 104 rfl ?_); refine zL (some 6) rfl rfl Tryd.func104 #[.int .u64 a0] rfl ?_; (with_reducible refine (bits_number.calls a0 true _ A3.out).mono ?_); rintro e w' ⟨rfl, ⟨nd, rfl⟩⟩; refine ⟨_, rfl, ?_⟩) | (go_at_call 104; (with_reducible refine (bits_number.calls a1 false _ A5.out).mono ?_); rintro e w' ⟨rfl, ⟨nd, rfl⟩⟩))
  go_ret
  exact ⟨by first | rfl | (simp; done) | (simp [*]; done), by repeat (first | exact Drawn0.refl _ | apply Drawn0.step)⟩
 replace c4 := Bool.eq_false_iff.mpr c4
 subst c4
 rw [if_neg (show ¬ (false = true) by decide)] at H
 obtain rfl := Option.some.inj H
 go_enter Tryd.func51, Tryd.ntmps51
 go_wp2_with (first | ((with_reducible refine zG 104 rfl ?_); refine zL (some 6) rfl rfl Tryd.func104 #[.int .u64 a0] rfl ?_; (with_reducible refine (bits_number.calls a0 false _ A3.out).mono ?_); rintro e w' ⟨rfl, ⟨nd, rfl⟩⟩; refine ⟨_, rfl, ?_⟩))
 go_ret
 exact ⟨by first | rfl | (simp; done) | (simp [*]; done), by repeat (first | exact Drawn0.refl _ | apply Drawn0.step)⟩
mutual
def ulplaw04_DyadExact.j0 : Nat → Int → Int → Int → Int → Bool → Bool → List Int → Int → Bool → List Int → Int → Option (Bool)
 | 0, _, _, _, _, _, _, _, _, _, _, _ => none
 | k + 1, x0, x1, x6, x8, x30, x1417000, x1417001, x1417002, x1424000, x1424001, x1424002 => if x30 = true then (if x6 = 0 then (if x8 = 0 then (some true) else (some (x8 == 5))) else (if x6 = 5 then (if x8 = 0 then (some true) else (some (x8 == 5))) else (some false))) else ((dyad_To.f k x1417000 x1417001 x1417002).bind fun bt1424 => (if bt1424.2 = true then (if bt1424.1 = x0 then (ulplaw04_DyadExact.j1 k x0 x1 false x1417000 x1417001 x1417002 x1424000 x1424001 x1424002) else (if x0 = 9223372036854775808 then (ulplaw04_DyadExact.j1 k x0 x1 (bt1424.1 != 0) x1417000 x1417001 x1417002 x1424000 x1424001 x1424002) else (ulplaw04_DyadExact.j1 k x0 x1 true x1417000 x1417001 x1417002 x1424000 x1424001 x1424002))) else (ulplaw04_DyadExact.j1 k x0 x1 true x1417000 x1417001 x1417002 x1424000 x1424001 x1424002)))
def ulplaw04_DyadExact.j1 : Nat → Int → Int → Bool → Bool → List Int → Int → Bool → List Int → Int → Option (Bool)
 | 0, _, _, _, _, _, _, _, _, _ => none
 | k + 1, x0, x1, x64, x1417000, x1417001, x1417002, x1424000, x1424001, x1424002 => if x64 = true then (some false) else ((dyad_Cmp.f k x1417000 x1417001 x1417002 x1424000 x1424001 x1424002).bind fun bt1426 => (if bt1426.2 = 0 then ((bits_Less.f x0 x1).bind fun t1428 => (if ((decide (bt1426.1 < 0)) == t1428) = true then ((bits_Less.f x1 x0).bind fun t1429 => (some ((decide (bt1426.1 > 0)) == t1429))) else (some false))) else (some false)))
end
def ulplaw04_DyadExact.f (k : Nat) (a0 : Int) (a1 : Int) : Option (Bool) := (ulplaw04_begins.f k).bind fun t1409 => (if t1409 = true then ((dyad_From.f k a0).bind fun bt1410 => ((dyad_From.f k a1).bind fun bt1417 => (if bt1410.2.2.2 = 0 then (ulplaw04_DyadExact.j0 k a0 a1 bt1410.2.2.2 bt1417.2.2.2 (bt1417.2.2.2 != 0) bt1410.1 bt1410.2.1 bt1410.2.2.1 bt1417.1 bt1417.2.1 bt1417.2.2.1) else (ulplaw04_DyadExact.j0 k a0 a1 bt1410.2.2.2 bt1417.2.2.2 true bt1410.1 bt1410.2.1 bt1410.2.2.1 bt1417.1 bt1417.2.1 bt1417.2.2.1)))) else (some false))
set_option maxHeartbeats 8000000 in
set_option maxRecDepth 100000 in
theorem ulplaw04_DyadExact.calls (k : Nat) (a0 : Int) (a1 : Int) (r : Bool) (w : World) (hT : Laid w) (hr_ : Aside0 (r = true)) (h : ulplaw04_DyadExact.f k a0 a1 = some r) :
  Calls Tryd.prog 11 #[.int .u64 a0, .int .u64 a1] w fun e w' => e = .returned (.bool r) ∧ Below w.heap.size w w' := by
 have hu25 := Tryd.underlying25
 have HB := zA (Below.refl w.heap.size w)
 have H : ((ulplaw04_begins.f k).bind fun t1409 => (if t1409 = true then ((dyad_From.f k a0).bind fun bt1410 => ((dyad_From.f k a1).bind fun bt1417 => (if bt1410.2.2.2 = 0 then (ulplaw04_DyadExact.j0 k a0 a1 bt1410.2.2.2 bt1417.2.2.2 (bt1417.2.2.2 != 0) bt1410.1 bt1410.2.1 bt1410.2.2.1 bt1417.1 bt1417.2.1 bt1417.2.2.1) else (ulplaw04_DyadExact.j0 k a0 a1 bt1410.2.2.2 bt1417.2.2.2 true bt1410.1 bt1410.2.1 bt1410.2.2.1 bt1417.1 bt1417.2.1 bt1417.2.2.1)))) else (some false))) = some r := h
 clear h
 obtain ⟨t1409, A3, H⟩ := zh H
 by_cases c4 : t1409 = true
 ·subst c4
  rw [if_pos rfl] at H
  obtain ⟨⟨t1410, t1411, t1414, t1415⟩, A5, H⟩ := zh H
  (try dsimp only at H)
  obtain ⟨⟨t1417, t1418, t1421, t1422⟩, A6, H⟩ := zh H
  (try dsimp only at H)
  have HC7 := zA H
  clear H
  go_enter Tryd.func11, Tryd.ntmps11
  go_upto_region 5 with (first | ((with_reducible refine zG 15 rfl ?_); refine zL (some 13) rfl rfl Tryd.func15 #[] rfl ?_; (with_reducible refine (ulplaw04_begins.calls k  true _ (laid_below hT bq) (zA (ulplaw04_begins.true_ k true A3.out)) A3.out).mono ?_); rintro e w8 ⟨rfl, hb⟩; refine ⟨_, rfl, ?_⟩; replace HB := ze hb) | ((with_reducible refine zG 41 rfl ?_); refine zL (some 17) rfl rfl Tryd.func41 #[.int .u64 a0] rfl ?_; (with_reducible refine (dyad_From.calls k a0 t1410 t1411 t1414 t1415 _ (laid_below hT bq) A5.out).mono ?_); rintro e w9 ⟨v1412, rfl, ho0, hb⟩; refine ⟨_, rfl, ?_⟩; have HO1413 := zA (V_lower (V_mono (ok' := fun k_ => True) ho0 (fun k_ hk_ => trivial)) (below_size bq)); replace HB := ze hb; (try clear ho0)) | ((with_reducible refine zD 5 rfl ?_); refine zn (N := 5) (cs := #[.bool false, .slice none 0 0, .int .i64 0]) (t := 25) rfl rfl ?_; intro gb1416 hg w10 hbox hb; replace HO1413 := zA (V_below (V_elderB (vu HO1413.out) gb1416 (Nat.le_of_eq hg.symm)) hb); have BK1416 := zA (hbox); have GW1416 := zw hg; replace HB := ze hb; clear hb hbox hg; obtain ⟨hcz11_0, hcz11_1, hcz11_2, hfz11_0, hfz11_1, hfz11_2⟩ := zc BK1416; obtain ⟨Ao12, co12, eo12⟩ := V_slice HO1413.out; subst eo12) | ((with_reducible refine zG 41 rfl ?_); refine zL (some 22) rfl rfl Tryd.func41 #[.int .u64 a1] rfl ?_; (with_reducible refine (dyad_From.calls k a1 t1417 t1418 t1421 t1422 _ (laid_below hT zs) A6.out).mono ?_); rintro e w13 ⟨v1419, rfl, ho0, hb⟩; refine ⟨_, rfl, ?_⟩; replace HO1413 := zA (V_below (vu (V_mono (zv gb1416 (V_mono HO1413.out (fun k_ hk => (⟨hk, hk.2⟩ : _ ∧ k_ ≠ gb1416))) (fun _ hk => hk.2) _ _ _) (fun _ h_ => h_.1))) hb); have HO1420 := zA (V_lower (V_mono (ok' := fun k_ => k_ ≠ gb1416) ho0 (fun k_ hk_ => (Kd.freshB (g := gb1416) (o := .cells #[.bool t1410, .slice Ao12 t1411.length co12, .int .i64 t1414] 25 (0, 0)) (zy BK1416) k_ hk_))) (below_size zs)); replace BK1416 := zt BK1416 hb; replace HB := zf hb; (try clear hk); (try clear ho0)) | ((with_reducible refine zD 7 rfl ?_); refine zn (N := 7) (cs := #[.bool false, .slice none 0 0, .int .i64 0]) (t := 25) rfl rfl ?_; intro gb1423 hg w14 hbox hb; replace HO1413 := zA (V_below (V_elderB (vu HO1413.out) gb1423 (Nat.le_of_eq hg.symm)) hb); replace HO1420 := zA (V_below (V_elderB (vu HO1420.out) gb1423 (Nat.le_of_eq hg.symm)) hb); have BK1423 := zA (hbox); have GW1423 := zx hg; replace HB := zf hb; have NB1416_1423 := zl BK1416 hg; have NB1423_1416 := zg BK1416 hg; replace BK1416 := zb BK1416 hb; clear hb hbox hg; have hnb15 := NB1423_1416.out; have hnc15 := NB1416_1423.out; obtain ⟨hcz16_0, hcz16_1, hcz16_2, hfz16_0, hfz16_1, hfz16_2⟩ := zc BK1423; obtain ⟨Ao17, co17, eo17⟩ := V_slice HO1420.out; subst eo17))
  (try simp only [Act.put, List.setIfInBounds_toArray, List.set_cons_zero, List.set_cons_succ])
  go_cut [30] (fun v30 wc => ∃ (kq : Nat) (x30_6 : Bool), v30 = .bool x30_6 ∧ Aside0 (ulplaw04_DyadExact.j0 kq a0 a1 t1415 t1422 x30_6 t1410 t1411 t1414 t1417 t1418 t1421 = some r) ∧ Aside0 (kq ≤ k) ∧ Aside0 (Kd.V (Kd.int .u64) 43 wc w.heap.size (fun k_ => k_ ≠ gb1416 ∧ k_ ≠ gb1423) (.slice Ao12 t1411.length co12) t1411) ∧ Aside0 (Kd.V (Kd.int .u64) 43 wc w.heap.size (fun k_ => k_ ≠ gb1416 ∧ k_ ≠ gb1423) (.slice Ao17 t1418.length co17) t1418) ∧ Aside0 (wc.heap[gb1416]? = some (.cells #[.bool t1410, (.slice Ao12 t1411.length co12), .int .i64 t1414] 25 (0, 0))) ∧ Aside0 (wc.heap[gb1423]? = some (.cells #[.bool t1417, (.slice Ao17 t1418.length co17), .int .i64 t1421] 25 (0, 0))) ∧ Aside0 (Below w.heap.size w wc))
  case first =>
   have H := HC7.out
   clear HC7
   by_cases c18 : t1415 = 0
   ·rw [if_pos c18] at H
    have c18b0 := beq_iff_eq.mpr c18
    have c18b1 := bne_eq_false_iff_eq.mpr c18
    clear c18
    (first | rw [c18b0] | (simp only [i64_w, i32_w]; rw [c18b0]) | skip)
    have H' := zA H
    clear H
    go_wp2
    go_meet
    case rel => exact ⟨_, ((t1422 != 0)), zi, H', ⟨by first | omega | exact Nat.le_refl _⟩, ⟨vu (V_mono (zv gb1423 (V_mono HO1413.out (fun k_ hk => (⟨hk, hk.2⟩ : _ ∧ k_ ≠ gb1423))) (fun _ hk => hk.2) _ _ _) (fun _ hk => ⟨hk.1.1.2, hk.1.2⟩))⟩, ⟨vu (V_mono (zv gb1423 (V_mono HO1420.out (fun k_ hk => (⟨hk, hk.2⟩ : _ ∧ k_ ≠ gb1423))) (fun _ hk => hk.2) _ _ _) (fun _ hk => ⟨hk.1.1, hk.1.2⟩))⟩, ⟨by (with_reducible repeat (first | refine blk_drewN ?_ _ | refine blk_drew ?_ | refine blk_alloc ?_ _)); refine blk_far ?_ NB1416_1423.out _; refine blk_far ?_ NB1416_1423.out _; refine blk_far ?_ NB1416_1423.out _; exact BK1416.out⟩, ⟨by (with_reducible repeat (first | refine blk_drewN ?_ _ | refine blk_drew ?_ | refine blk_alloc ?_ _)); exact zp (zu BK1423)⟩, ⟨zs⟩⟩
   rw [if_neg c18] at H
   have c18b0 := beq_eq_false_iff_ne.mpr c18
   have c18b1 := bne_iff_ne.mpr c18
   (first | rw [c18b0] | (simp only [i64_w, i32_w]; rw [c18b0]) | skip)
   have H' := zA H
   clear H
   go_wp2
   go_meet
   case rel => exact ⟨_, (true), zi, H', ⟨by first | omega | exact Nat.le_refl _⟩, ⟨vu (V_mono (zv gb1423 (V_mono HO1413.out (fun k_ hk => (⟨hk, hk.2⟩ : _ ∧ k_ ≠ gb1423))) (fun _ hk => hk.2) _ _ _) (fun _ hk => ⟨hk.1.1.2, hk.1.2⟩))⟩, ⟨vu (V_mono (zv gb1423 (V_mono HO1420.out (fun k_ hk => (⟨hk, hk.2⟩ : _ ∧ k_ ≠ gb1423))) (fun _ hk => hk.2) _ _ _) (fun _ hk => ⟨hk.1.1, hk.1.2⟩))⟩, ⟨by (with_reducible repeat (first | refine blk_drewN ?_ _ | refine blk_drew ?_ | refine blk_alloc ?_ _)); refine blk_far ?_ NB1416_1423.out _; refine blk_far ?_ NB1416_1423.out _; refine blk_far ?_ NB1416_1423.out _; exact BK1416.out⟩, ⟨by (with_reducible repeat (first | refine blk_drewN ?_ _ | refine blk_drew ?_ | refine blk_alloc ?_ _)); exact zp (zu BK1423)⟩, ⟨zs⟩⟩
  case rest =>
   clear HC7
   try clear c4
   try clear c18
   try clear c18b0
   try clear c18b1
   try clear hcz11_0 hcz11_1 hcz11_2 hfz11_0 hfz11_1 hfz11_2
   try clear hcz16_0 hcz16_1 hcz16_2 hfz16_0 hfz16_1 hfz16_2
   obtain ⟨kq, x30_6, rfl, HA, HJ6, HO_1417001, HO_1424001, BK1416, BK1423, HB⟩ := hcut
   cases kq with
   | zero => exact absurd HA.out (by simp [ulplaw04_DyadExact.j0])
   | succ kj6 =>
    have H := HA.out
    clear HA
    simp only [ulplaw04_DyadExact.j0] at H
    by_cases c19 : x30_6 = true
    ·subst c19
     rw [if_pos rfl] at H
     by_cases c20 : t1415 = 0
     ·rw [if_pos c20] at H
      have c20b0 := beq_iff_eq.mpr c20
      have c20b1 := bne_eq_false_iff_eq.mpr c20
      clear c20
      by_cases c21 : t1422 = 0
      ·rw [if_pos c21] at H
       have c21b0 := beq_iff_eq.mpr c21
       have c21b1 := bne_eq_false_iff_eq.mpr c21
       clear c21
       clear hr_
       obtain rfl := Option.some.inj H
       go_wp2
       go_ret
       exact ⟨er, zs⟩
      rw [if_neg c21] at H
      have c21b0 := beq_eq_false_iff_ne.mpr c21
      have c21b1 := bne_iff_ne.mpr c21
      clear hr_
      obtain rfl := Option.some.inj H
      go_wp2
      go_ret
      exact ⟨er, zs⟩
     rw [if_neg c20] at H
     have c20b0 := beq_eq_false_iff_ne.mpr c20
     have c20b1 := bne_iff_ne.mpr c20
     by_cases c22 : t1415 = 5
     ·rw [if_pos c22] at H
      have c22b0 := beq_iff_eq.mpr c22
      have c22b1 := bne_eq_false_iff_eq.mpr c22
      clear c22
      by_cases c23 : t1422 = 0
      ·rw [if_pos c23] at H
       have c23b0 := beq_iff_eq.mpr c23
       have c23b1 := bne_eq_false_iff_eq.mpr c23
       clear c23
       clear hr_
       obtain rfl := Option.some.inj H
       go_wp2
       go_ret
       exact ⟨er, zs⟩
      rw [if_neg c23] at H
      have c23b0 := beq_eq_false_iff_ne.mpr c23
      have c23b1 := bne_iff_ne.mpr c23
      clear hr_
      obtain rfl := Option.some.inj H
      go_wp2
      go_ret
      exact ⟨er, zs⟩
     rw [if_neg c22] at H
     have c22b0 := beq_eq_false_iff_ne.mpr c22
     have c22b1 := bne_iff_ne.mpr c22
     obtain rfl := Option.some.inj H
     exact absurd hr_.out (by decide)
    replace c19 := Bool.eq_false_iff.mpr c19
    subst c19
    rw [if_neg (show ¬ (false = true) by decide)] at H
    obtain ⟨⟨t1424, t1425⟩, A24, H⟩ := zh H
    (try dsimp only at H)
    have HC25 := zA H
    clear H
    have hnb26 := NB1416_1423.out
    have hnc26 := NB1423_1416.out
    obtain ⟨_, _, _, _, _, _⟩ := zc BK1416
    go_upto_region 8 with (first | ((with_reducible refine zG 43 rfl ?_); refine zL (some 47) rfl rfl Tryd.func43 #[.agg #[.bool t1410, .slice Ao12 t1411.length co12, .int .i64 t1414]] rfl ?_; (with_reducible refine (dyad_To.calls kj6 t1410 _ _ t1411 t1414 t1424 t1425 _ ?side1 ?side2 (laid_below hT zs) A24.out).mono ?_); (case side1 => exact zk (V_reads' HO_1417001.out).2.2); (case side2 => exact (V_reads' HO_1417001.out).2.1); rintro e w28 ⟨rfl, hb⟩; refine ⟨_, rfl, ?_⟩; replace HO_1417001 := zA (V_below (vu HO_1417001.out) hb); replace HO_1424001 := zA (V_below (vu HO_1424001.out) hb); replace BK1416 := zb BK1416 hb; replace BK1423 := zb BK1423 hb; replace HB := zf hb))
    (try simp only [Act.put, List.setIfInBounds_toArray, List.set_cons_zero, List.set_cons_succ])
    go_cut [64] (fun v64 wc => ∃ (kq : Nat) (x64_24 : Bool), v64 = .bool x64_24 ∧ Aside0 (ulplaw04_DyadExact.j1 kq a0 a1 x64_24 t1410 t1411 t1414 t1417 t1418 t1421 = some r) ∧ Aside0 (kq ≤ kj6) ∧ Aside0 (Kd.V (Kd.int .u64) 43 wc w.heap.size (fun k_ => k_ ≠ gb1416 ∧ k_ ≠ gb1423) (.slice Ao12 t1411.length co12) t1411) ∧ Aside0 (Kd.V (Kd.int .u64) 43 wc w.heap.size (fun k_ => k_ ≠ gb1416 ∧ k_ ≠ gb1423) (.slice Ao17 t1418.length co17) t1418) ∧ Aside0 (wc.heap[gb1416]? = some (.cells #[.bool t1410, (.slice Ao12 t1411.length co12), .int .i64 t1414] 25 (0, 0))) ∧ Aside0 (wc.heap[gb1423]? = some (.cells #[.bool t1417, (.slice Ao17 t1418.length co17), .int .i64 t1421] 25 (0, 0))) ∧ Aside0 (Below w.heap.size w wc))
    case first =>
     have H := HC25.out
     clear HC25
     by_cases c29 : t1425 = true
     ·subst c29
      rw [if_pos rfl] at H
      by_cases c30 : t1424 = a0
      ·rw [if_pos c30] at H
       have c30b0 := beq_iff_eq.mpr c30
       have c30b1 := bne_eq_false_iff_eq.mpr c30
       clear c30
       (first | rw [c30b0] | (simp only [i64_w, i32_w]; rw [c30b0]) | skip)
       have H' := zA H
       clear H
       go_wp2
       go_meet
       case rel => exact ⟨_, (false), zi, H', ⟨by have := HJ6.out; first | omega | exact Nat.le_refl _⟩, ⟨vu HO_1417001.out⟩, ⟨vu HO_1424001.out⟩, ⟨zu BK1416⟩, ⟨zu BK1423⟩, ⟨zs⟩⟩
      rw [if_neg c30] at H
      have c30b0 := beq_eq_false_iff_ne.mpr c30
      have c30b1 := bne_iff_ne.mpr c30
      (first | rw [c30b0] | (simp only [i64_w, i32_w]; rw [c30b0]) | skip)
      by_cases c31 : a0 = 9223372036854775808
      ·rw [if_pos c31] at H
       have c31b0 := beq_iff_eq.mpr c31
       have c31b1 := bne_eq_false_iff_eq.mpr c31
       clear c31
       have H' := zA H
       clear H
       go_wp2
       go_meet
       case rel => exact ⟨_, ((t1424 != 0)), zi, H', ⟨by have := HJ6.out; first | omega | exact Nat.le_refl _⟩, ⟨vu HO_1417001.out⟩, ⟨vu HO_1424001.out⟩, ⟨zu BK1416⟩, ⟨zu BK1423⟩, ⟨zs⟩⟩
      rw [if_neg c31] at H
      have c31b0 := beq_eq_false_iff_ne.mpr c31
      have c31b1 := bne_iff_ne.mpr c31
      have H' := zA H
      clear H
      go_wp2
      go_meet
      case rel => exact ⟨_, (true), zi, H', ⟨by have := HJ6.out; first | omega | exact Nat.le_refl _⟩, ⟨vu HO_1417001.out⟩, ⟨vu HO_1424001.out⟩, ⟨zu BK1416⟩, ⟨zu BK1423⟩, ⟨zs⟩⟩
     replace c29 := Bool.eq_false_iff.mpr c29
     subst c29
     rw [if_neg (show ¬ (false = true) by decide)] at H
     have H' := zA H
     clear H
     go_wp2
     go_meet
     case rel => exact ⟨_, (true), zi, H', ⟨by have := HJ6.out; first | omega | exact Nat.le_refl _⟩, ⟨vu HO_1417001.out⟩, ⟨vu HO_1424001.out⟩, ⟨zu BK1416⟩, ⟨zu BK1423⟩, ⟨zs⟩⟩
    case rest =>
     clear HC25
     try clear c2
     try clear c4
     try clear c18
     try clear c18b0
     try clear c18b1
     try clear c19
     try clear c20
     try clear c20b0
     try clear c20b1
     try clear c21
     try clear c21b0
     try clear c21b1
     try clear c22
     try clear c22b0
     try clear c22b1
     try clear c23
     try clear c23b0
     try clear c23b1
     try clear c29
     try clear c30
     try clear c30b0
     try clear c30b1
     try clear c31
     try clear c31b0
     try clear c31b1
     try clear hcz11_0 hcz11_1 hcz11_2 hfz11_0 hfz11_1 hfz11_2
     try clear hcz16_0 hcz16_1 hcz16_2 hfz16_0 hfz16_1 hfz16_2
     obtain ⟨kq, x64_24, rfl, HA, HJ24, HO_1417001, HO_1424001, BK1416, BK1423, HB⟩ := hcut
     cases kq with
     | zero => exact absurd HA.out (by simp [ulplaw04_DyadExact.j1])
     | succ kj24 =>
      have H := HA.out
      clear HA
      simp only [ulplaw04_DyadExact.j1] at H
      by_cases c32 : x64_24 = true
      ·subst c32
       rw [if_pos rfl] at H
       obtain rfl := Option.some.inj H
       exact absurd hr_.out (by decide)
      replace c32 := Bool.eq_false_iff.mpr c32
      subst c32
      rw [if_neg (show ¬ (false = true) by decide)] at H
      obtain ⟨⟨t1426, t1427⟩, A33, H⟩ := zh H
      (try dsimp only at H)
      by_cases c34 : t1427 = 0
      ·rw [if_pos c34] at H
       have c34b0 := beq_iff_eq.mpr c34
       have c34b1 := bne_eq_false_iff_eq.mpr c34
       clear c34
       obtain ⟨t1428, A35, H⟩ := zh H
       by_cases c36 : ((decide (t1426 < 0)) == t1428) = true
       ·rw [if_pos c36] at H
        have c36b0 : ((decide (t1426 < 0)) == t1428) = true := c36
        (try (have c36b1 : decide ((decide (t1426 < 0)) = t1428) = true := by simpa using c36))
        (try (have c36b2 : ((decide (t1426 < 0)) == t1428) = true := by simpa using c36))
        clear c36
        obtain ⟨t1429, A37, H⟩ := zh H
        clear hr_
        obtain rfl := Option.some.inj H
        have hnb38 := NB1416_1423.out
        have hnc38 := NB1423_1416.out
        obtain ⟨_, _, _, _, _, _⟩ := zc BK1416
        obtain ⟨_, _, _, _, _, _⟩ := zc BK1423
        go_wp2_with (first | ((with_reducible refine zG 33 rfl ?_); refine zL (some 68) rfl rfl Tryd.func33 #[.agg #[.bool t1410, .slice Ao12 t1411.length co12, .int .i64 t1414], .agg #[.bool t1417, .slice Ao17 t1418.length co17, .int .i64 t1421]] rfl ?_; (with_reducible refine (dyad_Cmp.calls kj24 t1410 _ _ t1411 t1414 t1417 _ _ t1418 t1421 t1426 t1427 _ ?side1 ?side2 ?side3 ?side4 (laid_below hT zs) A33.out).mono ?_); (case side1 => exact zk (V_reads' HO_1417001.out).2.2); (case side2 => exact (V_reads' HO_1417001.out).2.1); (case side3 => exact zk (V_reads' HO_1424001.out).2.2); (case side4 => exact (V_reads' HO_1424001.out).2.1); rintro e w41 ⟨rfl, hb⟩; refine ⟨_, rfl, ?_⟩; replace HO_1417001 := zA (V_below (vu HO_1417001.out) hb); replace HO_1424001 := zA (V_below (vu HO_1424001.out) hb); replace BK1416 := zb BK1416 hb; replace BK1423 := zb BK1423 hb; replace HB := zf hb) | (go_at_call 51; (with_reducible refine (bits_Less.calls a0 a1 t1428 _ A35.out).mono ?_); rintro e w' ⟨rfl, ⟨nd, rfl⟩⟩) | (go_at_call 51; (with_reducible refine (bits_Less.calls a1 a0 t1429 _ A37.out).mono ?_); rintro e w' ⟨rfl, ⟨nd, rfl⟩⟩))
        go_ret
        exact ⟨er, zs⟩
       rw [if_neg c36] at H
       have c36b0 : ((decide (t1426 < 0)) == t1428) = false := by simpa using c36
       (try (have c36b1 : decide ((decide (t1426 < 0)) = t1428) = false := by simpa using c36))
       (try (have c36b2 : ((decide (t1426 < 0)) == t1428) = false := by simpa using c36))
       (try (have c36b3 : ¬ ((decide (t1426 < 0)) = t1428) := by simpa using c36))
       clear c36
       obtain rfl := Option.some.inj H
       exact absurd hr_.out (by decide)
      rw [if_neg c34] at H
      have c34b0 := beq_eq_false_iff_ne.mpr c34
      have c34b1 := bne_iff_ne.mpr c34
      obtain rfl := Option.some.inj H
      exact absurd hr_.out (by decide)
 replace c4 := Bool.eq_false_iff.mpr c4
 subst c4
 rw [if_neg (show ¬ (false = true) by decide)] at H
 obtain rfl := Option.some.inj H
 exact absurd hr_.out (by decide)
/-- THE ONE PURE STATEMENT of ulplaw04_DyadExact: yours. -/
def ulplaw04_DyadExact.Pure : Prop := ∀ (a0 : Int) (a1 : Int), (Lit.int .u64 a0).wf = true → (Lit.int .u64 a1).wf = true → ∃ k, ulplaw04_DyadExact.f k a0 a1 = some true
end Go.Proofs.YtemfckibdojbbaaDoor.PAll
