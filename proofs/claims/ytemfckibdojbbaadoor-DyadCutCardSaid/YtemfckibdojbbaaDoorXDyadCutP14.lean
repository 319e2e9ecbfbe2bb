/- Printed functions, merged by a program of this session. -/
import Derived.Test.YtemfckibdojbbaaDoorXDyadCutP0
import Derived.Test.YtemfckibdojbbaaDoorXDyadCutP4
import Derived.Test.YtemfckibdojbbaaDoorXDyadCutP8
import Derived.Test.YtemfckibdojbbaaDoorXDyadCutP11
import Derived.Test.YtemfckibdojbbaaDoorXDyadCutP12
import Derived.Test.YtemfckibdojbbaaDoorXDyadCutP13
import Derived.Laws.StructEq
import Derived.Test.YtemfckibdojbbaaDoorXDyadCutSh
namespace Go.Proofs.YtemfckibdojbbaaDoor.PAll
open Go.RowKit Go.Proofs.YtemfckibdojbbaaDoorW.PrintWords Go.Proofs.YtemfckibdojbbaaDoorW.PrintLast Go.Proofs.YtemfckibdojbbaaDoorW.PrintMore Go.Proofs.YtemfckibdojbbaaDoorW.PrintWords.Kd
attribute [local go_sem] max2_int min2_int max_two min_two max_three min_three max_four min_four   -- for this text's walks alone
set_option linter.unusedVariables false
set_option linter.unusedSimpArgs false
attribute [local go_sem] ext135 ext136
mutual
def ulplaw04_DyadCut.j0 : Nat → Int → Int → Int → Bool → Bool → List Int → Int → Bool → List Int → Int → Bool → List Int → Int → Option (Bool)
 | 0, _, _, _, _, _, _, _, _, _, _, _, _, _ => none
 | k + 1, x1, x6, x8, x34, x1034000, x1034001, x1034002, x1042000, x1042001, x1042002, x1049000, x1049001, x1049002 => if x34 = true then (if x6 = 0 then (if x8 = 0 then (some true) else (some ((x1049001.length : Int) == 0))) else (if (x1042001.length : Int) = 0 then (if x8 = 0 then (some true) else (some ((x1049001.length : Int) == 0))) else (some false))) else ((dyad_Cmp.f k x1042000 x1042001 x1042002 x1034000 x1034001 x1034002).bind fun bt1049 => ((dyad_Cmp.f k x1034000 x1034001 x1034002 x1049000 x1049001 x1049002).bind fun bt1051 => (if bt1049.2 = 0 then (if bt1051.2 = 0 then (if bt1049.1 > 0 then (ulplaw04_DyadCut.j1 k x1 bt1049.1 true x1034000 x1034001 x1034002 x1042000 x1042001 x1042002 x1049000 x1049001 x1049002) else (if bt1051.1 > 0 then (ulplaw04_DyadCut.j1 k x1 bt1049.1 true x1034000 x1034001 x1034002 x1042000 x1042001 x1042002 x1049000 x1049001 x1049002) else (if bt1049.1 = 0 then (if bt1051.1 = 0 then (ulplaw04_DyadCut.j1 k x1 bt1049.1 false x1034000 x1034001 x1034002 x1042000 x1042001 x1042002 x1049000 x1049001 x1049002) else (ulplaw04_DyadCut.j1 k x1 bt1049.1 true x1034000 x1034001 x1034002 x1042000 x1042001 x1042002 x1049000 x1049001 x1049002)) else (ulplaw04_DyadCut.j1 k x1 bt1049.1 (bt1051.1 == 0) x1034000 x1034001 x1034002 x1042000 x1042001 x1042002 x1049000 x1049001 x1049002)))) else (ulplaw04_DyadCut.j1 k x1 bt1049.1 true x1034000 x1034001 x1034002 x1042000 x1042001 x1042002 x1049000 x1049001 x1049002)) else (ulplaw04_DyadCut.j1 k x1 bt1049.1 true x1034000 x1034001 x1034002 x1042000 x1042001 x1042002 x1049000 x1049001 x1049002))))
def ulplaw04_DyadCut.j1 : Nat → Int → Int → Bool → Bool → List Int → Int → Bool → List Int → Int → Bool → List Int → Int → Option (Bool)
 | 0, _, _, _, _, _, _, _, _, _, _, _, _ => none
 | k + 1, x1, x9, x94, x1034000, x1034001, x1034002, x1042000, x1042001, x1042002, x1049000, x1049001, x1049002 => if x94 = true then (some false) else ((ulplaw04_few.f k x1042000 x1042001 x1042002 x1).bind fun t1053 => (if t1053 = true then ((ulplaw04_few.f k x1049000 x1049001 x1049002 x1).bind fun t1054 => (ulplaw04_DyadCut.j2 k x1 x9 (!t1054) x1034000 x1034001 x1034002 x1042000 x1042001 x1042002 x1049000 x1049001 x1049002)) else (ulplaw04_DyadCut.j2 k x1 x9 true x1034000 x1034001 x1034002 x1042000 x1042001 x1042002 x1049000 x1049001 x1049002)))
def ulplaw04_DyadCut.j2 : Nat → Int → Int → Bool → Bool → List Int → Int → Bool → List Int → Int → Bool → List Int → Int → Option (Bool)
 | 0, _, _, _, _, _, _, _, _, _, _, _, _ => none
 | k + 1, x1, x9, x104, x1034000, x1034001, x1034002, x1042000, x1042001, x1042002, x1049000, x1049001, x1049002 => if x104 = true then (some false) else ((dyad_Size.f k x1034000 x1034001 x1034002).bind fun bt1055 => (if bt1055.2 = 0 then (if x9 = 0 then (some (decide (bt1055.1 ≤ x1))) else ((dyad_Top.f k x1034000 x1034001 x1034002).bind fun bt1057 => (if bt1057.2 = 0 then (ulplaw04_DyadCut.j3 k x1 bt1055.1 bt1057.2 bt1057.1 (decide ((wrap64 ((wrap64 (bt1057.1 - x1)) + 1)) < (-32768))) x1042000 x1042001 x1042002 x1049000 x1049001 x1049002) else (ulplaw04_DyadCut.j3 k x1 bt1055.1 bt1057.2 bt1057.1 true x1042000 x1042001 x1042002 x1049000 x1049001 x1049002)))) else (some (x9 == 0))))
def ulplaw04_DyadCut.j3 : Nat → Int → Int → Int → Int → Bool → Bool → List Int → Int → Bool → List Int → Int → Option (Bool)
 | 0, _, _, _, _, _, _, _, _, _, _, _ => none
 | k + 1, x1, x11, x12, x13, x132, x1042000, x1042001, x1042002, x1049000, x1049001, x1049002 => if x132 = true then (some (x12 == 0)) else ((dyad_Sub.f k x1049000 x1049001 x1049002 x1042000 x1042001 x1042002).bind fun bt1059 => (if bt1059.2.2.2 = 0 then (if x11 > x1 then ((ulpref04_Same.f k bt1059.1 bt1059.2.1 bt1059.2.2.1 false (([1] : List Int)) (wrap64 ((wrap64 (x13 - x1)) + 1))).bind fun t1069 => (some t1069)) else (some false)) else (some false)))
end
def ulplaw04_DyadCut.f (k : Nat) (a0_0 : Bool) (l0_1 : List Int) (a0_2 : Int) (a1 : Int) : Option (Bool) := (ulplaw04_begins.f k).bind fun t1034 => (if t1034 = true then ((dyad_Cut.f k a0_0 l0_1 a0_2 a1 false).bind fun bt1035 => ((dyad_Cut.f k a0_0 l0_1 a0_2 a1 true).bind fun bt1042 => (if bt1035.2.2.2 = 0 then (ulplaw04_DyadCut.j0 k a1 bt1035.2.2.2 bt1042.2.2.2 (bt1042.2.2.2 != 0) a0_0 l0_1 a0_2 bt1035.1 bt1035.2.1 bt1035.2.2.1 bt1042.1 bt1042.2.1 bt1042.2.2.1) else (ulplaw04_DyadCut.j0 k a1 bt1035.2.2.2 bt1042.2.2.2 true a0_0 l0_1 a0_2 bt1035.1 bt1035.2.1 bt1035.2.2.1 bt1042.1 bt1042.2.1 bt1042.2.2.1)))) else (some false))
set_option maxHeartbeats 8000000 in
set_option maxRecDepth 100000 in
theorem ulplaw04_DyadCut.calls (k : Nat) (a0_0 : Bool) (A0_1 : Option Addr) (c0_1 : Nat) (l0_1 : List Int) (a0_2 : Int) (a1 : Int) (r : Bool) (w : World) (hr0_1 : Kd.C (Kd.int .u64) w A0_1 l0_1.length l0_1) (hc0_1 : l0_1.length ≤ c0_1) (hT : Laid w) (hr_ : Aside0 (r = true)) (h : ulplaw04_DyadCut.f k a0_0 l0_1 a0_2 a1 = some r) :
  Calls Tryd.prog 7 #[.agg #[.bool a0_0, .slice A0_1 l0_1.length c0_1, .int .i64 a0_2], .int .i64 a1] w fun e w' => e = .returned (.bool r) ∧ Below w.heap.size w w' := by
 have hu25 := Tryd.underlying25
 have HR0_1 := zA hr0_1
 have HC0_1 := zA hc0_1
 clear hr0_1 hc0_1
 have HB := zA (Below.refl w.heap.size w)
 have H : ((ulplaw04_begins.f k).bind fun t1034 => (if t1034 = true then ((dyad_Cut.f k a0_0 l0_1 a0_2 a1 false).bind fun bt1035 => ((dyad_Cut.f k a0_0 l0_1 a0_2 a1 true).bind fun bt1042 => (if bt1035.2.2.2 = 0 then (ulplaw04_DyadCut.j0 k a1 bt1035.2.2.2 bt1042.2.2.2 (bt1042.2.2.2 != 0) a0_0 l0_1 a0_2 bt1035.1 bt1035.2.1 bt1035.2.2.1 bt1042.1 bt1042.2.1 bt1042.2.2.1) else (ulplaw04_DyadCut.j0 k a1 bt1035.2.2.2 bt1042.2.2.2 true a0_0 l0_1 a0_2 bt1035.1 bt1035.2.1 bt1035.2.2.1 bt1042.1 bt1042.2.1 bt1042.2.2.1)))) else (some false))) = some r := h
 clear h
 obtain ⟨t1034, A3, H⟩ := zh H
 by_cases c4 : t1034 = true
 ·subst c4
  rw [if_pos rfl] at H
  obtain ⟨⟨t1035, t1036, t1039, t1040⟩, A5, H⟩ := zh H
  (try dsimp only at H)
  obtain ⟨⟨t1042, t1043, t1046, t1047⟩, A6, H⟩ := zh H
  (try dsimp only at H)
  have HC7 := zA H
  clear H
  go_enter Tryd.func7, Tryd.ntmps7
  go_upto_region 5 with (first | ((with_reducible refine zD 2 rfl ?_); (try (refine gate_guard (by rfl) ?_; dsimp only)); refine zn (N := 2) (cs := #[.bool a0_0, .slice A0_1 l0_1.length c0_1, .int .i64 a0_2]) (t := 25) rfl rfl ?_; intro gb1033 hg w8 hbox hb; have BK1033 := zA (hbox); have GW1033 := zw hg; replace HB := ze hb; clear hb hbox hg) | ((with_reducible refine zG 15 rfl ?_); refine zL (some 15) rfl rfl Tryd.func15 #[] rfl ?_; (with_reducible refine (ulplaw04_begins.calls k  true _ (laid_below hT zs) (zA (ulplaw04_begins.true_ k true A3.out)) A3.out).mono ?_); rintro e w9 ⟨rfl, hb⟩; refine ⟨_, rfl, ?_⟩; replace BK1033 := zb BK1033 hb; replace HB := zf hb; obtain ⟨hcz10_0, hcz10_1, hcz10_2, hfz10_0, hfz10_1, hfz10_2⟩ := zc BK1033) | ((with_reducible refine zG 18 rfl ?_); refine zL (some 20) rfl rfl Tryd.func18 #[.agg #[.bool a0_0, .slice A0_1 l0_1.length c0_1, .int .i64 a0_2], .int .i64 a1, .bool false] rfl ?_; (with_reducible refine (dyad_Cut.calls k a0_0 (fun k_ => k_ < w.heap.size) _ _ l0_1 a0_2 a1 false t1035 t1036 t1039 t1040 _ ?side1 (laid_below hT zs) A5.out).mono ?_); (case side1 => exact V_mk HC0_1.out (Kd.F_below (C_F (Kd.heap_int .u64) HR0_1.out) zs)); rintro e w11 ⟨v1037, rfl, ho0, hb⟩; refine ⟨_, rfl, ?_⟩; have HO1038 := zA (V_lower (V_mono (ok' := fun k_ => k_ ≠ gb1033) ho0 (fun k_ hk_ => Or.elim hk_ (fun hs_ => fun e_ => Nat.not_le.2 hs_ (by rw [e_]; exact GW1033.out)) (fun hn_ => (zj BK1033 k_ hn_)))) (below_size zs)); replace BK1033 := zb BK1033 hb; replace HB := zf hb; (try clear ho0)) | ((with_reducible refine zD 5 rfl ?_); (try (refine gate_guard (by rfl) ?_; dsimp only)); refine zn (N := 5) (cs := #[.bool false, .slice none 0 0, .int .i64 0]) (t := 25) rfl rfl ?_; intro gb1041 hg w12 hbox hb; replace HO1038 := zA (V_below (V_elderB (vu HO1038.out) gb1041 (Nat.le_of_eq hg.symm)) hb); have BK1041 := zA (hbox); have GW1041 := zx hg; replace HB := zf hb; have NB1033_1041 := zl BK1033 hg; have NB1041_1033 := zg BK1033 hg; replace BK1033 := zb BK1033 hb; clear hb hbox hg; have hnb13 := NB1041_1033.out; have hnc13 := NB1033_1041.out; obtain ⟨hcz14_0, hcz14_1, hcz14_2, hfz14_0, hfz14_1, hfz14_2⟩ := zc BK1041; obtain ⟨Ao15, co15, eo15⟩ := V_slice HO1038.out; subst eo15) | ((with_reducible refine gate_store (t := 25) (p := 5) rfl ?_); refine store_event (t := 25) (p := 5) (v := ?vo_w16) (w1 := (((w12.setCell ⟨gb1041, 0, none⟩ (.bool t1035)).setCell ⟨gb1041, 1, none⟩ (.slice Ao15 t1036.length co15)).setCell ⟨gb1041, 2, none⟩ (.int .i64 t1039))) ?hg ?ho ?hn ?hr ?_; (case ho => rfl); (case hg => rfl); (case hn => rfl); (case hr => first | (go_simp; done) | (go_simp; rfl)); intro w16 hw; have n0_ : Aside0 (Kd.V (Kd.int .u64) 43 w16 w.heap.size (fun k_ => k_ ≠ gb1033 ∧ k_ ≠ gb1041) (.slice Ao15 t1036.length co15) t1036) := ⟨(by rw [hw]; exact (vu (V_mono (zv gb1041 (V_mono HO1038.out (fun k_ hk => (⟨hk, hk.2⟩ : _ ∧ k_ ≠ gb1041))) (fun _ hk => hk.2) _ _ _) (fun _ hk => ⟨hk.1.1, hk.1.2⟩))))⟩; have n1_ : Aside0 (w16.heap[gb1033]? = some (.cells #[.bool a0_0, .slice A0_1 l0_1.length c0_1, .int .i64 a0_2] 25 (0, 0))) := ⟨(by rw [hw]; exact (zE BK1033))⟩; have n2_ : Aside0 (w16.heap[gb1041]? = some (.cells #[.bool t1035, .slice Ao15 t1036.length co15, .int .i64 t1039] 25 (0, 0))) := ⟨(by rw [hw]; exact (zy BK1041))⟩; have n3_ : Aside0 (Below w.heap.size w w16) := ⟨(by rw [hw]; exact zs)⟩; clear hw; clear HO1038; clear BK1033; clear BK1041; clear HB; have HO1038 := n0_; have BK1033 := n1_; have BK1041 := n2_; have HB := n3_; clear n0_ n1_ n2_ n3_; obtain ⟨hcz17_0, hcz17_1, hcz17_2, hfz17_0, hfz17_1, hfz17_2⟩ := zc BK1033) | ((with_reducible refine zG 18 rfl ?_); refine zL (some 26) rfl rfl Tryd.func18 #[.agg #[.bool a0_0, .slice A0_1 l0_1.length c0_1, .int .i64 a0_2], .int .i64 a1, .bool true] rfl ?_; (with_reducible refine (dyad_Cut.calls k a0_0 (fun k_ => k_ < w.heap.size) _ _ l0_1 a0_2 a1 true t1042 t1043 t1046 t1047 _ ?side1 (laid_below hT zs) A6.out).mono ?_); (case side1 => exact V_mk HC0_1.out (Kd.F_below (C_F (Kd.heap_int .u64) HR0_1.out) zs)); rintro e w18 ⟨v1044, rfl, ho0, hb⟩; refine ⟨_, rfl, ?_⟩; replace HO1038 := zA (V_below (vu HO1038.out) hb); have HO1045 := zA (V_lower (V_mono (ok' := fun k_ => k_ ≠ gb1033 ∧ k_ ≠ gb1041) ho0 (fun k_ hk_ => ⟨Or.elim hk_ (fun hs_ => fun e_ => Nat.not_le.2 hs_ (by rw [e_]; exact GW1033.out)) (fun hn_ => (zj BK1033 k_ hn_)), Or.elim hk_ (fun hs_ => fun e_ => Nat.not_le.2 hs_ (by rw [e_]; exact GW1041.out)) (fun hn_ => (zj BK1041 k_ hn_))⟩)) (below_size zs)); replace BK1033 := zb BK1033 hb; replace BK1041 := zb BK1041 hb; replace HB := zf hb; (try clear ho0)) | ((with_reducible refine zD 7 rfl ?_); (try (refine gate_guard (by rfl) ?_; dsimp only)); refine zn (N := 7) (cs := #[.bool false, .slice none 0 0, .int .i64 0]) (t := 25) rfl rfl ?_; intro gb1048 hg w19 hbox hb; replace HO1038 := zA (V_below (V_elderB (vu HO1038.out) gb1048 (Nat.le_of_eq hg.symm)) hb); replace HO1045 := zA (V_below (V_elderB (vu HO1045.out) gb1048 (Nat.le_of_eq hg.symm)) hb); have BK1048 := zA (hbox); have GW1048 := zx hg; replace HB := zf hb; have NB1033_1048 := zl BK1033 hg; have NB1048_1033 := zg BK1033 hg; replace BK1033 := zb BK1033 hb; have NB1041_1048 := zl BK1041 hg; have NB1048_1041 := zg BK1041 hg; replace BK1041 := zb BK1041 hb; clear hb hbox hg; have hnb20 := NB1048_1033.out; have hnc20 := NB1033_1048.out; have hnb21 := NB1048_1041.out; have hnc21 := NB1041_1048.out; obtain ⟨hcz22_0, hcz22_1, hcz22_2, hfz22_0, hfz22_1, hfz22_2⟩ := zc BK1048; obtain ⟨Ao23, co23, eo23⟩ := V_slice HO1045.out; subst eo23))
  (try simp only [Act.put, List.setIfInBounds_toArray, List.set_cons_zero, List.set_cons_succ])
  go_cut [34] (fun v34 wc => ∃ (kq : Nat) (x34_6 : Bool), v34 = .bool x34_6 ∧ Aside0 (ulplaw04_DyadCut.j0 kq a1 t1040 t1047 x34_6 a0_0 l0_1 a0_2 t1035 t1036 t1039 t1042 t1043 t1046 = some r) ∧ Aside0 (kq ≤ k) ∧ Aside0 (Kd.V (Kd.int .u64) 43 wc w.heap.size (fun k_ => k_ ≠ gb1033 ∧ k_ ≠ gb1041 ∧ k_ ≠ gb1048) (.slice Ao15 t1036.length co15) t1036) ∧ Aside0 (Kd.V (Kd.int .u64) 43 wc w.heap.size (fun k_ => k_ ≠ gb1033 ∧ k_ ≠ gb1041 ∧ k_ ≠ gb1048) (.slice Ao23 t1043.length co23) t1043) ∧ Aside0 (wc.heap[gb1033]? = some (.cells #[.bool a0_0, (.slice A0_1 l0_1.length c0_1), .int .i64 a0_2] 25 (0, 0))) ∧ Aside0 (wc.heap[gb1041]? = some (.cells #[.bool t1035, (.slice Ao15 t1036.length co15), .int .i64 t1039] 25 (0, 0))) ∧ Aside0 (wc.heap[gb1048]? = some (.cells #[.bool t1042, (.slice Ao23 t1043.length co23), .int .i64 t1046] 25 (0, 0))) ∧ Aside0 (Below w.heap.size w wc))
  case first =>
   have H := HC7.out
   clear HC7
   by_cases c24 : t1040 = 0
   ·rw [if_pos c24] at H
    have c24b0 := beq_iff_eq.mpr c24
    have c24b1 := bne_eq_false_iff_eq.mpr c24
    clear c24
    (first | rw [c24b0] | (simp only [i64_w, i32_w]; rw [c24b0]) | skip)
    have H' := zA H
    clear H
    go_wp2
    go_meet
    case rel => exact ⟨_, ((t1047 != 0)), zi, H', ⟨by first | omega | exact Nat.le_refl _⟩, ⟨vu (V_mono (zv gb1048 (V_mono HO1038.out (fun k_ hk => (⟨hk, hk.2⟩ : _ ∧ k_ ≠ gb1048))) (fun _ hk => hk.2) _ _ _) (fun _ hk => ⟨hk.1.1.1, ⟨hk.1.1.2, hk.1.2⟩⟩))⟩, ⟨vu (V_mono (zv gb1048 (V_mono HO1045.out (fun k_ hk => (⟨hk, hk.2⟩ : _ ∧ k_ ≠ gb1048))) (fun _ hk => hk.2) _ _ _) (fun _ hk => ⟨hk.1.1.1, ⟨hk.1.1.2, hk.1.2⟩⟩))⟩, ⟨by (with_reducible repeat (first | refine blk_drewN ?_ _ | refine blk_drew ?_ | refine blk_alloc ?_ _)); refine blk_far ?_ NB1033_1048.out _; refine blk_far ?_ NB1033_1048.out _; refine blk_far ?_ NB1033_1048.out _; exact BK1033.out⟩, ⟨by (with_reducible repeat (first | refine blk_drewN ?_ _ | refine blk_drew ?_ | refine blk_alloc ?_ _)); refine blk_far ?_ NB1041_1048.out _; refine blk_far ?_ NB1041_1048.out _; refine blk_far ?_ NB1041_1048.out _; exact BK1041.out⟩, ⟨by (with_reducible repeat (first | refine blk_drewN ?_ _ | refine blk_drew ?_ | refine blk_alloc ?_ _)); exact zp (zu BK1048)⟩, ⟨zs⟩⟩
   rw [if_neg c24] at H
   have c24b0 := beq_eq_false_iff_ne.mpr c24
   have c24b1 := bne_iff_ne.mpr c24
   (first | rw [c24b0] | (simp only [i64_w, i32_w]; rw [c24b0]) | skip)
   have H' := zA H
   clear H
   go_wp2
   go_meet
   case rel => exact ⟨_, (true), zi, H', ⟨by first | omega | exact Nat.le_refl _⟩, ⟨vu (V_mono (zv gb1048 (V_mono HO1038.out (fun k_ hk => (⟨hk, hk.2⟩ : _ ∧ k_ ≠ gb1048))) (fun _ hk => hk.2) _ _ _) (fun _ hk => ⟨hk.1.1.1, ⟨hk.1.1.2, hk.1.2⟩⟩))⟩, ⟨vu (V_mono (zv gb1048 (V_mono HO1045.out (fun k_ hk => (⟨hk, hk.2⟩ : _ ∧ k_ ≠ gb1048))) (fun _ hk => hk.2) _ _ _) (fun _ hk => ⟨hk.1.1.1, ⟨hk.1.1.2, hk.1.2⟩⟩))⟩, ⟨by (with_reducible repeat (first | refine blk_drewN ?_ _ | refine blk_drew ?_ | refine blk_alloc ?_ _)); refine blk_far ?_ NB1033_1048.out _; refine blk_far ?_ NB1033_1048.out _; refine blk_far ?_ NB1033_1048.out _; exact BK1033.out⟩, ⟨by (with_reducible repeat (first | refine blk_drewN ?_ _ | refine blk_drew ?_ | refine blk_alloc ?_ _)); refine blk_far ?_ NB1041_1048.out _; refine blk_far ?_ NB1041_1048.out _; refine blk_far ?_ NB1041_1048.out _; exact BK1041.out⟩, ⟨by (with_reducible repeat (first | refine blk_drewN ?_ _ | refine blk_drew ?_ | refine blk_alloc ?_ _)); exact zp (zu BK1048)⟩, ⟨zs⟩⟩
  case rest =>
   clear HC7
   try clear c4
   try clear c24
   try clear c24b0
   try clear c24b1
   try clear hcz10_0 hcz10_1 hcz10_2 hfz10_0 hfz10_1 hfz10_2
   try clear hcz14_0 hcz14_1 hcz14_2 hfz14_0 hfz14_1 hfz14_2
   try clear hcz17_0 hcz17_1 hcz17_2 hfz17_0 hfz17_1 hfz17_2
   try clear hcz22_0 hcz22_1 hcz22_2 hfz22_0 hfz22_1 hfz22_2
   obtain ⟨kq, x34_6, rfl, HA, HJ6, HO_1042001, HO_1049001, BK1033, BK1041, BK1048, HB⟩ := hcut
   cases kq with
   | zero => exact absurd HA.out (by simp [ulplaw04_DyadCut.j0])
   | succ kj6 =>
    have H := HA.out
    clear HA
    simp only [ulplaw04_DyadCut.j0] at H
    by_cases c25 : x34_6 = true
    ·subst c25
     rw [if_pos rfl] at H
     by_cases c26 : t1040 = 0
     ·rw [if_pos c26] at H
      have c26b0 := beq_iff_eq.mpr c26
      have c26b1 := bne_eq_false_iff_eq.mpr c26
      clear c26
      by_cases c27 : t1047 = 0
      ·rw [if_pos c27] at H
       have c27b0 := beq_iff_eq.mpr c27
       have c27b1 := bne_eq_false_iff_eq.mpr c27
       clear c27
       clear hr_
       obtain rfl := Option.some.inj H
       go_wp2
       go_ret
       exact ⟨er, zs⟩
      rw [if_neg c27] at H
      have c27b0 := beq_eq_false_iff_ne.mpr c27
      have c27b1 := bne_iff_ne.mpr c27
      clear hr_
      obtain rfl := Option.some.inj H
      have hnb28 := NB1048_1033.out
      have hnc28 := NB1033_1048.out
      have hnb29 := NB1048_1041.out
      have hnc29 := NB1041_1048.out
      obtain ⟨_, _, _, _, _, _⟩ := zc BK1048
      go_wp2
      go_ret
      exact ⟨er, zs⟩
     rw [if_neg c26] at H
     have c26b0 := beq_eq_false_iff_ne.mpr c26
     have c26b1 := bne_iff_ne.mpr c26
     by_cases c31 : (t1036.length : Int) = 0
     ·rw [if_pos c31] at H
      have c31b0 := beq_iff_eq.mpr c31
      have c31b1 := bne_eq_false_iff_eq.mpr c31
      clear c31
      by_cases c32 : t1047 = 0
      ·rw [if_pos c32] at H
       have c32b0 := beq_iff_eq.mpr c32
       have c32b1 := bne_eq_false_iff_eq.mpr c32
       clear c32
       clear hr_
       obtain rfl := Option.some.inj H
       have hnb33 := NB1041_1033.out
       have hnc33 := NB1033_1041.out
       have hnb34 := NB1041_1048.out
       have hnc34 := NB1048_1041.out
       obtain ⟨_, _, _, _, _, _⟩ := zc BK1041
       go_wp2
       go_ret
       exact ⟨er, zs⟩
      rw [if_neg c32] at H
      have c32b0 := beq_eq_false_iff_ne.mpr c32
      have c32b1 := bne_iff_ne.mpr c32
      clear hr_
      obtain rfl := Option.some.inj H
      have hnb36 := NB1041_1033.out
      have hnc36 := NB1033_1041.out
      have hnb37 := NB1041_1048.out
      have hnc37 := NB1048_1041.out
      obtain ⟨_, _, _, _, _, _⟩ := zc BK1041
      have hnb39 := NB1048_1033.out
      have hnc39 := NB1033_1048.out
      obtain ⟨_, _, _, _, _, _⟩ := zc BK1048
      go_wp2
      go_ret
      exact ⟨er, zs⟩
     rw [if_neg c31] at H
     have c31b0 := beq_eq_false_iff_ne.mpr c31
     have c31b1 := bne_iff_ne.mpr c31
     have c31b2 : ¬ (t1036 = []) := fun h_ => c31 (by rw [h_]; rfl)
     obtain rfl := Option.some.inj H
     exact absurd hr_.out (by decide)
    replace c25 := Bool.eq_false_iff.mpr c25
    subst c25
    rw [if_neg (show ¬ (false = true) by decide)] at H
    obtain ⟨⟨t1049, t1050⟩, A41, H⟩ := zh H
    (try dsimp only at H)
    obtain ⟨⟨t1051, t1052⟩, A42, H⟩ := zh H
    (try dsimp only at H)
    have HC43 := zA H
    clear H
    have hnb44 := NB1041_1033.out
    have hnc44 := NB1033_1041.out
    have hnb45 := NB1041_1048.out
    have hnc45 := NB1048_1041.out
    obtain ⟨_, _, _, _, _, _⟩ := zc BK1041
    have hnb47 := NB1033_1048.out
    have hnc47 := NB1048_1033.out
    obtain ⟨_, _, _, _, _, _⟩ := zc BK1033
    go_upto_region 9 with (first | ((with_reducible refine zG 33 rfl ?_); refine zL (some 56) rfl rfl Tryd.func33 #[.agg #[.bool t1035, .slice Ao15 t1036.length co15, .int .i64 t1039], .agg #[.bool a0_0, .slice A0_1 l0_1.length c0_1, .int .i64 a0_2]] rfl ?_; (with_reducible refine (dyad_Cmp.calls kj6 t1035 _ _ t1036 t1039 a0_0 _ _ l0_1 a0_2 t1049 t1050 _ ?side1 ?side2 ?side3 ?side4 (laid_below hT zs) A41.out).mono ?_); (case side1 => exact zk (V_reads' HO_1042001.out).2.2); (case side2 => exact (V_reads' HO_1042001.out).2.1); (case side3 => exact zk (C_below HR0_1.out HB.out)); (case side4 => exact HC0_1.out); rintro e w49 ⟨rfl, hb⟩; refine ⟨_, rfl, ?_⟩; replace HO_1042001 := zA (V_below (vu HO_1042001.out) hb); replace HO_1049001 := zA (V_below (vu HO_1049001.out) hb); replace BK1033 := zb BK1033 hb; replace BK1041 := zb BK1041 hb; replace BK1048 := zb BK1048 hb; replace HB := zf hb; obtain ⟨hcz50_0, hcz50_1, hcz50_2, hfz50_0, hfz50_1, hfz50_2⟩ := zc BK1033; obtain ⟨hcz51_0, hcz51_1, hcz51_2, hfz51_0, hfz51_1, hfz51_2⟩ := zc BK1048) | ((with_reducible refine zG 33 rfl ?_); refine zL (some 62) rfl rfl Tryd.func33 #[.agg #[.bool a0_0, .slice A0_1 l0_1.length c0_1, .int .i64 a0_2], .agg #[.bool t1042, .slice Ao23 t1043.length co23, .int .i64 t1046]] rfl ?_; (with_reducible refine (dyad_Cmp.calls kj6 a0_0 _ _ l0_1 a0_2 t1042 _ _ t1043 t1046 t1051 t1052 _ ?side1 ?side2 ?side3 ?side4 (laid_below hT zs) A42.out).mono ?_); (case side1 => exact zk (C_below HR0_1.out HB.out)); (case side2 => exact HC0_1.out); (case side3 => exact zk (V_reads' HO_1049001.out).2.2); (case side4 => exact (V_reads' HO_1049001.out).2.1); rintro e w52 ⟨rfl, hb⟩; refine ⟨_, rfl, ?_⟩; replace HO_1042001 := zA (V_below (vu HO_1042001.out) hb); replace HO_1049001 := zA (V_below (vu HO_1049001.out) hb); replace BK1033 := zb BK1033 hb; replace BK1041 := zb BK1041 hb; replace BK1048 := zb BK1048 hb; replace HB := zf hb))
    (try simp only [Act.put, List.setIfInBounds_toArray, List.set_cons_zero, List.set_cons_succ])
    go_cut [94] (fun v94 wc => ∃ (kq : Nat) (x94_42 : Bool), v94 = .bool x94_42 ∧ Aside0 (ulplaw04_DyadCut.j1 kq a1 t1049 x94_42 a0_0 l0_1 a0_2 t1035 t1036 t1039 t1042 t1043 t1046 = some r) ∧ Aside0 (kq ≤ kj6) ∧ Aside0 (Kd.V (Kd.int .u64) 43 wc w.heap.size (fun k_ => k_ ≠ gb1033 ∧ k_ ≠ gb1041 ∧ k_ ≠ gb1048) (.slice Ao15 t1036.length co15) t1036) ∧ Aside0 (Kd.V (Kd.int .u64) 43 wc w.heap.size (fun k_ => k_ ≠ gb1033 ∧ k_ ≠ gb1041 ∧ k_ ≠ gb1048) (.slice Ao23 t1043.length co23) t1043) ∧ Aside0 (wc.heap[gb1033]? = some (.cells #[.bool a0_0, (.slice A0_1 l0_1.length c0_1), .int .i64 a0_2] 25 (0, 0))) ∧ Aside0 (wc.heap[gb1041]? = some (.cells #[.bool t1035, (.slice Ao15 t1036.length co15), .int .i64 t1039] 25 (0, 0))) ∧ Aside0 (wc.heap[gb1048]? = some (.cells #[.bool t1042, (.slice Ao23 t1043.length co23), .int .i64 t1046] 25 (0, 0))) ∧ Aside0 (Below w.heap.size w wc))
    case first =>
     have H := HC43.out
     clear HC43
     by_cases c53 : t1050 = 0
     ·rw [if_pos c53] at H
      have c53b0 := beq_iff_eq.mpr c53
      have c53b1 := bne_eq_false_iff_eq.mpr c53
      clear c53
      (first | rw [c53b0] | (simp only [i64_w, i32_w]; rw [c53b0]) | skip)
      by_cases c54 : t1052 = 0
      ·rw [if_pos c54] at H
       have c54b0 := beq_iff_eq.mpr c54
       have c54b1 := bne_eq_false_iff_eq.mpr c54
       clear c54
       by_cases c55 : t1049 > 0
       ·rw [if_pos c55] at H
        have c55b0 := decide_eq_true c55
        clear c55
        have H' := zA H
        clear H
        go_wp2
        go_meet
        case rel => exact ⟨_, (true), zi, H', ⟨by have := HJ6.out; first | omega | exact Nat.le_refl _⟩, ⟨vu HO_1042001.out⟩, ⟨vu HO_1049001.out⟩, ⟨zu BK1033⟩, ⟨zu BK1041⟩, ⟨zu BK1048⟩, ⟨zs⟩⟩
       rw [if_neg c55] at H
       have c55b0 := decide_eq_false c55
       clear c55
       by_cases c56 : t1051 > 0
       ·rw [if_pos c56] at H
        have c56b0 := decide_eq_true c56
        clear c56
        have H' := zA H
        clear H
        go_wp2
        go_meet
        case rel => exact ⟨_, (true), zi, H', ⟨by have := HJ6.out; first | omega | exact Nat.le_refl _⟩, ⟨vu HO_1042001.out⟩, ⟨vu HO_1049001.out⟩, ⟨zu BK1033⟩, ⟨zu BK1041⟩, ⟨zu BK1048⟩, ⟨zs⟩⟩
       rw [if_neg c56] at H
       have c56b0 := decide_eq_false c56
       clear c56
       by_cases c57 : t1049 = 0
       ·rw [if_pos c57] at H
        have c57b0 := beq_iff_eq.mpr c57
        have c57b1 := bne_eq_false_iff_eq.mpr c57
        clear c57
        by_cases c58 : t1051 = 0
        ·rw [if_pos c58] at H
         have c58b0 := beq_iff_eq.mpr c58
         have c58b1 := bne_eq_false_iff_eq.mpr c58
         clear c58
         have H' := zA H
         clear H
         go_wp2
         go_meet
         case rel => exact ⟨_, (false), zi, H', ⟨by have := HJ6.out; first | omega | exact Nat.le_refl _⟩, ⟨vu HO_1042001.out⟩, ⟨vu HO_1049001.out⟩, ⟨zu BK1033⟩, ⟨zu BK1041⟩, ⟨zu BK1048⟩, ⟨zs⟩⟩
        rw [if_neg c58] at H
        have c58b0 := beq_eq_false_iff_ne.mpr c58
        have c58b1 := bne_iff_ne.mpr c58
        have H' := zA H
        clear H
        go_wp2
        go_meet
        case rel => exact ⟨_, (true), zi, H', ⟨by have := HJ6.out; first | omega | exact Nat.le_refl _⟩, ⟨vu HO_1042001.out⟩, ⟨vu HO_1049001.out⟩, ⟨zu BK1033⟩, ⟨zu BK1041⟩, ⟨zu BK1048⟩, ⟨zs⟩⟩
       rw [if_neg c57] at H
       have c57b0 := beq_eq_false_iff_ne.mpr c57
       have c57b1 := bne_iff_ne.mpr c57
       have H' := zA H
       clear H
       go_wp2
       go_meet
       case rel => exact ⟨_, ((t1051 == 0)), zi, H', ⟨by have := HJ6.out; first | omega | exact Nat.le_refl _⟩, ⟨vu HO_1042001.out⟩, ⟨vu HO_1049001.out⟩, ⟨zu BK1033⟩, ⟨zu BK1041⟩, ⟨zu BK1048⟩, ⟨zs⟩⟩
      rw [if_neg c54] at H
      have c54b0 := beq_eq_false_iff_ne.mpr c54
      have c54b1 := bne_iff_ne.mpr c54
      have H' := zA H
      clear H
      go_wp2
      go_meet
      case rel => exact ⟨_, (true), zi, H', ⟨by have := HJ6.out; first | omega | exact Nat.le_refl _⟩, ⟨vu HO_1042001.out⟩, ⟨vu HO_1049001.out⟩, ⟨zu BK1033⟩, ⟨zu BK1041⟩, ⟨zu BK1048⟩, ⟨zs⟩⟩
     rw [if_neg c53] at H
     have c53b0 := beq_eq_false_iff_ne.mpr c53
     have c53b1 := bne_iff_ne.mpr c53
     (first | rw [c53b0] | (simp only [i64_w, i32_w]; rw [c53b0]) | skip)
     have H' := zA H
     clear H
     go_wp2
     go_meet
     case rel => exact ⟨_, (true), zi, H', ⟨by have := HJ6.out; first | omega | exact Nat.le_refl _⟩, ⟨vu HO_1042001.out⟩, ⟨vu HO_1049001.out⟩, ⟨zu BK1033⟩, ⟨zu BK1041⟩, ⟨zu BK1048⟩, ⟨zs⟩⟩
    case rest =>
     clear HC43
     try clear c4
     try clear c24
     try clear c24b0
     try clear c24b1
     try clear c25
     try clear c26
     try clear c26b0
     try clear c26b1
     try clear c27
     try clear c27b0
     try clear c27b1
     try clear c31
     try clear c31b0
     try clear c31b1
     try clear c31b2
     try clear c32
     try clear c32b0
     try clear c32b1
     try clear c53
     try clear c53b0
     try clear c53b1
     try clear c54
     try clear c54b0
     try clear c54b1
     try clear c55
     try clear c55b0
     try clear c56
     try clear c56b0
     try clear c57
     try clear c57b0
     try clear c57b1
     try clear c58
     try clear c58b0
     try clear c58b1
     try clear hcz10_0 hcz10_1 hcz10_2 hfz10_0 hfz10_1 hfz10_2
     try clear hcz14_0 hcz14_1 hcz14_2 hfz14_0 hfz14_1 hfz14_2
     try clear hcz17_0 hcz17_1 hcz17_2 hfz17_0 hfz17_1 hfz17_2
     try clear hcz22_0 hcz22_1 hcz22_2 hfz22_0 hfz22_1 hfz22_2
     try clear hcz50_0 hcz50_1 hcz50_2 hfz50_0 hfz50_1 hfz50_2
     try clear hcz51_0 hcz51_1 hcz51_2 hfz51_0 hfz51_1 hfz51_2
     obtain ⟨kq, x94_42, rfl, HA, HJ42, HO_1042001, HO_1049001, BK1033, BK1041, BK1048, HB⟩ := hcut
     cases kq with
     | zero => exact absurd HA.out (by simp [ulplaw04_DyadCut.j1])
     | succ kj42 =>
      have H := HA.out
      clear HA
      simp only [ulplaw04_DyadCut.j1] at H
      by_cases c59 : x94_42 = true
      ·subst c59
       rw [if_pos rfl] at H
       obtain rfl := Option.some.inj H
       exact absurd hr_.out (by decide)
      replace c59 := Bool.eq_false_iff.mpr c59
      subst c59
      rw [if_neg (show ¬ (false = true) by decide)] at H
      have HC60 := zA H
      clear H
      go_upto_region 11 with (fail)
      go_cut [104] (fun v104 wc => ∃ (kq : Nat) (x104_59 : Bool), v104 = .bool x104_59 ∧ Aside0 (ulplaw04_DyadCut.j2 kq a1 t1049 x104_59 a0_0 l0_1 a0_2 t1035 t1036 t1039 t1042 t1043 t1046 = some r) ∧ Aside0 (kq ≤ kj42) ∧ Aside0 (Kd.V (Kd.int .u64) 43 wc w.heap.size (fun k_ => k_ ≠ gb1033 ∧ k_ ≠ gb1041 ∧ k_ ≠ gb1048) (.slice Ao15 t1036.length co15) t1036) ∧ Aside0 (Kd.V (Kd.int .u64) 43 wc w.heap.size (fun k_ => k_ ≠ gb1033 ∧ k_ ≠ gb1041 ∧ k_ ≠ gb1048) (.slice Ao23 t1043.length co23) t1043) ∧ Aside0 (wc.heap[gb1033]? = some (.cells #[.bool a0_0, (.slice A0_1 l0_1.length c0_1), .int .i64 a0_2] 25 (0, 0))) ∧ Aside0 (wc.heap[gb1041]? = some (.cells #[.bool t1035, (.slice Ao15 t1036.length co15), .int .i64 t1039] 25 (0, 0))) ∧ Aside0 (wc.heap[gb1048]? = some (.cells #[.bool t1042, (.slice Ao23 t1043.length co23), .int .i64 t1046] 25 (0, 0))) ∧ Aside0 (Below w.heap.size w wc))
      case first =>
       have H := HC60.out
       clear HC60
       obtain ⟨t1053, A61, H⟩ := zh H
       by_cases c62 : t1053 = true
       ·subst c62
        rw [if_pos rfl] at H
        obtain ⟨t1054, A63, H⟩ := zh H
        have H' := zA H
        clear H
        have hnb64 := NB1041_1033.out
        have hnc64 := NB1033_1041.out
        have hnb65 := NB1041_1048.out
        have hnc65 := NB1048_1041.out
        obtain ⟨_, _, _, _, _, _⟩ := zc BK1041
        go_wp2_with (first | ((with_reducible refine zG 39 rfl ?_); refine zL (some 97) rfl rfl Tryd.func39 #[.agg #[.bool t1035, .slice Ao15 t1036.length co15, .int .i64 t1039], .int .i64 a1] rfl ?_; (with_reducible refine (ulplaw04_few.calls kj42 t1035 _ _ t1036 t1039 a1 true _ ?side1 ?side2 (laid_below hT zs) A61.out).mono ?_); (case side1 => exact zk (V_reads' HO_1042001.out).2.2); (case side2 => exact (V_reads' HO_1042001.out).2.1); rintro e w67 ⟨rfl, hb⟩; refine ⟨_, rfl, ?_⟩; replace HO_1042001 := zA (V_below (vu HO_1042001.out) hb); replace HO_1049001 := zA (V_below (vu HO_1049001.out) hb); replace BK1033 := zb BK1033 hb; replace BK1041 := zb BK1041 hb; replace BK1048 := zb BK1048 hb; replace HB := zf hb; have hnb68 := NB1048_1033.out; have hnc68 := NB1033_1048.out; obtain ⟨hcz69_0, hcz69_1, hcz69_2, hfz69_0, hfz69_1, hfz69_2⟩ := zc BK1048) | (go_at_call 39; (with_reducible refine (ulplaw04_few.calls kj42 t1042 _ _ t1043 t1046 a1 t1054 _ ?side1 ?side2 (laid_below hT zs) A63.out).mono ?_); (case side1 => exact zk (V_reads' HO_1049001.out).2.2); (case side2 => exact (V_reads' HO_1049001.out).2.1); rintro e w70 ⟨rfl, hb⟩; replace HO_1042001 := zA (V_below (vu HO_1042001.out) hb); replace HO_1049001 := zA (V_below (vu HO_1049001.out) hb); replace BK1033 := zb BK1033 hb; replace BK1041 := zb BK1041 hb; replace BK1048 := zb BK1048 hb; replace HB := zf hb))
        go_meet
        case rel => exact ⟨_, (!t1054), zi, H', ⟨by have := HJ6.out; have := HJ42.out; first | omega | exact Nat.le_refl _⟩, ⟨vu HO_1042001.out⟩, ⟨vu HO_1049001.out⟩, ⟨zu BK1033⟩, ⟨zu BK1041⟩, ⟨zu BK1048⟩, ⟨zs⟩⟩
       replace c62 := Bool.eq_false_iff.mpr c62
       subst c62
       rw [if_neg (show ¬ (false = true) by decide)] at H
       have H' := zA H
       clear H
       have hnb71 := NB1041_1033.out
       have hnc71 := NB1033_1041.out
       have hnb72 := NB1041_1048.out
       have hnc72 := NB1048_1041.out
       obtain ⟨_, _, _, _, _, _⟩ := zc BK1041
       go_wp2_with (first | ((with_reducible refine zG 39 rfl ?_); refine zL (some 97) rfl rfl Tryd.func39 #[.agg #[.bool t1035, .slice Ao15 t1036.length co15, .int .i64 t1039], .int .i64 a1] rfl ?_; (with_reducible refine (ulplaw04_few.calls kj42 t1035 _ _ t1036 t1039 a1 false _ ?side1 ?side2 (laid_below hT zs) A61.out).mono ?_); (case side1 => exact zk (V_reads' HO_1042001.out).2.2); (case side2 => exact (V_reads' HO_1042001.out).2.1); rintro e w74 ⟨rfl, hb⟩; refine ⟨_, rfl, ?_⟩; replace HO_1042001 := zA (V_below (vu HO_1042001.out) hb); replace HO_1049001 := zA (V_below (vu HO_1049001.out) hb); replace BK1033 := zb BK1033 hb; replace BK1041 := zb BK1041 hb; replace BK1048 := zb BK1048 hb; replace HB := zf hb))
       go_meet
       case rel => exact ⟨_, (true), zi, H', ⟨by have := HJ6.out; have := HJ42.out; first | omega | exact Nat.le_refl _⟩, ⟨vu HO_1042001.out⟩, ⟨vu HO_1049001.out⟩, ⟨zu BK1033⟩, ⟨zu BK1041⟩, ⟨zu BK1048⟩, ⟨zs⟩⟩
      case rest =>
       clear HC60
       try clear c4
       try clear c24
       try clear c24b0
       try clear c24b1
       try clear c25
       try clear c26
       try clear c26b0
       try clear c26b1
       try clear c27
       try clear c27b0
       try clear c27b1
       try clear c31
       try clear c31b0
       try clear c31b1
       try clear c31b2
       try clear c32
       try clear c32b0
       try clear c32b1
       try clear c53
       try clear c53b0
       try clear c53b1
       try clear c54
       try clear c54b0
       try clear c54b1
       try clear c55
       try clear c55b0
       try clear c56
       try clear c56b0
       try clear c57
       try clear c57b0
       try clear c57b1
       try clear c58
       try clear c58b0
       try clear c58b1
       try clear c59
       try clear c62
       try clear hcz10_0 hcz10_1 hcz10_2 hfz10_0 hfz10_1 hfz10_2
       try clear hcz14_0 hcz14_1 hcz14_2 hfz14_0 hfz14_1 hfz14_2
       try clear hcz17_0 hcz17_1 hcz17_2 hfz17_0 hfz17_1 hfz17_2
       try clear hcz22_0 hcz22_1 hcz22_2 hfz22_0 hfz22_1 hfz22_2
       try clear hcz50_0 hcz50_1 hcz50_2 hfz50_0 hfz50_1 hfz50_2
       try clear hcz51_0 hcz51_1 hcz51_2 hfz51_0 hfz51_1 hfz51_2
       try clear hcz69_0 hcz69_1 hcz69_2 hfz69_0 hfz69_1 hfz69_2
       obtain ⟨kq, x104_59, rfl, HA, HJ59, HO_1042001, HO_1049001, BK1033, BK1041, BK1048, HB⟩ := hcut
       cases kq with
       | zero => exact absurd HA.out (by simp [ulplaw04_DyadCut.j2])
       | succ kj59 =>
        have H := HA.out
        clear HA
        simp only [ulplaw04_DyadCut.j2] at H
        by_cases c75 : x104_59 = true
        ·subst c75
         rw [if_pos rfl] at H
         obtain rfl := Option.some.inj H
         exact absurd hr_.out (by decide)
        replace c75 := Bool.eq_false_iff.mpr c75
        subst c75
        rw [if_neg (show ¬ (false = true) by decide)] at H
        obtain ⟨⟨t1055, t1056⟩, A76, H⟩ := zh H
        (try dsimp only at H)
        by_cases c77 : t1056 = 0
        ·rw [if_pos c77] at H
         have c77b0 := beq_iff_eq.mpr c77
         have c77b1 := bne_eq_false_iff_eq.mpr c77
         clear c77
         by_cases c78 : t1049 = 0
         ·rw [if_pos c78] at H
          have c78b0 := beq_iff_eq.mpr c78
          have c78b1 := bne_eq_false_iff_eq.mpr c78
          clear c78
          clear hr_
          obtain rfl := Option.some.inj H
          have hnb79 := NB1033_1041.out
          have hnc79 := NB1041_1033.out
          have hnb80 := NB1033_1048.out
          have hnc80 := NB1048_1033.out
          obtain ⟨_, _, _, _, _, _⟩ := zc BK1033
          go_wp2_with (first | ((with_reducible refine zG 35 rfl ?_); refine zL (some 107) rfl rfl Tryd.func35 #[.agg #[.bool a0_0, .slice A0_1 l0_1.length c0_1, .int .i64 a0_2]] rfl ?_; (with_reducible refine (dyad_Size.calls kj59 a0_0 _ _ l0_1 a0_2 t1055 t1056 _ ?side1 ?side2 (laid_below hT zs) A76.out).mono ?_); (case side1 => exact zk (C_below HR0_1.out HB.out)); (case side2 => exact HC0_1.out); rintro e w82 ⟨rfl, hb⟩; refine ⟨_, rfl, ?_⟩; replace HO_1042001 := zA (V_below (vu HO_1042001.out) hb); replace HO_1049001 := zA (V_below (vu HO_1049001.out) hb); replace BK1033 := zb BK1033 hb; replace BK1041 := zb BK1041 hb; replace BK1048 := zb BK1048 hb; replace HB := zf hb))
          go_ret
          exact ⟨er, zs⟩
         rw [if_neg c78] at H
         have c78b0 := beq_eq_false_iff_ne.mpr c78
         have c78b1 := bne_iff_ne.mpr c78
         obtain ⟨⟨t1057, t1058⟩, A83, H⟩ := zh H
         (try dsimp only at H)
         have HC84 := zA H
         clear H
         have hnb85 := NB1033_1041.out
         have hnc85 := NB1041_1033.out
         have hnb86 := NB1033_1048.out
         have hnc86 := NB1048_1033.out
         obtain ⟨_, _, _, _, _, _⟩ := zc BK1033
         go_upto_region 19 with (first | ((with_reducible refine zG 35 rfl ?_); refine zL (some 107) rfl rfl Tryd.func35 #[.agg #[.bool a0_0, .slice A0_1 l0_1.length c0_1, .int .i64 a0_2]] rfl ?_; (with_reducible refine (dyad_Size.calls kj59 a0_0 _ _ l0_1 a0_2 t1055 t1056 _ ?side1 ?side2 (laid_below hT zs) A76.out).mono ?_); (case side1 => exact zk (C_below HR0_1.out HB.out)); (case side2 => exact HC0_1.out); rintro e w88 ⟨rfl, hb⟩; refine ⟨_, rfl, ?_⟩; replace HO_1042001 := zA (V_below (vu HO_1042001.out) hb); replace HO_1049001 := zA (V_below (vu HO_1049001.out) hb); replace BK1033 := zb BK1033 hb; replace BK1041 := zb BK1041 hb; replace BK1048 := zb BK1048 hb; replace HB := zf hb; obtain ⟨hcz89_0, hcz89_1, hcz89_2, hfz89_0, hfz89_1, hfz89_2⟩ := zc BK1033) | ((with_reducible refine zG 37 rfl ?_); refine zL (some 121) rfl rfl Tryd.func37 #[.agg #[.bool a0_0, .slice A0_1 l0_1.length c0_1, .int .i64 a0_2]] rfl ?_; (with_reducible refine (dyad_Top.calls kj59 a0_0 _ _ l0_1 a0_2 t1057 t1058 _ ?side1 ?side2 (laid_below hT zs) A83.out).mono ?_); (case side1 => exact zk (C_below HR0_1.out HB.out)); (case side2 => exact HC0_1.out); rintro e w90 ⟨rfl, hb⟩; refine ⟨_, rfl, ?_⟩; replace HO_1042001 := zA (V_below (vu HO_1042001.out) hb); replace HO_1049001 := zA (V_below (vu HO_1049001.out) hb); replace BK1033 := zb BK1033 hb; replace BK1041 := zb BK1041 hb; replace BK1048 := zb BK1048 hb; replace HB := zf hb))
         (try simp only [Act.put, List.setIfInBounds_toArray, List.set_cons_zero, List.set_cons_succ])
         go_cut [132] (fun v132 wc => ∃ (kq : Nat) (x132_83 : Bool), v132 = .bool x132_83 ∧ Aside0 (ulplaw04_DyadCut.j3 kq a1 t1055 t1058 t1057 x132_83 t1035 t1036 t1039 t1042 t1043 t1046 = some r) ∧ Aside0 (kq ≤ kj59) ∧ Aside0 (Kd.V (Kd.int .u64) 43 wc w.heap.size (fun k_ => k_ ≠ gb1033 ∧ k_ ≠ gb1041 ∧ k_ ≠ gb1048) (.slice Ao15 t1036.length co15) t1036) ∧ Aside0 (Kd.V (Kd.int .u64) 43 wc w.heap.size (fun k_ => k_ ≠ gb1033 ∧ k_ ≠ gb1041 ∧ k_ ≠ gb1048) (.slice Ao23 t1043.length co23) t1043) ∧ Aside0 (wc.heap[gb1033]? = some (.cells #[.bool a0_0, (.slice A0_1 l0_1.length c0_1), .int .i64 a0_2] 25 (0, 0))) ∧ Aside0 (wc.heap[gb1041]? = some (.cells #[.bool t1035, (.slice Ao15 t1036.length co15), .int .i64 t1039] 25 (0, 0))) ∧ Aside0 (wc.heap[gb1048]? = some (.cells #[.bool t1042, (.slice Ao23 t1043.length co23), .int .i64 t1046] 25 (0, 0))) ∧ Aside0 (Below w.heap.size w wc))
         case first =>
          have H := HC84.out
          clear HC84
          by_cases c91 : t1058 = 0
          ·rw [if_pos c91] at H
           have c91b0 := beq_iff_eq.mpr c91
           have c91b1 := bne_eq_false_iff_eq.mpr c91
           clear c91
           (first | rw [c91b0] | (simp only [i64_w, i32_w]; rw [c91b0]) | skip)
           have H' := zA H
           clear H
           go_wp2
           go_meet
           case rel => exact ⟨_, (decide ((wrap64 ((wrap64 (t1057 - a1)) + 1)) < (-32768))), zi, H', ⟨by have := HJ6.out; have := HJ42.out; have := HJ59.out; first | omega | exact Nat.le_refl _⟩, ⟨vu HO_1042001.out⟩, ⟨vu HO_1049001.out⟩, ⟨zu BK1033⟩, ⟨zu BK1041⟩, ⟨zu BK1048⟩, ⟨zs⟩⟩
          rw [if_neg c91] at H
          have c91b0 := beq_eq_false_iff_ne.mpr c91
          have c91b1 := bne_iff_ne.mpr c91
          (first | rw [c91b0] | (simp only [i64_w, i32_w]; rw [c91b0]) | skip)
          have H' := zA H
          clear H
          go_wp2
          go_meet
          case rel => exact ⟨_, (true), zi, H', ⟨by have := HJ6.out; have := HJ42.out; have := HJ59.out; first | omega | exact Nat.le_refl _⟩, ⟨vu HO_1042001.out⟩, ⟨vu HO_1049001.out⟩, ⟨zu BK1033⟩, ⟨zu BK1041⟩, ⟨zu BK1048⟩, ⟨zs⟩⟩
         case rest =>
          clear HC84
          try clear c4
          try clear c24
          try clear c24b0
          try clear c24b1
          try clear c25
          try clear c26
          try clear c26b0
          try clear c26b1
          try clear c27
          try clear c27b0
          try clear c27b1
          try clear c31
          try clear c31b0
          try clear c31b1
          try clear c31b2
          try clear c32
          try clear c32b0
          try clear c32b1
          try clear c53
          try clear c53b0
          try clear c53b1
          try clear c54
          try clear c54b0
          try clear c54b1
          try clear c55
          try clear c55b0
          try clear c56
          try clear c56b0
          try clear c57
          try clear c57b0
          try clear c57b1
          try clear c58
          try clear c58b0
          try clear c58b1
          try clear c59
          try clear c62
          try clear c75
          try clear c77
          try clear c77b0
          try clear c77b1
          try clear c78
          try clear c78b0
          try clear c78b1
          try clear c91
          try clear c91b0
          try clear c91b1
          try clear hcz10_0 hcz10_1 hcz10_2 hfz10_0 hfz10_1 hfz10_2
          try clear hcz14_0 hcz14_1 hcz14_2 hfz14_0 hfz14_1 hfz14_2
          try clear hcz17_0 hcz17_1 hcz17_2 hfz17_0 hfz17_1 hfz17_2
          try clear hcz22_0 hcz22_1 hcz22_2 hfz22_0 hfz22_1 hfz22_2
          try clear hcz50_0 hcz50_1 hcz50_2 hfz50_0 hfz50_1 hfz50_2
          try clear hcz51_0 hcz51_1 hcz51_2 hfz51_0 hfz51_1 hfz51_2
          try clear hcz69_0 hcz69_1 hcz69_2 hfz69_0 hfz69_1 hfz69_2
          try clear hcz89_0 hcz89_1 hcz89_2 hfz89_0 hfz89_1 hfz89_2
          obtain ⟨kq, x132_83, rfl, HA, HJ83, HO_1042001, HO_1049001, BK1033, BK1041, BK1048, HB⟩ := hcut
          cases kq with
          | zero => exact absurd HA.out (by simp [ulplaw04_DyadCut.j3])
          | succ kj83 =>
           have H := HA.out
           clear HA
           simp only [ulplaw04_DyadCut.j3] at H
           by_cases c92 : x132_83 = true
           ·subst c92
            rw [if_pos rfl] at H
            clear hr_
            obtain rfl := Option.some.inj H
            go_wp2
            go_ret
            exact ⟨er, zs⟩
           replace c92 := Bool.eq_false_iff.mpr c92
           subst c92
           rw [if_neg (show ¬ (false = true) by decide)] at H
           obtain ⟨⟨t1059, t1060, t1063, t1064⟩, A93, H⟩ := zh H
           (try dsimp only at H)
           by_cases c94 : t1064 = 0
           ·rw [if_pos c94] at H
            have c94b0 := beq_iff_eq.mpr c94
            have c94b1 := bne_eq_false_iff_eq.mpr c94
            clear c94
            by_cases c95 : t1055 > a1
            ·rw [if_pos c95] at H
             have c95b0 := decide_eq_true c95
             clear c95
             obtain ⟨y1066, hy1066⟩ : ∃ y_ : List Int, y_ = (([1] : List Int)) := ⟨_, rfl⟩
             replace H : ((ulpref04_Same.f kj83 t1059 t1060 t1063 false y1066 (wrap64 ((wrap64 (t1057 - a1)) + 1))).bind fun t1069 => (some t1069)) = some r := zR hy1066 H
             have Ny1066 := zA hy1066
             clear hy1066
             obtain ⟨t1069, A96, H⟩ := zh H
             clear hr_
             obtain rfl := Option.some.inj H
             have hnb97 := NB1048_1033.out
             have hnc97 := NB1033_1048.out
             have hnb98 := NB1048_1041.out
             have hnc98 := NB1041_1048.out
             obtain ⟨_, _, _, _, _, _⟩ := zc BK1048
             have hnb100 := NB1041_1033.out
             have hnc100 := NB1033_1041.out
             obtain ⟨_, _, _, _, _, _⟩ := zc BK1041
             go_wp2_with (first | ((with_reducible refine zG 40 rfl ?_); refine zL (some 138) rfl rfl Tryd.func40 #[.agg #[.bool t1042, .slice Ao23 t1043.length co23, .int .i64 t1046], .agg #[.bool t1035, .slice Ao15 t1036.length co15, .int .i64 t1039]] rfl ?_; (with_reducible refine (dyad_Sub.calls kj83 t1042 (fun k_ => (k_ ≠ gb1033 ∧ (k_ ≠ gb1041 ∧ k_ ≠ gb1048))) _ _ t1043 t1046 t1035 (fun k_ => (k_ ≠ gb1033 ∧ (k_ ≠ gb1041 ∧ k_ ≠ gb1048))) _ _ t1036 t1039 t1059 t1060 t1063 t1064 _ ?side1 ?side2 (laid_below hT zs) A93.out).mono ?_); (case side1 => exact HO_1049001.out); (case side2 => exact HO_1042001.out); rintro e w102 ⟨v1061, rfl, ho0, hb⟩; refine ⟨_, rfl, ?_⟩; replace HO_1042001 := zA (V_below (vu HO_1042001.out) hb); replace HO_1049001 := zA (V_below (vu HO_1049001.out) hb); have HO1062 := zA (V_lower (V_mono (ok' := fun k_ => k_ ≠ gb1033 ∧ k_ ≠ gb1041 ∧ k_ ≠ gb1048) ho0 (fun k_ hk_ => ⟨Or.elim hk_ (fun hs_ => Or.elim hs_ (fun hs_ => hs_.1) (fun hs_ => hs_.1)) (fun hn_ => (zj BK1033 k_ hn_)), Or.elim hk_ (fun hs_ => Or.elim hs_ (fun hs_ => hs_.2.1) (fun hs_ => hs_.2.1)) (fun hn_ => (zj BK1041 k_ hn_)), Or.elim hk_ (fun hs_ => Or.elim hs_ (fun hs_ => hs_.2.2) (fun hs_ => hs_.2.2)) (fun hn_ => (zj BK1048 k_ hn_))⟩)) (below_size zs)); replace BK1033 := zb BK1033 hb; replace BK1041 := zb BK1041 hb; replace BK1048 := zb BK1048 hb; replace HB := zf hb; (try clear ho0)) | ((with_reducible refine zD 14 rfl ?_); (try (refine gate_guard (by rfl) ?_; dsimp only)); refine zn (N := 14) (cs := #[.bool false, .slice none 0 0, .int .i64 0]) (t := 25) rfl rfl ?_; intro gb1065 hg w103 hbox hb; replace HO_1042001 := zA (V_below (V_elderB (vu HO_1042001.out) gb1065 (Nat.le_of_eq hg.symm)) hb); replace HO_1049001 := zA (V_below (V_elderB (vu HO_1049001.out) gb1065 (Nat.le_of_eq hg.symm)) hb); replace HO1062 := zA (V_below (V_elderB (vu HO1062.out) gb1065 (Nat.le_of_eq hg.symm)) hb); have BK1065 := zA (hbox); have GW1065 := zx hg; replace HB := zf hb; have NB1033_1065 := zl BK1033 hg; have NB1065_1033 := zg BK1033 hg; replace BK1033 := zb BK1033 hb; have NB1041_1065 := zl BK1041 hg; have NB1065_1041 := zg BK1041 hg; replace BK1041 := zb BK1041 hb; have NB1048_1065 := zl BK1048 hg; have NB1065_1048 := zg BK1048 hg; replace BK1048 := zb BK1048 hb; clear hb hbox hg; have hnb104 := NB1065_1033.out; have hnc104 := NB1033_1065.out; have hnb105 := NB1065_1041.out; have hnc105 := NB1041_1065.out; have hnb106 := NB1065_1048.out; have hnc106 := NB1048_1065.out; obtain ⟨hcz107_0, hcz107_1, hcz107_2, hfz107_0, hfz107_1, hfz107_2⟩ := zc BK1065; obtain ⟨Ao108, co108, eo108⟩ := V_slice HO1062.out; subst eo108) | ((with_reducible refine zD 150 rfl ?_); (try (refine gate_guard (by rfl) ?_; dsimp only)); refine R_lit (Kd.int .u64) _ 43 ?hg (N := 150) ?hd (xs := ([1] : List Int)) (inner := [.int .u64 1]) (ok := fun _ => True) (okp := fun _ => True) ?hr ?hp (fun _ hk => hk) trivial (Below.refl _ _) (Nat.le_refl _) (by simp) ?_; (case hd => rfl); (case hg => rfl); (case hr => first | (go_simp; done) | (go_simp; rfl)); (case hp => exact (Reps.one (show Kd.M (Kd.int .u64) _ _ _ 1 [.int .u64 1] from rfl) (Reps.none _ _))); intro v1067 w109 ho110 hb hg_ hnew_; clear hg_ hnew_; (first | rw [← Ny1066.out] at ho110 | (simp only [Int.reduceToNat] at ho110; rw [← Ny1066.out] at ho110)); replace HO_1042001 := zA (V_elder' (vu (V_mono (zv gb1065 (V_mono HO_1042001.out (fun k_ hk => (⟨hk, hk.2⟩ : _ ∧ k_ ≠ gb1065))) (fun _ hk => hk.2) _ _ _) (fun _ h_ => h_.1))) (R_base ho110) hb); replace HO_1049001 := zA (V_elder' (vu (V_mono (zv gb1065 (V_mono HO_1049001.out (fun k_ hk => (⟨hk, hk.2⟩ : _ ∧ k_ ≠ gb1065))) (fun _ hk => hk.2) _ _ _) (fun _ h_ => h_.1))) (R_base ho110) hb); replace HO1062 := zA (V_elder' (vu (V_mono (zv gb1065 (V_mono HO1062.out (fun k_ hk => (⟨hk, hk.2⟩ : _ ∧ k_ ≠ gb1065))) (fun _ hk => hk.2) _ _ _) (fun _ h_ => h_.1))) (R_base ho110) hb); have HO1068 := zA (R_lower ho110 (below_size zs)); replace BK1033 := zF BK1033 hb; replace BK1041 := zF BK1041 hb; replace BK1048 := zF BK1048 hb; replace BK1065 := zt BK1065 hb; replace HB := zf hb; clear hb ho110; obtain ⟨Ao111, co111, eo111⟩ := R_slice HO1068.out; subst eo111) | (go_at_call 23; (with_reducible refine (ulpref04_Same.calls kj83 t1059 _ _ t1060 t1063 false _ _ y1066 (wrap64 ((wrap64 (t1057 - a1)) + 1)) t1069 _ ?side1 ?side2 ?side3 ?side4 A96.out).mono ?_); (case side1 => exact zk (V_reads' HO1062.out).2.2); (case side2 => exact (V_reads' HO1062.out).2.1); (case side3 => exact zk (R_reads' HO1068.out).2.2); (case side4 => exact (R_reads' HO1068.out).2.1); rintro e w112 ⟨rfl, hb⟩; replace HO_1042001 := zA (V_below (vu HO_1042001.out) hb); replace HO_1049001 := zA (V_below (vu HO_1049001.out) hb); replace HO1062 := zA (V_below (vu HO1062.out) hb); replace HO1068 := zA (R_below (ru HO1068.out) hb); replace BK1033 := zb BK1033 hb; replace BK1041 := zb BK1041 hb; replace BK1048 := zb BK1048 hb; replace BK1065 := zb BK1065 hb; replace HB := zf hb))
             go_ret
             exact ⟨er, zs⟩
            rw [if_neg c95] at H
            have c95b0 := decide_eq_false c95
            clear c95
            obtain rfl := Option.some.inj H
            exact absurd hr_.out (by decide)
           rw [if_neg c94] at H
           have c94b0 := beq_eq_false_iff_ne.mpr c94
           have c94b1 := bne_iff_ne.mpr c94
           obtain rfl := Option.some.inj H
           exact absurd hr_.out (by decide)
        rw [if_neg c77] at H
        have c77b0 := beq_eq_false_iff_ne.mpr c77
        have c77b1 := bne_iff_ne.mpr c77
        clear hr_
        obtain rfl := Option.some.inj H
        have hnb113 := NB1033_1041.out
        have hnc113 := NB1041_1033.out
        have hnb114 := NB1033_1048.out
        have hnc114 := NB1048_1033.out
        obtain ⟨_, _, _, _, _, _⟩ := zc BK1033
        go_wp2_with (first | ((with_reducible refine zG 35 rfl ?_); refine zL (some 107) rfl rfl Tryd.func35 #[.agg #[.bool a0_0, .slice A0_1 l0_1.length c0_1, .int .i64 a0_2]] rfl ?_; (with_reducible refine (dyad_Size.calls kj59 a0_0 _ _ l0_1 a0_2 t1055 t1056 _ ?side1 ?side2 (laid_below hT zs) A76.out).mono ?_); (case side1 => exact zk (C_below HR0_1.out HB.out)); (case side2 => exact HC0_1.out); rintro e w116 ⟨rfl, hb⟩; refine ⟨_, rfl, ?_⟩; replace HO_1042001 := zA (V_below (vu HO_1042001.out) hb); replace HO_1049001 := zA (V_below (vu HO_1049001.out) hb); replace BK1033 := zb BK1033 hb; replace BK1041 := zb BK1041 hb; replace BK1048 := zb BK1048 hb; replace HB := zf hb))
        go_ret
        exact ⟨er, zs⟩
 replace c4 := Bool.eq_false_iff.mpr c4
 subst c4
 rw [if_neg (show ¬ (false = true) by decide)] at H
 obtain rfl := Option.some.inj H
 exact absurd hr_.out (by decide)
end Go.Proofs.YtemfckibdojbbaaDoor.PAll
