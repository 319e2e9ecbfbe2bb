/- Printed functions, merged by a program of this session. -/
import Derived.Test.YtemfckibdojbbaaDoorXDyadTurnsP0
import Derived.Test.YtemfckibdojbbaaDoorXDyadTurnsP12
import Derived.Test.YtemfckibdojbbaaDoorXDyadTurnsP14
import Derived.Test.YtemfckibdojbbaaDoorXDyadTurnsP15
import Derived.Test.YtemfckibdojbbaaDoorXDyadTurnsP16
import Derived.Laws.StructEq
import Derived.Test.YtemfckibdojbbaaDoorXDyadTurnsSh
namespace Go.Proofs.YtemfckibdojbbaaDoor.PAll
open Go.RowKit Go.Proofs.YtemfckibdojbbaaDoorW.PrintWords Go.Proofs.YtemfckibdojbbaaDoorW.PrintLast Go.Proofs.YtemfckibdojbbaaDoorW.PrintMore Go.Proofs.YtemfckibdojbbaaDoorW.PrintWords.Kd
attribute [local go_sem] max2_int min2_int max_two min_two max_three min_three max_four min_four   -- for this text's walks alone
set_option linter.unusedVariables false
set_option linter.unusedSimpArgs false
attribute [local go_sem] ext135 ext136
mutual
def ulplaw04_DyadTurns.j0 : Nat → Int → Int → Bool → Bool → List Int → Int → Bool → List Int → Int → Option (Bool)
 | 0, _, _, _, _, _, _, _, _, _ => none
 | k + 1, x1, x6, x44, x878000, x878001, x878002, x885000, x885001, x885002 => if x44 = true then (some false) else ((dyad_Abs.f k x878000 x878001 x878002).bind fun bt899 => (if bt899.2.2.2 = x6 then ((ulpref04_Same.f k bt899.1 bt899.2.1 bt899.2.2.1 false x885001 x885002).bind fun t905 => (ulplaw04_DyadTurns.j1 k x1 (!t905) x878000 x878001 x878002)) else (ulplaw04_DyadTurns.j1 k x1 true x878000 x878001 x878002)))
def ulplaw04_DyadTurns.j1 : Nat → Int → Bool → Bool → List Int → Int → Option (Bool)
 | 0, _, _, _, _, _ => none
 | k + 1, x1, x59, x878000, x878001, x878002 => if x59 = true then (some false) else ((dyad_Shift.f k x878000 x878001 x878002 x1).bind fun bt906 => ((ulpref04_Shift.f k x878000 x878001 x878002 x1).bind fun bt912 => ((ulpref04_Same.f k bt906.1 bt906.2.1 bt906.2.2.1 bt912.1 bt912.2.1 bt912.2.2.1).bind fun t919 => (if t919 = true then (if bt906.2.2.2 = bt912.2.2.2 then ((ulplaw04_begins.f k).bind fun t920 => (some t920)) else (some false)) else (some false)))))
end
def ulplaw04_DyadTurns.f (k : Nat) (a0_0 : Bool) (l0_1 : List Int) (a0_2 : Int) (a1 : Int) : Option (Bool) := (ulpref04_Canon.f k a0_0 l0_1 a0_2).bind fun bt878 => ((dyad_Neg.f k a0_0 l0_1 a0_2).bind fun bt885 => (if bt885.2.2.2 = bt878.2.2.2 then (if bt878.2.2.2 = 0 then ((ulpref04_Neg.f k bt878.1 bt878.2.1 bt878.2.2.1).bind fun bt892 => ((ulpref04_Same.f k bt885.1 bt885.2.1 bt885.2.2.1 bt892.1 bt892.2.1 bt892.2.2).bind fun t897 => (if t897 = true then (ulplaw04_DyadTurns.j0 k a1 bt878.2.2.2 false a0_0 l0_1 a0_2 bt878.1 bt878.2.1 bt878.2.2.1) else (ulplaw04_DyadTurns.j0 k a1 bt878.2.2.2 true a0_0 l0_1 a0_2 bt878.1 bt878.2.1 bt878.2.2.1)))) else ((ulpref04_Same.f k bt885.1 bt885.2.1 bt885.2.2.1 false ([] : List Int) 0).bind fun t898 => (ulplaw04_DyadTurns.j0 k a1 bt878.2.2.2 (!t898) a0_0 l0_1 a0_2 bt878.1 bt878.2.1 bt878.2.2.1))) else (ulplaw04_DyadTurns.j0 k a1 bt878.2.2.2 true a0_0 l0_1 a0_2 bt878.1 bt878.2.1 bt878.2.2.1)))
def ulplaw04_DyadTurns.T3 : Bool × List (List Nat × List Nat) := (true, [([], []), ([], []), ([0, 1], [0, 1]), ([2], [2]), ([3], [3]), ([4, 3], [3, 4]), ([5, 3, 3], [3, 5]), ([6], [6]), ([6], [6]), ([8, 6, 6], [6, 8]), ([7, 9, 9, 6], [6, 7, 9]), ([10, 6], [6, 10]), ([6, 11, 3], [3, 6, 11]), ([3, 12], [3, 12]), ([13, 10], [13]), ([14], [14]), ([15, 14], [14, 15]), ([16, 14, 14], [14, 16]), ([17], [17]), ([17], [17]), ([18, 19, 17, 17], [17, 18, 19]), ([20, 17], [17, 20]), ([17, 21, 14], [14, 17, 21]), ([14, 22], [14, 22])])
def ulplaw04_DyadTurns.B3 : List Nat := [0, 0, 3, 7, 15, 31, 63, 127, 127, 383, 1023, 2047, 4095, 8191, 16383, 32767, 65535, 131071, 262143, 262143, 1048575, 2097151, 4194303, 8388607]
theorem ulplaw04_DyadTurns.tab3 : rtab .any (opsOf Tryd.f5 3) = ulplaw04_DyadTurns.T3 := by kernel_rfl
theorem ulplaw04_DyadTurns.bits3 : waitsOk ulplaw04_DyadTurns.T3.2 ulplaw04_DyadTurns.B3 = true := by kernel_rfl
set_option maxHeartbeats 8000000 in
set_option maxRecDepth 100000 in
theorem ulplaw04_DyadTurns.calls (k : Nat) (a0_0 : Bool) (A0_1 : Option Addr) (c0_1 : Nat) (l0_1 : List Int) (a0_2 : Int) (a1 : Int) (r : Bool) (w : World) (hr0_1 : Kd.C (Kd.int .u64) w A0_1 l0_1.length l0_1) (hc0_1 : l0_1.length ≤ c0_1) (hT : Laid w) (hr_ : Aside0 (r = true)) (h : ulplaw04_DyadTurns.f k a0_0 l0_1 a0_2 a1 = some r) :
  Calls Tryd.prog 5 #[.agg #[.bool a0_0, .slice A0_1 l0_1.length c0_1, .int .i64 a0_2], .int .i64 a1] w fun e w' => e = .returned (.bool r) ∧ Below w.heap.size w w' := by
 have hu25 := Tryd.underlying25
 have HR0_1 := zA hr0_1
 have HC0_1 := zA hc0_1
 clear hr0_1 hc0_1
 have HB := zA (Below.refl w.heap.size w)
 have H : ((ulpref04_Canon.f k a0_0 l0_1 a0_2).bind fun bt878 => ((dyad_Neg.f k a0_0 l0_1 a0_2).bind fun bt885 => (if bt885.2.2.2 = bt878.2.2.2 then (if bt878.2.2.2 = 0 then ((ulpref04_Neg.f k bt878.1 bt878.2.1 bt878.2.2.1).bind fun bt892 => ((ulpref04_Same.f k bt885.1 bt885.2.1 bt885.2.2.1 bt892.1 bt892.2.1 bt892.2.2).bind fun t897 => (if t897 = true then (ulplaw04_DyadTurns.j0 k a1 bt878.2.2.2 false a0_0 l0_1 a0_2 bt878.1 bt878.2.1 bt878.2.2.1) else (ulplaw04_DyadTurns.j0 k a1 bt878.2.2.2 true a0_0 l0_1 a0_2 bt878.1 bt878.2.1 bt878.2.2.1)))) else ((ulpref04_Same.f k bt885.1 bt885.2.1 bt885.2.2.1 false ([] : List Int) 0).bind fun t898 => (ulplaw04_DyadTurns.j0 k a1 bt878.2.2.2 (!t898) a0_0 l0_1 a0_2 bt878.1 bt878.2.1 bt878.2.2.1))) else (ulplaw04_DyadTurns.j0 k a1 bt878.2.2.2 true a0_0 l0_1 a0_2 bt878.1 bt878.2.1 bt878.2.2.1)))) = some r := h
 clear h
 obtain ⟨⟨t878, t879, t882, t883⟩, A3, H⟩ := zh H
 (try dsimp only at H)
 obtain ⟨⟨t885, t886, t889, t890⟩, A4, H⟩ := zh H
 (try dsimp only at H)
 have HC5 := zA H
 clear H
 go_enter Tryd.func5, Tryd.ntmps5
 go_upto_region 3 with (first | ((with_reducible refine zD 2 rfl ?_); refine zn (N := 2) (cs := #[.bool a0_0, .slice A0_1 l0_1.length c0_1, .int .i64 a0_2]) (t := 25) rfl rfl ?_; intro gb877 hg w6 hbox hb; have BK877 := zA (hbox); have GW877 := zw hg; replace HB := ze hb; clear hb hbox hg; obtain ⟨_, _, _, _, _, _⟩ := zc BK877) | ((with_reducible refine zG 22 rfl ?_); refine zL (some 13) rfl rfl Tryd.func22 #[.agg #[.bool a0_0, .slice A0_1 l0_1.length c0_1, .int .i64 a0_2]] rfl ?_; (with_reducible refine (ulpref04_Canon.calls k a0_0 _ _ l0_1 a0_2 t878 t879 t882 t883 _ ?side1 ?side2 A3.out).mono ?_); (case side1 => exact zk (C_below HR0_1.out HB.out)); (case side2 => exact HC0_1.out); rintro e w8 ⟨v880, rfl, ho0, hb⟩; refine ⟨_, rfl, ?_⟩; have HO881 := zA (V_lower (V_mono (ok' := fun k_ => k_ ≠ gb877) ho0 (fun k_ hk_ => (zj BK877 k_ hk_))) (below_size zs)); replace BK877 := zb BK877 hb; replace HB := zf hb; (try clear ho0)) | ((with_reducible refine zD 5 rfl ?_); refine zn (N := 5) (cs := #[.bool false, .slice none 0 0, .int .i64 0]) (t := 25) rfl rfl ?_; intro gb884 hg w9 hbox hb; replace HO881 := zA (V_below (V_elderB (vu HO881.out) gb884 (Nat.le_of_eq hg.symm)) hb); have BK884 := zA (hbox); have GW884 := zx hg; replace HB := zf hb; have NB877_884 := zl BK877 hg; have NB884_877 := zg BK877 hg; replace BK877 := zb BK877 hb; clear hb hbox hg; have hnb10 := NB884_877.out; have hnc10 := NB877_884.out; obtain ⟨hcz11_0, hcz11_1, hcz11_2, hfz11_0, hfz11_1, hfz11_2⟩ := zc BK884; obtain ⟨Ao12, co12, eo12⟩ := V_slice HO881.out; subst eo12) | ((with_reducible refine gate_store (t := 25) (p := 5) rfl ?_); refine store_event (t := 25) (p := 5) (v := ?vo_w13) (w1 := (((w9.setCell ⟨gb884, 0, none⟩ (.bool t878)).setCell ⟨gb884, 1, none⟩ (.slice Ao12 t879.length co12)).setCell ⟨gb884, 2, none⟩ (.int .i64 t882))) ?hg ?ho ?hn ?hr ?_; (case ho => rfl); (case hg => rfl); (case hn => rfl); (case hr => first | (go_simp; done) | (go_simp; rfl)); intro w13 hw; have n0_ : Aside0 (Kd.V (Kd.int .u64) 43 w13 w.heap.size (fun k_ => k_ ≠ gb877 ∧ k_ ≠ gb884) (.slice Ao12 t879.length co12) t879) := ⟨(by rw [hw]; exact (vu (V_mono (zv gb884 (V_mono HO881.out (fun k_ hk => (⟨hk, hk.2⟩ : _ ∧ k_ ≠ gb884))) (fun _ hk => hk.2) _ _ _) (fun _ hk => ⟨hk.1.1, hk.1.2⟩))))⟩; have n1_ : Aside0 (w13.heap[gb877]? = some (.cells #[.bool a0_0, .slice A0_1 l0_1.length c0_1, .int .i64 a0_2] 25 (0, 0))) := ⟨(by rw [hw]; exact (zE BK877))⟩; have n2_ : Aside0 (w13.heap[gb884]? = some (.cells #[.bool t878, .slice Ao12 t879.length co12, .int .i64 t882] 25 (0, 0))) := ⟨(by rw [hw]; exact (zy BK884))⟩; have n3_ : Aside0 (Below w.heap.size w w13) := ⟨(by rw [hw]; exact zs)⟩; clear hw; clear HO881; clear BK877; clear BK884; clear HB; have HO881 := n0_; have BK877 := n1_; have BK884 := n2_; have HB := n3_; clear n0_ n1_ n2_ n3_; obtain ⟨hcz14_0, hcz14_1, hcz14_2, hfz14_0, hfz14_1, hfz14_2⟩ := zc BK877) | ((with_reducible refine zG 28 rfl ?_); refine zL (some 18) rfl rfl Tryd.func28 #[.agg #[.bool a0_0, .slice A0_1 l0_1.length c0_1, .int .i64 a0_2]] rfl ?_; (with_reducible refine (dyad_Neg.calls k a0_0 (fun k_ => k_ < w.heap.size) _ _ l0_1 a0_2 t885 t886 t889 t890 _ ?side1 (laid_below hT zs) A4.out).mono ?_); (case side1 => exact V_mk HC0_1.out (Kd.F_below (C_F (Kd.heap_int .u64) HR0_1.out) zs)); rintro e w15 ⟨v887, rfl, ho0, hb⟩; refine ⟨_, rfl, ?_⟩; replace HO881 := zA (V_below (vu HO881.out) hb); have HO888 := zA (V_lower (V_mono (ok' := fun k_ => k_ ≠ gb877 ∧ k_ ≠ gb884) ho0 (fun k_ hk_ => ⟨Or.elim hk_ (fun hs_ => fun e_ => Nat.not_le.2 hs_ (by rw [e_]; exact GW877.out)) (fun hn_ => (zj BK877 k_ hn_)), Or.elim hk_ (fun hs_ => fun e_ => Nat.not_le.2 hs_ (by rw [e_]; exact GW884.out)) (fun hn_ => (zj BK884 k_ hn_))⟩)) (below_size zs)); replace BK877 := zb BK877 hb; replace BK884 := zb BK884 hb; replace HB := zf hb; (try clear ho0)) | ((with_reducible refine zD 7 rfl ?_); refine zn (N := 7) (cs := #[.bool false, .slice none 0 0, .int .i64 0]) (t := 25) rfl rfl ?_; intro gb891 hg w16 hbox hb; replace HO881 := zA (V_below (V_elderB (vu HO881.out) gb891 (Nat.le_of_eq hg.symm)) hb); replace HO888 := zA (V_below (V_elderB (vu HO888.out) gb891 (Nat.le_of_eq hg.symm)) hb); have BK891 := zA (hbox); have GW891 := zx hg; replace HB := zf hb; have NB877_891 := zl BK877 hg; have NB891_877 := zg BK877 hg; replace BK877 := zb BK877 hb; have NB884_891 := zl BK884 hg; have NB891_884 := zg BK884 hg; replace BK884 := zb BK884 hb; clear hb hbox hg; have hnb17 := NB891_877.out; have hnc17 := NB877_891.out; have hnb18 := NB891_884.out; have hnc18 := NB884_891.out; obtain ⟨hcz19_0, hcz19_1, hcz19_2, hfz19_0, hfz19_1, hfz19_2⟩ := zc BK891; obtain ⟨Ao20, co20, eo20⟩ := V_slice HO888.out; subst eo20))
 (try simp only [Act.put, List.setIfInBounds_toArray, List.set_cons_zero, List.set_cons_succ])
 go_cut [44] (fun v44 wc => ∃ (kq : Nat) (x44_4 : Bool), v44 = .bool x44_4 ∧ Aside0 (ulplaw04_DyadTurns.j0 kq a1 t883 x44_4 a0_0 l0_1 a0_2 t878 t879 t882 = some r) ∧ Aside0 (kq ≤ k) ∧ Aside0 (Kd.V (Kd.int .u64) 43 wc w.heap.size (fun k_ => k_ ≠ gb877 ∧ k_ ≠ gb884 ∧ k_ ≠ gb891) (.slice Ao12 t879.length co12) t879) ∧ Aside0 (Kd.V (Kd.int .u64) 43 wc w.heap.size (fun k_ => k_ ≠ gb877 ∧ k_ ≠ gb884 ∧ k_ ≠ gb891) (.slice Ao20 t886.length co20) t886) ∧ Aside0 (wc.heap[gb877]? = some (.cells #[.bool a0_0, (.slice A0_1 l0_1.length c0_1), .int .i64 a0_2] 25 (0, 0))) ∧ Aside0 (wc.heap[gb884]? = some (.cells #[.bool t878, (.slice Ao12 t879.length co12), .int .i64 t882] 25 (0, 0))) ∧ Aside0 (wc.heap[gb891]? = some (.cells #[.bool t885, (.slice Ao20 t886.length co20), .int .i64 t889] 25 (0, 0))) ∧ Aside0 (Below w.heap.size w wc))
 case first =>
  have H := HC5.out
  clear HC5
  by_cases c21 : t890 = t883
  ·rw [if_pos c21] at H
   have c21b0 := beq_iff_eq.mpr c21
   have c21b1 := bne_eq_false_iff_eq.mpr c21
   clear c21
   (first | rw [c21b0] | (simp only [i64_w, i32_w]; rw [c21b0]) | skip)
   by_cases c22 : t883 = 0
   ·rw [if_pos c22] at H
    have c22b0 := beq_iff_eq.mpr c22
    have c22b1 := bne_eq_false_iff_eq.mpr c22
    clear c22
    obtain ⟨⟨t892, t893, t896⟩, A23, H⟩ := zh H
    (try dsimp only at H)
    obtain ⟨t897, A24, H⟩ := zh H
    by_cases c25 : t897 = true
    ·subst c25
     rw [if_pos rfl] at H
     have H' := zA H
     clear H
     try go_wp2
     have n0_ : Aside0 (Kd.V (Kd.int .u64) 43 (((w16.setCell ⟨gb891, 0, none⟩ (.bool t885)).setCell ⟨gb891, 1, none⟩ (.slice Ao20 t886.length co20)).setCell ⟨gb891, 2, none⟩ (.int .i64 t889)) w.heap.size (fun k_ => k_ ≠ gb877 ∧ k_ ≠ gb884 ∧ k_ ≠ gb891) (.slice Ao12 t879.length co12) t879) := ⟨vu (V_mono (zv gb891 (V_mono HO881.out (fun k_ hk => (⟨hk, hk.2⟩ : _ ∧ k_ ≠ gb891))) (fun _ hk => hk.2) _ _ _) (fun _ hk => ⟨hk.1.1.1, ⟨hk.1.1.2, hk.1.2⟩⟩))⟩
     have n1_ : Aside0 (Kd.V (Kd.int .u64) 43 (((w16.setCell ⟨gb891, 0, none⟩ (.bool t885)).setCell ⟨gb891, 1, none⟩ (.slice Ao20 t886.length co20)).setCell ⟨gb891, 2, none⟩ (.int .i64 t889)) w.heap.size (fun k_ => k_ ≠ gb877 ∧ k_ ≠ gb884 ∧ k_ ≠ gb891) (.slice Ao20 t886.length co20) t886) := ⟨vu (V_mono (zv gb891 (V_mono HO888.out (fun k_ hk => (⟨hk, hk.2⟩ : _ ∧ k_ ≠ gb891))) (fun _ hk => hk.2) _ _ _) (fun _ hk => ⟨hk.1.1.1, ⟨hk.1.1.2, hk.1.2⟩⟩))⟩
     have n2_ : Aside0 ((((w16.setCell ⟨gb891, 0, none⟩ (.bool t885)).setCell ⟨gb891, 1, none⟩ (.slice Ao20 t886.length co20)).setCell ⟨gb891, 2, none⟩ (.int .i64 t889)).heap[gb877]? = some (.cells #[.bool a0_0, .slice A0_1 l0_1.length c0_1, .int .i64 a0_2] 25 (0, 0))) := ⟨by (with_reducible repeat (first | refine blk_drewN ?_ _ | refine blk_drew ?_ | refine blk_alloc ?_ _)); refine blk_far ?_ NB877_891.out _; refine blk_far ?_ NB877_891.out _; refine blk_far ?_ NB877_891.out _; exact BK877.out⟩
     have n3_ : Aside0 ((((w16.setCell ⟨gb891, 0, none⟩ (.bool t885)).setCell ⟨gb891, 1, none⟩ (.slice Ao20 t886.length co20)).setCell ⟨gb891, 2, none⟩ (.int .i64 t889)).heap[gb884]? = some (.cells #[.bool t878, .slice Ao12 t879.length co12, .int .i64 t882] 25 (0, 0))) := ⟨by (with_reducible repeat (first | refine blk_drewN ?_ _ | refine blk_drew ?_ | refine blk_alloc ?_ _)); refine blk_far ?_ NB884_891.out _; refine blk_far ?_ NB884_891.out _; refine blk_far ?_ NB884_891.out _; exact BK884.out⟩
     have n4_ : Aside0 ((((w16.setCell ⟨gb891, 0, none⟩ (.bool t885)).setCell ⟨gb891, 1, none⟩ (.slice Ao20 t886.length co20)).setCell ⟨gb891, 2, none⟩ (.int .i64 t889)).heap[gb891]? = some (.cells #[.bool t885, .slice Ao20 t886.length co20, .int .i64 t889] 25 (0, 0))) := ⟨by (with_reducible repeat (first | refine blk_drewN ?_ _ | refine blk_drew ?_ | refine blk_alloc ?_ _)); exact zp (zu BK891)⟩
     have n5_ : Aside0 (Below w.heap.size w (((w16.setCell ⟨gb891, 0, none⟩ (.bool t885)).setCell ⟨gb891, 1, none⟩ (.slice Ao20 t886.length co20)).setCell ⟨gb891, 2, none⟩ (.int .i64 t889))) := ⟨zs⟩
     (try clear HO881)
     (try clear HO888)
     (try clear BK877)
     (try clear BK884)
     (try clear BK891)
     (try clear HB)
     generalize (((w16.setCell ⟨gb891, 0, none⟩ (.bool t885)).setCell ⟨gb891, 1, none⟩ (.slice Ao20 t886.length co20)).setCell ⟨gb891, 2, none⟩ (.int .i64 t889)) = w26 at n0_ n1_ n2_ n3_ n4_ n5_ ⊢
     have HO881 := n0_
     have HO888 := n1_
     have BK877 := n2_
     have BK884 := n3_
     have BK891 := n4_
     have HB := n5_
     clear n0_ n1_ n2_ n3_ n4_ n5_
     replace HO881 := zA (V_drew HO881.out)
     replace HO888 := zA (V_drew HO888.out)
     replace BK877 := zA (blk_drew BK877.out)
     replace BK884 := zA (blk_drew BK884.out)
     replace BK891 := zA (blk_drew BK891.out)
     replace HB := zA (below_drew1 HB.out)
     refine start_ (n := 24) (S := fun w' => z4 w' gb891 (.bool t885) (.slice Ao20 t886.length co20) (.int .i64 t889) (z3 w' gb884 (.bool t878) (.slice Ao12 t879.length co12) (.int .i64 t882))) (ds := []) #[false, false, false, false, false, false, false, false, false, false, false, false, false, false, false, false, false, false, false, false, false, false, false, false] (by kernel_rfl) rfl rfl (za BK891 (zz BK884)) (fun hHeld => ?_); refine with_tabW ulplaw04_DyadTurns.tab3 ulplaw04_DyadTurns.bits3 (fun HT_ HW_ => ?_)
     generalize w26.drew = w27 at HO881 HO888 BK877 BK884 BK891 HB hHeld ⊢
     refine pure_ (i := 0) (N := some 21) (v := ?_) (a' := ?_) #[true, false, false, false, false, false, false, false, false, false, false, false, false, false, false, false, false, false, false, false, false, false, false, false] rfl rfl (any_of HT_.out (by kernel_rfl)) (fun _ _ _ h => h) (Or.inl ⟨by rfl, ?_⟩) ?_ ?_
     rotate_left
     ·intro w'
      go_simp
      with_reducible rfl
     rotate_left
     ·exact zq
     refine pure_ (i := 1) (N := some 22) (v := ?_) (a' := ?_) #[true, true, false, false, false, false, false, false, false, false, false, false, false, false, false, false, false, false, false, false, false, false, false, false] rfl rfl (any_of HT_.out (by kernel_rfl)) (fun _ _ _ h => h) (Or.inl ⟨by rfl, ?_⟩) ?_ ?_
     rotate_left
     ·intro w'
      go_simp
      with_reducible rfl
     rotate_left
     ·exact zq
     refine pure_ (i := 2) (N := some 23) (v := ?_) (a' := ?_) #[true, true, true, false, false, false, false, false, false, false, false, false, false, false, false, false, false, false, false, false, false, false, false, false] rfl rfl (any_of HT_.out (by kernel_rfl)) (fun _ _ _ h => h) (Or.inl ⟨by rfl, ?_⟩) ?_ ?_
     rotate_left
     ·intro w'
      go_simp
      with_reducible rfl
     rotate_left
     ·exact zq
     refine pure_ (i := 3) (N := some 24) (v := ?_) (a' := ?_) #[true, true, true, true, false, false, false, false, false, false, false, false, false, false, false, false, false, false, false, false, false, false, false, false] rfl rfl (any_of HT_.out (by kernel_rfl)) (fun _ _ _ h => h) (Or.inl ⟨by rfl, ?_⟩) ?_ ?_
     rotate_left
     ·intro w'
      go_simp
      with_reducible rfl
     rotate_left
     ·exact zq
     refine pure_ (i := 4) (N := some 25) (v := ?_) (a' := ?_) #[true, true, true, true, true, false, false, false, false, false, false, false, false, false, false, false, false, false, false, false, false, false, false, false] rfl rfl (any_of HT_.out (by kernel_rfl)) (fun _ _ _ h => h) (Or.inl ⟨by rfl, ?_⟩) ?_ ?_
     rotate_left
     ·intro w'
      go_simp
      with_reducible rfl
     rotate_left
     ·exact zq
     refine pure_ (i := 5) (N := some 26) (v := ?_) (a' := ?_) #[true, true, true, true, true, true, false, false, false, false, false, false, false, false, false, false, false, false, false, false, false, false, false, false] rfl rfl (any_of HT_.out (by kernel_rfl)) (fun _ _ _ h => h) (Or.inl ⟨by rfl, ?_⟩) ?_ ?_
     rotate_left
     ·intro w'
      go_simp
      with_reducible rfl
     rotate_left
     ·exact zq
     refine pure_ (i := 6) (N := some 27) (v := ?_) (a' := ?_) #[true, true, true, true, true, true, true, false, false, false, false, false, false, false, false, false, false, false, false, false, false, false, false, false] rfl rfl (any_of HT_.out (by kernel_rfl)) (fun _ _ _ h => h) (Or.inl ⟨by rfl, ?_⟩) ?_ ?_
     rotate_left
     ·intro w'
      go_simp
      with_reducible rfl
     rotate_left
     ·exact zq
     refine take_ (i := 7) (N := some 28) (v := ?_) (a' := ?_) #[true, true, true, true, true, true, true, true, false, false, false, false, false, false, false, false, false, false, false, false, false, false, false, false] rfl rfl (take_ofW HT_.out HW_.out (by kernel_rfl)) (fun _ _ _ h => h) (Or.inl ⟨by rfl, ?_⟩) hHeld ?_ ?_
     rotate_left
     ·rintro w' ⟨s0, s1, s2, s3, s4, s5⟩
      go_simp
      with_reducible rfl
     rotate_left
     ·exact zq
     refine take_ (i := 8) (N := some 29) (v := ?_) (a' := ?_) #[true, true, true, true, true, true, true, true, true, false, false, false, false, false, false, false, false, false, false, false, false, false, false, false] rfl rfl (take_ofW HT_.out HW_.out (by kernel_rfl)) (fun _ _ _ h => h) (Or.inl ⟨by rfl, ?_⟩) hHeld ?_ ?_
     rotate_left
     ·rintro w' ⟨s0, s1, s2, s3, s4, s5⟩
      go_simp
      with_reducible rfl
     rotate_left
     ·exact zq
     refine one_ (i := 9) (N := some 30) #[true, true, true, true, true, true, true, true, true, true, false, false, false, false, false, false, false, false, false, false, false, false, false, false] rfl rfl (one_of HT_.out (by kernel_rfl)) (by decide) (fun K hK => ?_)
     refine goes_ Tryd.func29 (by kernel_rfl) rfl #[.agg #[.bool t878, .slice Ao12 t879.length co12, .int .i64 t882]] (by rfl) rfl rfl ga ?_
     with_reducible refine (ulpref04_Neg.calls k t878 _ _ t879 t882 t892 t893 t896 _ ?side1 ?side2 A23.out).mono ?_
     (case side1 => exact zk (V_reads' HO881.out).2.2)
     (case side2 => exact (V_reads' HO881.out).2.1)
     rintro e w28 ⟨v894, rfl, ho0, hb⟩
     refine ⟨_, rfl, ?_⟩
     replace HO881 := zA (V_elder' (vu HO881.out) (R_base ho0) hb)
     replace HO888 := zA (V_elder' (vu HO888.out) (R_base ho0) hb)
     have HO895 := zA (R_lower ho0 (below_size zs))
     replace BK877 := zb BK877 hb
     replace BK884 := zb BK884 hb
     replace BK891 := zb BK891 hb
     replace HB := zf hb
     (try clear hb)
     (try clear hb2)
     (try clear hk)
     (try clear hi)
     (try clear ho0)
     obtain ⟨Ao29, co29, eo29⟩ := R_slice HO895.out
     (first | subst eo29 | (injection eo29 with f1_ f2_ f3_; have f4_ := f1_.symm; have f5_ := f3_.symm; clear f1_ f2_ f3_; subst f4_; subst f5_))
     refine hK.out _ _ (za BK891 (zz BK884)) (fun hHeld => ?_)
     clear hK K
     refine norm_ (a' := ?_) ?_ ?_
     rotate_left
     ·show Act.put _ (some 30) _ = _
      simp only [Act.put, List.setIfInBounds_toArray, List.set_cons_zero, List.set_cons_succ, i64_w, i32_w]
      rfl
     refine one_ (i := 10) (N := some 31) #[true, true, true, true, true, true, true, true, true, true, true, false, false, false, false, false, false, false, false, false, false, false, false, false] rfl rfl (one_of HT_.out (by kernel_rfl)) (by decide) (fun K hK => ?_)
     refine goes_ Tryd.func23 (by kernel_rfl) rfl #[.agg #[.bool t885, .slice Ao20 t886.length co20, .int .i64 t889], .agg #[.bool t892, .slice Ao29 t893.length co29, .int .i64 t896]] (by rfl) rfl rfl ga ?_
     with_reducible refine (ulpref04_Same.calls k t885 _ _ t886 t889 t892 _ _ t893 t896 true _ ?side1 ?side2 ?side3 ?side4 A24.out).mono ?_
     (case side1 => exact zk (V_reads' HO888.out).2.2)
     (case side2 => exact (V_reads' HO888.out).2.1)
     (case side3 => exact zk (R_reads' HO895.out).2.2)
     (case side4 => exact (R_reads' HO895.out).2.1)
     rintro e w30 ⟨rfl, hb⟩
     refine ⟨_, rfl, ?_⟩
     replace HO881 := zA (V_below (vu HO881.out) hb)
     replace HO888 := zA (V_below (vu HO888.out) hb)
     replace HO895 := zA (R_below (ru HO895.out) hb)
     replace BK877 := zb BK877 hb
     replace BK884 := zb BK884 hb
     replace BK891 := zb BK891 hb
     replace HB := zf hb
     (try clear hb)
     (try clear hb2)
     (try clear hk)
     (try clear hi)
     refine hK.out _ _ (za BK891 (zz BK884)) (fun hHeld => ?_)
     clear hK K
     refine norm_ (a' := ?_) ?_ ?_
     rotate_left
     ·show Act.put _ (some 31) _ = _
      simp only [Act.put, List.setIfInBounds_toArray, List.set_cons_zero, List.set_cons_succ, i64_w, i32_w]
      rfl
     refine pure_ (i := 11) (N := some 32) (v := ?_) (a' := ?_) #[true, true, true, true, true, true, true, true, true, true, true, true, false, false, false, false, false, false, false, false, false, false, false, false] rfl rfl (any_of HT_.out (by kernel_rfl)) (fun _ _ _ h => h) (Or.inl ⟨by rfl, ?_⟩) ?_ ?_
     rotate_left
     ·intro w'
      go_simp
      with_reducible rfl
     rotate_left
     ·exact zq
     refine pure_ (i := 12) (N := some 33) (v := ?_) (a' := ?_) #[true, true, true, true, true, true, true, true, true, true, true, true, true, false, false, false, false, false, false, false, false, false, false, false] rfl rfl (any_of HT_.out (by kernel_rfl)) (fun _ _ _ h => h) (Or.inl ⟨by rfl, ?_⟩) ?_ ?_
     rotate_left
     ·intro w'
      go_simp
      with_reducible rfl
     rotate_left
     ·exact zq
     refine pure_ (i := 13) (N := some 34) (v := ?_) (a' := ?_) #[true, true, true, true, true, true, true, true, true, true, true, true, true, true, false, false, false, false, false, false, false, false, false, false] rfl rfl (any_of HT_.out (by kernel_rfl)) (fun _ _ _ h => h) (Or.inl ⟨by rfl, ?_⟩) ?_ ?_
     rotate_left
     ·intro w'
      go_simp
      with_reducible rfl
     rotate_left
     ·exact zq
     refine pure_ (i := 14) (N := some 35) (v := ?_) (a' := ?_) #[true, true, true, true, true, true, true, true, true, true, true, true, true, true, true, false, false, false, false, false, false, false, false, false] rfl rfl (any_of HT_.out (by kernel_rfl)) (fun _ _ _ h => h) (Or.inl ⟨by rfl, ?_⟩) ?_ ?_
     rotate_left
     ·intro w'
      go_simp
      with_reducible rfl
     rotate_left
     ·exact zq
     refine pure_ (i := 15) (N := some 36) (v := ?_) (a' := ?_) #[true, true, true, true, true, true, true, true, true, true, true, true, true, true, true, true, false, false, false, false, false, false, false, false] rfl rfl (any_of HT_.out (by kernel_rfl)) (fun _ _ _ h => h) (Or.inl ⟨by rfl, ?_⟩) ?_ ?_
     rotate_left
     ·intro w'
      go_simp
      with_reducible rfl
     rotate_left
     ·exact zq
     refine pure_ (i := 16) (N := some 37) (v := ?_) (a' := ?_) #[true, true, true, true, true, true, true, true, true, true, true, true, true, true, true, true, true, false, false, false, false, false, false, false] rfl rfl (any_of HT_.out (by kernel_rfl)) (fun _ _ _ h => h) (Or.inl ⟨by rfl, ?_⟩) ?_ ?_
     rotate_left
     ·intro w'
      go_simp
      with_reducible rfl
     rotate_left
     ·exact zq
     refine pure_ (i := 17) (N := some 38) (v := ?_) (a' := ?_) #[true, true, true, true, true, true, true, true, true, true, true, true, true, true, true, true, true, true, false, false, false, false, false, false] rfl rfl (any_of HT_.out (by kernel_rfl)) (fun _ _ _ h => h) (Or.inl ⟨by rfl, ?_⟩) ?_ ?_
     rotate_left
     ·intro w'
      go_simp
      with_reducible rfl
     rotate_left
     ·exact zq
     refine pure_ (i := 18) (N := some 39) (v := undef) (a' := ?_) #[true, true, true, true, true, true, true, true, true, true, true, true, true, true, true, true, true, true, true, false, false, false, false, false] rfl rfl (any_of HT_.out (by kernel_rfl)) (fun _ _ _ h => h) (Or.inr ⟨by rfl, rfl⟩) ?_ ?_
     rotate_left
     ·exact zq
     refine pure_ (i := 19) (N := some 40) (v := undef) (a' := ?_) #[true, true, true, true, true, true, true, true, true, true, true, true, true, true, true, true, true, true, true, true, false, false, false, false] rfl rfl (any_of HT_.out (by kernel_rfl)) (fun _ _ _ h => h) (Or.inr ⟨by rfl, rfl⟩) ?_ ?_
     rotate_left
     ·exact zq
     refine pure_ (i := 20) (N := some 41) (v := undef) (a' := ?_) #[true, true, true, true, true, true, true, true, true, true, true, true, true, true, true, true, true, true, true, true, true, false, false, false] rfl rfl (any_of HT_.out (by kernel_rfl)) (fun _ _ _ h => h) (Or.inr ⟨by rfl, rfl⟩) ?_ ?_
     rotate_left
     ·exact zq
     refine pure_ (i := 21) (N := some 42) (v := undef) (a' := ?_) #[true, true, true, true, true, true, true, true, true, true, true, true, true, true, true, true, true, true, true, true, true, true, false, false] rfl rfl (any_of HT_.out (by kernel_rfl)) (fun _ _ _ h => h) (Or.inr ⟨by rfl, rfl⟩) ?_ ?_
     rotate_left
     ·exact zq
     refine pure_ (i := 22) (N := some 43) (v := ?_) (a' := ?_) #[true, true, true, true, true, true, true, true, true, true, true, true, true, true, true, true, true, true, true, true, true, true, true, false] rfl rfl (any_of HT_.out (by kernel_rfl)) (fun _ _ _ h => h) (Or.inl ⟨by rfl, ?_⟩) ?_ ?_
     rotate_left
     ·intro w'
      go_simp
      with_reducible rfl
     rotate_left
     ·exact zq
     refine pure_ (i := 23) (N := some 44) (v := ?_) (a' := ?_) #[true, true, true, true, true, true, true, true, true, true, true, true, true, true, true, true, true, true, true, true, true, true, true, true] rfl rfl (any_of HT_.out (by kernel_rfl)) (fun _ _ _ h => h) (Or.inl ⟨by rfl, ?_⟩) ?_ ?_
     rotate_left
     ·intro w'
      go_simp
      with_reducible rfl
     rotate_left
     ·exact zq
     refine done_ (done_of HT_.out (by kernel_rfl)) ?_
     try go_wp2
     go_meet
     case rel => exact ⟨_, (false), zi, H', ⟨by first | omega | exact Nat.le_refl _⟩, ⟨vu (V_mono HO881.out (fun _ hk => ⟨hk.1.1, ⟨hk.1.2.1, hk.1.2.2⟩⟩))⟩, ⟨vu (V_mono HO888.out (fun _ hk => ⟨hk.1.1, ⟨hk.1.2.1, hk.1.2.2⟩⟩))⟩, ⟨zu BK877⟩, ⟨zu BK884⟩, ⟨zu BK891⟩, ⟨zs⟩⟩
    replace c25 := Bool.eq_false_iff.mpr c25
    subst c25
    rw [if_neg (show ¬ (false = true) by decide)] at H
    have H' := zA H
    clear H
    try go_wp2
    have n0_ : Aside0 (Kd.V (Kd.int .u64) 43 (((w16.setCell ⟨gb891, 0, none⟩ (.bool t885)).setCell ⟨gb891, 1, none⟩ (.slice Ao20 t886.length co20)).setCell ⟨gb891, 2, none⟩ (.int .i64 t889)) w.heap.size (fun k_ => k_ ≠ gb877 ∧ k_ ≠ gb884 ∧ k_ ≠ gb891) (.slice Ao12 t879.length co12) t879) := ⟨vu (V_mono (zv gb891 (V_mono HO881.out (fun k_ hk => (⟨hk, hk.2⟩ : _ ∧ k_ ≠ gb891))) (fun _ hk => hk.2) _ _ _) (fun _ hk => ⟨hk.1.1.1, ⟨hk.1.1.2, hk.1.2⟩⟩))⟩
    have n1_ : Aside0 (Kd.V (Kd.int .u64) 43 (((w16.setCell ⟨gb891, 0, none⟩ (.bool t885)).setCell ⟨gb891, 1, none⟩ (.slice Ao20 t886.length co20)).setCell ⟨gb891, 2, none⟩ (.int .i64 t889)) w.heap.size (fun k_ => k_ ≠ gb877 ∧ k_ ≠ gb884 ∧ k_ ≠ gb891) (.slice Ao20 t886.length co20) t886) := ⟨vu (V_mono (zv gb891 (V_mono HO888.out (fun k_ hk => (⟨hk, hk.2⟩ : _ ∧ k_ ≠ gb891))) (fun _ hk => hk.2) _ _ _) (fun _ hk => ⟨hk.1.1.1, ⟨hk.1.1.2, hk.1.2⟩⟩))⟩
    have n2_ : Aside0 ((((w16.setCell ⟨gb891, 0, none⟩ (.bool t885)).setCell ⟨gb891, 1, none⟩ (.slice Ao20 t886.length co20)).setCell ⟨gb891, 2, none⟩ (.int .i64 t889)).heap[gb877]? = some (.cells #[.bool a0_0, .slice A0_1 l0_1.length c0_1, .int .i64 a0_2] 25 (0, 0))) := ⟨by (with_reducible repeat (first | refine blk_drewN ?_ _ | refine blk_drew ?_ | refine blk_alloc ?_ _)); refine blk_far ?_ NB877_891.out _; refine blk_far ?_ NB877_891.out _; refine blk_far ?_ NB877_891.out _; exact BK877.out⟩
    have n3_ : Aside0 ((((w16.setCell ⟨gb891, 0, none⟩ (.bool t885)).setCell ⟨gb891, 1, none⟩ (.slice Ao20 t886.length co20)).setCell ⟨gb891, 2, none⟩ (.int .i64 t889)).heap[gb884]? = some (.cells #[.bool t878, .slice Ao12 t879.length co12, .int .i64 t882] 25 (0, 0))) := ⟨by (with_reducible repeat (first | refine blk_drewN ?_ _ | refine blk_drew ?_ | refine blk_alloc ?_ _)); refine blk_far ?_ NB884_891.out _; refine blk_far ?_ NB884_891.out _; refine blk_far ?_ NB884_891.out _; exact BK884.out⟩
    have n4_ : Aside0 ((((w16.setCell ⟨gb891, 0, none⟩ (.bool t885)).setCell ⟨gb891, 1, none⟩ (.slice Ao20 t886.length co20)).setCell ⟨gb891, 2, none⟩ (.int .i64 t889)).heap[gb891]? = some (.cells #[.bool t885, .slice Ao20 t886.length co20, .int .i64 t889] 25 (0, 0))) := ⟨by (with_reducible repeat (first | refine blk_drewN ?_ _ | refine blk_drew ?_ | refine blk_alloc ?_ _)); exact zp (zu BK891)⟩
    have n5_ : Aside0 (Below w.heap.size w (((w16.setCell ⟨gb891, 0, none⟩ (.bool t885)).setCell ⟨gb891, 1, none⟩ (.slice Ao20 t886.length co20)).setCell ⟨gb891, 2, none⟩ (.int .i64 t889))) := ⟨zs⟩
    (try clear HO881)
    (try clear HO888)
    (try clear BK877)
    (try clear BK884)
    (try clear BK891)
    (try clear HB)
    generalize (((w16.setCell ⟨gb891, 0, none⟩ (.bool t885)).setCell ⟨gb891, 1, none⟩ (.slice Ao20 t886.length co20)).setCell ⟨gb891, 2, none⟩ (.int .i64 t889)) = w31 at n0_ n1_ n2_ n3_ n4_ n5_ ⊢
    have HO881 := n0_
    have HO888 := n1_
    have BK877 := n2_
    have BK884 := n3_
    have BK891 := n4_
    have HB := n5_
    clear n0_ n1_ n2_ n3_ n4_ n5_
    replace HO881 := zA (V_drew HO881.out)
    replace HO888 := zA (V_drew HO888.out)
    replace BK877 := zA (blk_drew BK877.out)
    replace BK884 := zA (blk_drew BK884.out)
    replace BK891 := zA (blk_drew BK891.out)
    replace HB := zA (below_drew1 HB.out)
    refine start_ (n := 24) (S := fun w' => z4 w' gb891 (.bool t885) (.slice Ao20 t886.length co20) (.int .i64 t889) (z3 w' gb884 (.bool t878) (.slice Ao12 t879.length co12) (.int .i64 t882))) (ds := []) #[false, false, false, false, false, false, false, false, false, false, false, false, false, false, false, false, false, false, false, false, false, false, false, false] (by kernel_rfl) rfl rfl (za BK891 (zz BK884)) (fun hHeld => ?_); refine with_tabW ulplaw04_DyadTurns.tab3 ulplaw04_DyadTurns.bits3 (fun HT_ HW_ => ?_)
    generalize w31.drew = w32 at HO881 HO888 BK877 BK884 BK891 HB hHeld ⊢
    refine pure_ (i := 0) (N := some 21) (v := ?_) (a' := ?_) #[true, false, false, false, false, false, false, false, false, false, false, false, false, false, false, false, false, false, false, false, false, false, false, false] rfl rfl (any_of HT_.out (by kernel_rfl)) (fun _ _ _ h => h) (Or.inl ⟨by rfl, ?_⟩) ?_ ?_
    rotate_left
    ·intro w'
     go_simp
     with_reducible rfl
    rotate_left
    ·exact zq
    refine pure_ (i := 1) (N := some 22) (v := ?_) (a' := ?_) #[true, true, false, false, false, false, false, false, false, false, false, false, false, false, false, false, false, false, false, false, false, false, false, false] rfl rfl (any_of HT_.out (by kernel_rfl)) (fun _ _ _ h => h) (Or.inl ⟨by rfl, ?_⟩) ?_ ?_
    rotate_left
    ·intro w'
     go_simp
     with_reducible rfl
    rotate_left
    ·exact zq
    refine pure_ (i := 2) (N := some 23) (v := ?_) (a' := ?_) #[true, true, true, false, false, false, false, false, false, false, false, false, false, false, false, false, false, false, false, false, false, false, false, false] rfl rfl (any_of HT_.out (by kernel_rfl)) (fun _ _ _ h => h) (Or.inl ⟨by rfl, ?_⟩) ?_ ?_
    rotate_left
    ·intro w'
     go_simp
     with_reducible rfl
    rotate_left
    ·exact zq
    refine pure_ (i := 3) (N := some 24) (v := ?_) (a' := ?_) #[true, true, true, true, false, false, false, false, false, false, false, false, false, false, false, false, false, false, false, false, false, false, false, false] rfl rfl (any_of HT_.out (by kernel_rfl)) (fun _ _ _ h => h) (Or.inl ⟨by rfl, ?_⟩) ?_ ?_
    rotate_left
    ·intro w'
     go_simp
     with_reducible rfl
    rotate_left
    ·exact zq
    refine pure_ (i := 4) (N := some 25) (v := ?_) (a' := ?_) #[true, true, true, true, true, false, false, false, false, false, false, false, false, false, false, false, false, false, false, false, false, false, false, false] rfl rfl (any_of HT_.out (by kernel_rfl)) (fun _ _ _ h => h) (Or.inl ⟨by rfl, ?_⟩) ?_ ?_
    rotate_left
    ·intro w'
     go_simp
     with_reducible rfl
    rotate_left
    ·exact zq
    refine pure_ (i := 5) (N := some 26) (v := ?_) (a' := ?_) #[true, true, true, true, true, true, false, false, false, false, false, false, false, false, false, false, false, false, false, false, false, false, false, false] rfl rfl (any_of HT_.out (by kernel_rfl)) (fun _ _ _ h => h) (Or.inl ⟨by rfl, ?_⟩) ?_ ?_
    rotate_left
    ·intro w'
     go_simp
     with_reducible rfl
    rotate_left
    ·exact zq
    refine pure_ (i := 6) (N := some 27) (v := ?_) (a' := ?_) #[true, true, true, true, true, true, true, false, false, false, false, false, false, false, false, false, false, false, false, false, false, false, false, false] rfl rfl (any_of HT_.out (by kernel_rfl)) (fun _ _ _ h => h) (Or.inl ⟨by rfl, ?_⟩) ?_ ?_
    rotate_left
    ·intro w'
     go_simp
     with_reducible rfl
    rotate_left
    ·exact zq
    refine take_ (i := 7) (N := some 28) (v := ?_) (a' := ?_) #[true, true, true, true, true, true, true, true, false, false, false, false, false, false, false, false, false, false, false, false, false, false, false, false] rfl rfl (take_ofW HT_.out HW_.out (by kernel_rfl)) (fun _ _ _ h => h) (Or.inl ⟨by rfl, ?_⟩) hHeld ?_ ?_
    rotate_left
    ·rintro w' ⟨s0, s1, s2, s3, s4, s5⟩
     go_simp
     with_reducible rfl
    rotate_left
    ·exact zq
    refine take_ (i := 8) (N := some 29) (v := ?_) (a' := ?_) #[true, true, true, true, true, true, true, true, true, false, false, false, false, false, false, false, false, false, false, false, false, false, false, false] rfl rfl (take_ofW HT_.out HW_.out (by kernel_rfl)) (fun _ _ _ h => h) (Or.inl ⟨by rfl, ?_⟩) hHeld ?_ ?_
    rotate_left
    ·rintro w' ⟨s0, s1, s2, s3, s4, s5⟩
     go_simp
     with_reducible rfl
    rotate_left
    ·exact zq
    refine one_ (i := 9) (N := some 30) #[true, true, true, true, true, true, true, true, true, true, false, false, false, false, false, false, false, false, false, false, false, false, false, false] rfl rfl (one_of HT_.out (by kernel_rfl)) (by decide) (fun K hK => ?_)
    refine goes_ Tryd.func29 (by kernel_rfl) rfl #[.agg #[.bool t878, .slice Ao12 t879.length co12, .int .i64 t882]] (by rfl) rfl rfl ga ?_
    with_reducible refine (ulpref04_Neg.calls k t878 _ _ t879 t882 t892 t893 t896 _ ?side1 ?side2 A23.out).mono ?_
    (case side1 => exact zk (V_reads' HO881.out).2.2)
    (case side2 => exact (V_reads' HO881.out).2.1)
    rintro e w33 ⟨v894, rfl, ho0, hb⟩
    refine ⟨_, rfl, ?_⟩
    replace HO881 := zA (V_elder' (vu HO881.out) (R_base ho0) hb)
    replace HO888 := zA (V_elder' (vu HO888.out) (R_base ho0) hb)
    have HO895 := zA (R_lower ho0 (below_size zs))
    replace BK877 := zb BK877 hb
    replace BK884 := zb BK884 hb
    replace BK891 := zb BK891 hb
    replace HB := zf hb
    (try clear hb)
    (try clear hb2)
    (try clear hk)
    (try clear hi)
    (try clear ho0)
    obtain ⟨Ao34, co34, eo34⟩ := R_slice HO895.out
    (first | subst eo34 | (injection eo34 with f1_ f2_ f3_; have f4_ := f1_.symm; have f5_ := f3_.symm; clear f1_ f2_ f3_; subst f4_; subst f5_))
    refine hK.out _ _ (za BK891 (zz BK884)) (fun hHeld => ?_)
    clear hK K
    refine norm_ (a' := ?_) ?_ ?_
    rotate_left
    ·show Act.put _ (some 30) _ = _
     simp only [Act.put, List.setIfInBounds_toArray, List.set_cons_zero, List.set_cons_succ, i64_w, i32_w]
     rfl
    refine one_ (i := 10) (N := some 31) #[true, true, true, true, true, true, true, true, true, true, true, false, false, false, false, false, false, false, false, false, false, false, false, false] rfl rfl (one_of HT_.out (by kernel_rfl)) (by decide) (fun K hK => ?_)
    refine goes_ Tryd.func23 (by kernel_rfl) rfl #[.agg #[.bool t885, .slice Ao20 t886.length co20, .int .i64 t889], .agg #[.bool t892, .slice Ao34 t893.length co34, .int .i64 t896]] (by rfl) rfl rfl ga ?_
    with_reducible refine (ulpref04_Same.calls k t885 _ _ t886 t889 t892 _ _ t893 t896 false _ ?side1 ?side2 ?side3 ?side4 A24.out).mono ?_
    (case side1 => exact zk (V_reads' HO888.out).2.2)
    (case side2 => exact (V_reads' HO888.out).2.1)
    (case side3 => exact zk (R_reads' HO895.out).2.2)
    (case side4 => exact (R_reads' HO895.out).2.1)
    rintro e w35 ⟨rfl, hb⟩
    refine ⟨_, rfl, ?_⟩
    replace HO881 := zA (V_below (vu HO881.out) hb)
    replace HO888 := zA (V_below (vu HO888.out) hb)
    replace HO895 := zA (R_below (ru HO895.out) hb)
    replace BK877 := zb BK877 hb
    replace BK884 := zb BK884 hb
    replace BK891 := zb BK891 hb
    replace HB := zf hb
    (try clear hb)
    (try clear hb2)
    (try clear hk)
    (try clear hi)
    refine hK.out _ _ (za BK891 (zz BK884)) (fun hHeld => ?_)
    clear hK K
    refine norm_ (a' := ?_) ?_ ?_
    rotate_left
    ·show Act.put _ (some 31) _ = _
     simp only [Act.put, List.setIfInBounds_toArray, List.set_cons_zero, List.set_cons_succ, i64_w, i32_w]
     rfl
    refine pure_ (i := 11) (N := some 32) (v := ?_) (a' := ?_) #[true, true, true, true, true, true, true, true, true, true, true, true, false, false, false, false, false, false, false, false, false, false, false, false] rfl rfl (any_of HT_.out (by kernel_rfl)) (fun _ _ _ h => h) (Or.inl ⟨by rfl, ?_⟩) ?_ ?_
    rotate_left
    ·intro w'
     go_simp
     with_reducible rfl
    rotate_left
    ·exact zq
    refine pure_ (i := 12) (N := some 33) (v := ?_) (a' := ?_) #[true, true, true, true, true, true, true, true, true, true, true, true, true, false, false, false, false, false, false, false, false, false, false, false] rfl rfl (any_of HT_.out (by kernel_rfl)) (fun _ _ _ h => h) (Or.inl ⟨by rfl, ?_⟩) ?_ ?_
    rotate_left
    ·intro w'
     go_simp
     with_reducible rfl
    rotate_left
    ·exact zq
    refine pure_ (i := 13) (N := some 34) (v := ?_) (a' := ?_) #[true, true, true, true, true, true, true, true, true, true, true, true, true, true, false, false, false, false, false, false, false, false, false, false] rfl rfl (any_of HT_.out (by kernel_rfl)) (fun _ _ _ h => h) (Or.inl ⟨by rfl, ?_⟩) ?_ ?_
    rotate_left
    ·intro w'
     go_simp
     with_reducible rfl
    rotate_left
    ·exact zq
    refine pure_ (i := 14) (N := some 35) (v := ?_) (a' := ?_) #[true, true, true, true, true, true, true, true, true, true, true, true, true, true, true, false, false, false, false, false, false, false, false, false] rfl rfl (any_of HT_.out (by kernel_rfl)) (fun _ _ _ h => h) (Or.inl ⟨by rfl, ?_⟩) ?_ ?_
    rotate_left
    ·intro w'
     go_simp
     with_reducible rfl
    rotate_left
    ·exact zq
    refine pure_ (i := 15) (N := some 36) (v := undef) (a' := ?_) #[true, true, true, true, true, true, true, true, true, true, true, true, true, true, true, true, false, false, false, false, false, false, false, false] rfl rfl (any_of HT_.out (by kernel_rfl)) (fun _ _ _ h => h) (Or.inr ⟨by rfl, rfl⟩) ?_ ?_
    rotate_left
    ·exact zq
    refine pure_ (i := 16) (N := some 37) (v := undef) (a' := ?_) #[true, true, true, true, true, true, true, true, true, true, true, true, true, true, true, true, true, false, false, false, false, false, false, false] rfl rfl (any_of HT_.out (by kernel_rfl)) (fun _ _ _ h => h) (Or.inr ⟨by rfl, rfl⟩) ?_ ?_
    rotate_left
    ·exact zq
    refine pure_ (i := 17) (N := some 38) (v := undef) (a' := ?_) #[true, true, true, true, true, true, true, true, true, true, true, true, true, true, true, true, true, true, false, false, false, false, false, false] rfl rfl (any_of HT_.out (by kernel_rfl)) (fun _ _ _ h => h) (Or.inr ⟨by rfl, rfl⟩) ?_ ?_
    rotate_left
    ·exact zq
    refine pure_ (i := 18) (N := some 39) (v := undef) (a' := ?_) #[true, true, true, true, true, true, true, true, true, true, true, true, true, true, true, true, true, true, true, false, false, false, false, false] rfl rfl (any_of HT_.out (by kernel_rfl)) (fun _ _ _ h => h) (Or.inr ⟨by rfl, rfl⟩) ?_ ?_
    rotate_left
    ·exact zq
    refine pure_ (i := 19) (N := some 40) (v := undef) (a' := ?_) #[true, true, true, true, true, true, true, true, true, true, true, true, true, true, true, true, true, true, true, true, false, false, false, false] rfl rfl (any_of HT_.out (by kernel_rfl)) (fun _ _ _ h => h) (Or.inr ⟨by rfl, rfl⟩) ?_ ?_
    rotate_left
    ·exact zq
    refine pure_ (i := 20) (N := some 41) (v := undef) (a' := ?_) #[true, true, true, true, true, true, true, true, true, true, true, true, true, true, true, true, true, true, true, true, true, false, false, false] rfl rfl (any_of HT_.out (by kernel_rfl)) (fun _ _ _ h => h) (Or.inr ⟨by rfl, rfl⟩) ?_ ?_
    rotate_left
    ·exact zq
    refine pure_ (i := 21) (N := some 42) (v := undef) (a' := ?_) #[true, true, true, true, true, true, true, true, true, true, true, true, true, true, true, true, true, true, true, true, true, true, false, false] rfl rfl (any_of HT_.out (by kernel_rfl)) (fun _ _ _ h => h) (Or.inr ⟨by rfl, rfl⟩) ?_ ?_
    rotate_left
    ·exact zq
    refine pure_ (i := 22) (N := some 43) (v := undef) (a' := ?_) #[true, true, true, true, true, true, true, true, true, true, true, true, true, true, true, true, true, true, true, true, true, true, true, false] rfl rfl (any_of HT_.out (by kernel_rfl)) (fun _ _ _ h => h) (Or.inr ⟨by rfl, rfl⟩) ?_ ?_
    rotate_left
    ·exact zq
    refine pure_ (i := 23) (N := some 44) (v := ?_) (a' := ?_) #[true, true, true, true, true, true, true, true, true, true, true, true, true, true, true, true, true, true, true, true, true, true, true, true] rfl rfl (any_of HT_.out (by kernel_rfl)) (fun _ _ _ h => h) (Or.inl ⟨by rfl, ?_⟩) ?_ ?_
    rotate_left
    ·intro w'
     go_simp
     with_reducible rfl
    rotate_left
    ·exact zq
    refine done_ (done_of HT_.out (by kernel_rfl)) ?_
    try go_wp2
    go_meet
    case rel => exact ⟨_, (true), zi, H', ⟨by first | omega | exact Nat.le_refl _⟩, ⟨vu (V_mono HO881.out (fun _ hk => ⟨hk.1.1, ⟨hk.1.2.1, hk.1.2.2⟩⟩))⟩, ⟨vu (V_mono HO888.out (fun _ hk => ⟨hk.1.1, ⟨hk.1.2.1, hk.1.2.2⟩⟩))⟩, ⟨zu BK877⟩, ⟨zu BK884⟩, ⟨zu BK891⟩, ⟨zs⟩⟩
   rw [if_neg c22] at H
   have c22b0 := beq_eq_false_iff_ne.mpr c22
   have c22b1 := bne_iff_ne.mpr c22
   obtain ⟨t898, A36, H⟩ := zh H
   have H' := zA H
   clear H
   try go_wp2
   have n0_ : Aside0 (Kd.V (Kd.int .u64) 43 (((w16.setCell ⟨gb891, 0, none⟩ (.bool t885)).setCell ⟨gb891, 1, none⟩ (.slice Ao20 t886.length co20)).setCell ⟨gb891, 2, none⟩ (.int .i64 t889)) w.heap.size (fun k_ => k_ ≠ gb877 ∧ k_ ≠ gb884 ∧ k_ ≠ gb891) (.slice Ao12 t879.length co12) t879) := ⟨vu (V_mono (zv gb891 (V_mono HO881.out (fun k_ hk => (⟨hk, hk.2⟩ : _ ∧ k_ ≠ gb891))) (fun _ hk => hk.2) _ _ _) (fun _ hk => ⟨hk.1.1.1, ⟨hk.1.1.2, hk.1.2⟩⟩))⟩
   have n1_ : Aside0 (Kd.V (Kd.int .u64) 43 (((w16.setCell ⟨gb891, 0, none⟩ (.bool t885)).setCell ⟨gb891, 1, none⟩ (.slice Ao20 t886.length co20)).setCell ⟨gb891, 2, none⟩ (.int .i64 t889)) w.heap.size (fun k_ => k_ ≠ gb877 ∧ k_ ≠ gb884 ∧ k_ ≠ gb891) (.slice Ao20 t886.length co20) t886) := ⟨vu (V_mono (zv gb891 (V_mono HO888.out (fun k_ hk => (⟨hk, hk.2⟩ : _ ∧ k_ ≠ gb891))) (fun _ hk => hk.2) _ _ _) (fun _ hk => ⟨hk.1.1.1, ⟨hk.1.1.2, hk.1.2⟩⟩))⟩
   have n2_ : Aside0 ((((w16.setCell ⟨gb891, 0, none⟩ (.bool t885)).setCell ⟨gb891, 1, none⟩ (.slice Ao20 t886.length co20)).setCell ⟨gb891, 2, none⟩ (.int .i64 t889)).heap[gb877]? = some (.cells #[.bool a0_0, .slice A0_1 l0_1.length c0_1, .int .i64 a0_2] 25 (0, 0))) := ⟨by (with_reducible repeat (first | refine blk_drewN ?_ _ | refine blk_drew ?_ | refine blk_alloc ?_ _)); refine blk_far ?_ NB877_891.out _; refine blk_far ?_ NB877_891.out _; refine blk_far ?_ NB877_891.out _; exact BK877.out⟩
   have n3_ : Aside0 ((((w16.setCell ⟨gb891, 0, none⟩ (.bool t885)).setCell ⟨gb891, 1, none⟩ (.slice Ao20 t886.length co20)).setCell ⟨gb891, 2, none⟩ (.int .i64 t889)).heap[gb884]? = some (.cells #[.bool t878, .slice Ao12 t879.length co12, .int .i64 t882] 25 (0, 0))) := ⟨by (with_reducible repeat (first | refine blk_drewN ?_ _ | refine blk_drew ?_ | refine blk_alloc ?_ _)); refine blk_far ?_ NB884_891.out _; refine blk_far ?_ NB884_891.out _; refine blk_far ?_ NB884_891.out _; exact BK884.out⟩
   have n4_ : Aside0 ((((w16.setCell ⟨gb891, 0, none⟩ (.bool t885)).setCell ⟨gb891, 1, none⟩ (.slice Ao20 t886.length co20)).setCell ⟨gb891, 2, none⟩ (.int .i64 t889)).heap[gb891]? = some (.cells #[.bool t885, .slice Ao20 t886.length co20, .int .i64 t889] 25 (0, 0))) := ⟨by (with_reducible repeat (first | refine blk_drewN ?_ _ | refine blk_drew ?_ | refine blk_alloc ?_ _)); exact zp (zu BK891)⟩
   have n5_ : Aside0 (Below w.heap.size w (((w16.setCell ⟨gb891, 0, none⟩ (.bool t885)).setCell ⟨gb891, 1, none⟩ (.slice Ao20 t886.length co20)).setCell ⟨gb891, 2, none⟩ (.int .i64 t889))) := ⟨zs⟩
   (try clear HO881)
   (try clear HO888)
   (try clear BK877)
   (try clear BK884)
   (try clear BK891)
   (try clear HB)
   generalize (((w16.setCell ⟨gb891, 0, none⟩ (.bool t885)).setCell ⟨gb891, 1, none⟩ (.slice Ao20 t886.length co20)).setCell ⟨gb891, 2, none⟩ (.int .i64 t889)) = w37 at n0_ n1_ n2_ n3_ n4_ n5_ ⊢
   have HO881 := n0_
   have HO888 := n1_
   have BK877 := n2_
   have BK884 := n3_
   have BK891 := n4_
   have HB := n5_
   clear n0_ n1_ n2_ n3_ n4_ n5_
   replace HO881 := zA (V_drew HO881.out)
   replace HO888 := zA (V_drew HO888.out)
   replace BK877 := zA (blk_drew BK877.out)
   replace BK884 := zA (blk_drew BK884.out)
   replace BK891 := zA (blk_drew BK891.out)
   replace HB := zA (below_drew1 HB.out)
   refine start_ (n := 24) (S := fun w' => z3 w' gb891 (.bool t885) (.slice Ao20 t886.length co20) (.int .i64 t889)) (ds := []) #[false, false, false, false, false, false, false, false, false, false, false, false, false, false, false, false, false, false, false, false, false, false, false, false] (by kernel_rfl) rfl rfl (zz BK891) (fun hHeld => ?_); refine with_tabW ulplaw04_DyadTurns.tab3 ulplaw04_DyadTurns.bits3 (fun HT_ HW_ => ?_)
   generalize w37.drew = w38 at HO881 HO888 BK877 BK884 BK891 HB hHeld ⊢
   refine pure_ (i := 0) (N := some 21) (v := ?_) (a' := ?_) #[true, false, false, false, false, false, false, false, false, false, false, false, false, false, false, false, false, false, false, false, false, false, false, false] rfl rfl (any_of HT_.out (by kernel_rfl)) (fun _ _ _ h => h) (Or.inl ⟨by rfl, ?_⟩) ?_ ?_
   rotate_left
   ·intro w'
    go_simp
    with_reducible rfl
   rotate_left
   ·exact zq
   refine pure_ (i := 1) (N := some 22) (v := ?_) (a' := ?_) #[true, true, false, false, false, false, false, false, false, false, false, false, false, false, false, false, false, false, false, false, false, false, false, false] rfl rfl (any_of HT_.out (by kernel_rfl)) (fun _ _ _ h => h) (Or.inl ⟨by rfl, ?_⟩) ?_ ?_
   rotate_left
   ·intro w'
    go_simp
    with_reducible rfl
   rotate_left
   ·exact zq
   refine pure_ (i := 2) (N := some 23) (v := ?_) (a' := ?_) #[true, true, true, false, false, false, false, false, false, false, false, false, false, false, false, false, false, false, false, false, false, false, false, false] rfl rfl (any_of HT_.out (by kernel_rfl)) (fun _ _ _ h => h) (Or.inl ⟨by rfl, ?_⟩) ?_ ?_
   rotate_left
   ·intro w'
    go_simp
    with_reducible rfl
   rotate_left
   ·exact zq
   refine pure_ (i := 3) (N := some 24) (v := ?_) (a' := ?_) #[true, true, true, true, false, false, false, false, false, false, false, false, false, false, false, false, false, false, false, false, false, false, false, false] rfl rfl (any_of HT_.out (by kernel_rfl)) (fun _ _ _ h => h) (Or.inl ⟨by rfl, ?_⟩) ?_ ?_
   rotate_left
   ·intro w'
    go_simp
    with_reducible rfl
   rotate_left
   ·exact zq
   refine pure_ (i := 4) (N := some 25) (v := ?_) (a' := ?_) #[true, true, true, true, true, false, false, false, false, false, false, false, false, false, false, false, false, false, false, false, false, false, false, false] rfl rfl (any_of HT_.out (by kernel_rfl)) (fun _ _ _ h => h) (Or.inl ⟨by rfl, ?_⟩) ?_ ?_
   rotate_left
   ·intro w'
    go_simp
    with_reducible rfl
   rotate_left
   ·exact zq
   refine pure_ (i := 5) (N := some 26) (v := ?_) (a' := ?_) #[true, true, true, true, true, true, false, false, false, false, false, false, false, false, false, false, false, false, false, false, false, false, false, false] rfl rfl (any_of HT_.out (by kernel_rfl)) (fun _ _ _ h => h) (Or.inl ⟨by rfl, ?_⟩) ?_ ?_
   rotate_left
   ·intro w'
    go_simp
    with_reducible rfl
   rotate_left
   ·exact zq
   refine pure_ (i := 6) (N := some 27) (v := ?_) (a' := ?_) #[true, true, true, true, true, true, true, false, false, false, false, false, false, false, false, false, false, false, false, false, false, false, false, false] rfl rfl (any_of HT_.out (by kernel_rfl)) (fun _ _ _ h => h) (Or.inl ⟨by rfl, ?_⟩) ?_ ?_
   rotate_left
   ·intro w'
    go_simp
    with_reducible rfl
   rotate_left
   ·exact zq
   refine pure_ (i := 7) (N := some 28) (v := undef) (a' := ?_) #[true, true, true, true, true, true, true, true, false, false, false, false, false, false, false, false, false, false, false, false, false, false, false, false] rfl rfl (any_of HT_.out (by kernel_rfl)) (fun _ _ _ h => h) (Or.inr ⟨by rfl, rfl⟩) ?_ ?_
   rotate_left
   ·exact zq
   refine pure_ (i := 8) (N := some 29) (v := undef) (a' := ?_) #[true, true, true, true, true, true, true, true, true, false, false, false, false, false, false, false, false, false, false, false, false, false, false, false] rfl rfl (any_of HT_.out (by kernel_rfl)) (fun _ _ _ h => h) (Or.inr ⟨by rfl, rfl⟩) ?_ ?_
   rotate_left
   ·exact zq
   refine pure_ (i := 9) (N := some 30) (v := undef) (a' := ?_) #[true, true, true, true, true, true, true, true, true, true, false, false, false, false, false, false, false, false, false, false, false, false, false, false] rfl rfl (any_of HT_.out (by kernel_rfl)) (fun _ _ _ h => h) (Or.inr ⟨by rfl, rfl⟩) ?_ ?_
   rotate_left
   ·exact zq
   refine pure_ (i := 10) (N := some 31) (v := undef) (a' := ?_) #[true, true, true, true, true, true, true, true, true, true, true, false, false, false, false, false, false, false, false, false, false, false, false, false] rfl rfl (any_of HT_.out (by kernel_rfl)) (fun _ _ _ h => h) (Or.inr ⟨by rfl, rfl⟩) ?_ ?_
   rotate_left
   ·exact zq
   refine pure_ (i := 11) (N := some 32) (v := undef) (a' := ?_) #[true, true, true, true, true, true, true, true, true, true, true, true, false, false, false, false, false, false, false, false, false, false, false, false] rfl rfl (any_of HT_.out (by kernel_rfl)) (fun _ _ _ h => h) (Or.inr ⟨by rfl, rfl⟩) ?_ ?_
   rotate_left
   ·exact zq
   refine pure_ (i := 12) (N := some 33) (v := ?_) (a' := ?_) #[true, true, true, true, true, true, true, true, true, true, true, true, true, false, false, false, false, false, false, false, false, false, false, false] rfl rfl (any_of HT_.out (by kernel_rfl)) (fun _ _ _ h => h) (Or.inl ⟨by rfl, ?_⟩) ?_ ?_
   rotate_left
   ·intro w'
    go_simp
    with_reducible rfl
   rotate_left
   ·exact zq
   refine pure_ (i := 13) (N := some 34) (v := ?_) (a' := ?_) #[true, true, true, true, true, true, true, true, true, true, true, true, true, true, false, false, false, false, false, false, false, false, false, false] rfl rfl (any_of HT_.out (by kernel_rfl)) (fun _ _ _ h => h) (Or.inl ⟨by rfl, ?_⟩) ?_ ?_
   rotate_left
   ·intro w'
    go_simp
    with_reducible rfl
   rotate_left
   ·exact zq
   refine pure_ (i := 14) (N := some 35) (v := ?_) (a' := ?_) #[true, true, true, true, true, true, true, true, true, true, true, true, true, true, true, false, false, false, false, false, false, false, false, false] rfl rfl (any_of HT_.out (by kernel_rfl)) (fun _ _ _ h => h) (Or.inl ⟨by rfl, ?_⟩) ?_ ?_
   rotate_left
   ·intro w'
    go_simp
    with_reducible rfl
   rotate_left
   ·exact zq
   refine pure_ (i := 15) (N := some 36) (v := ?_) (a' := ?_) #[true, true, true, true, true, true, true, true, true, true, true, true, true, true, true, true, false, false, false, false, false, false, false, false] rfl rfl (any_of HT_.out (by kernel_rfl)) (fun _ _ _ h => h) (Or.inl ⟨by rfl, ?_⟩) ?_ ?_
   rotate_left
   ·intro w'
    go_simp
    with_reducible rfl
   rotate_left
   ·exact zq
   refine pure_ (i := 16) (N := some 37) (v := ?_) (a' := ?_) #[true, true, true, true, true, true, true, true, true, true, true, true, true, true, true, true, true, false, false, false, false, false, false, false] rfl rfl (any_of HT_.out (by kernel_rfl)) (fun _ _ _ h => h) (Or.inl ⟨by rfl, ?_⟩) ?_ ?_
   rotate_left
   ·intro w'
    go_simp
    with_reducible rfl
   rotate_left
   ·exact zq
   refine pure_ (i := 17) (N := some 38) (v := ?_) (a' := ?_) #[true, true, true, true, true, true, true, true, true, true, true, true, true, true, true, true, true, true, false, false, false, false, false, false] rfl rfl (any_of HT_.out (by kernel_rfl)) (fun _ _ _ h => h) (Or.inl ⟨by rfl, ?_⟩) ?_ ?_
   rotate_left
   ·intro w'
    go_simp
    with_reducible rfl
   rotate_left
   ·exact zq
   refine pure_ (i := 19) (N := some 40) (v := ?_) (a' := ?_) #[true, true, true, true, true, true, true, true, true, true, true, true, true, true, true, true, true, true, false, true, false, false, false, false] rfl rfl (any_of HT_.out (by kernel_rfl)) (fun _ _ _ h => h) (Or.inl ⟨by rfl, ?_⟩) ?_ ?_
   rotate_left
   ·intro w'
    go_simp
    with_reducible rfl
   rotate_left
   ·exact zq
   refine take_ (i := 18) (N := some 39) (v := ?_) (a' := ?_) #[true, true, true, true, true, true, true, true, true, true, true, true, true, true, true, true, true, true, true, true, false, false, false, false] rfl rfl (take_ofW HT_.out HW_.out (by kernel_rfl)) (fun _ _ _ h => h) (Or.inl ⟨by rfl, ?_⟩) hHeld ?_ ?_
   rotate_left
   ·rintro w' ⟨s0, s1, s2⟩
    go_simp
    with_reducible rfl
   rotate_left
   ·exact zq
   refine one_ (i := 20) (N := some 41) #[true, true, true, true, true, true, true, true, true, true, true, true, true, true, true, true, true, true, true, true, true, false, false, false] rfl rfl (one_of HT_.out (by kernel_rfl)) (by decide) (fun K hK => ?_)
   refine goes_ Tryd.func23 (by kernel_rfl) rfl #[.agg #[.bool t885, .slice Ao20 t886.length co20, .int .i64 t889], .agg #[.bool false, .slice none 0 0, .int .i64 0]] (by rfl) rfl rfl ga ?_
   refine (ulpref04_Same.calls k t885 _ _ t886 t889 false _ _ ([] : List Int) 0 t898 _ ?side1 ?side2 ?side3 ?side4 A36.out).mono ?_
   (case side1 => exact zk (V_reads' HO888.out).2.2)
   (case side2 => exact (V_reads' HO888.out).2.1)
   (case side3 => exact C_nil _ _)
   (case side4 => exact Nat.le_refl _)
   rintro e w39 ⟨rfl, hb⟩
   refine ⟨_, rfl, ?_⟩
   replace HO881 := zA (V_below (vu HO881.out) hb)
   replace HO888 := zA (V_below (vu HO888.out) hb)
   replace BK877 := zb BK877 hb
   replace BK884 := zb BK884 hb
   replace BK891 := zb BK891 hb
   replace HB := zf hb
   (try clear hb)
   (try clear hb2)
   (try clear hk)
   (try clear hi)
   refine hK.out _ _ (zz BK891) (fun hHeld => ?_)
   clear hK K
   refine norm_ (a' := ?_) ?_ ?_
   rotate_left
   ·show Act.put _ (some 41) _ = _
    simp only [Act.put, List.setIfInBounds_toArray, List.set_cons_zero, List.set_cons_succ, i64_w, i32_w]
    rfl
   refine pure_ (i := 21) (N := some 42) (v := ?_) (a' := ?_) #[true, true, true, true, true, true, true, true, true, true, true, true, true, true, true, true, true, true, true, true, true, true, false, false] rfl rfl (any_of HT_.out (by kernel_rfl)) (fun _ _ _ h => h) (Or.inl ⟨by rfl, ?_⟩) ?_ ?_
   rotate_left
   ·intro w'
    go_simp
    with_reducible rfl
   rotate_left
   ·exact zq
   refine pure_ (i := 22) (N := some 43) (v := ?_) (a' := ?_) #[true, true, true, true, true, true, true, true, true, true, true, true, true, true, true, true, true, true, true, true, true, true, true, false] rfl rfl (any_of HT_.out (by kernel_rfl)) (fun _ _ _ h => h) (Or.inl ⟨by rfl, ?_⟩) ?_ ?_
   rotate_left
   ·intro w'
    go_simp
    with_reducible rfl
   rotate_left
   ·exact zq
   refine pure_ (i := 23) (N := some 44) (v := ?_) (a' := ?_) #[true, true, true, true, true, true, true, true, true, true, true, true, true, true, true, true, true, true, true, true, true, true, true, true] rfl rfl (any_of HT_.out (by kernel_rfl)) (fun _ _ _ h => h) (Or.inl ⟨by rfl, ?_⟩) ?_ ?_
   rotate_left
   ·intro w'
    go_simp
    with_reducible rfl
   rotate_left
   ·exact zq
   refine done_ (done_of HT_.out (by kernel_rfl)) ?_
   try go_wp2
   go_meet
   case rel => exact ⟨_, (!t898), zi, H', ⟨by first | omega | exact Nat.le_refl _⟩, ⟨vu HO881.out⟩, ⟨vu HO888.out⟩, ⟨zu BK877⟩, ⟨zu BK884⟩, ⟨zu BK891⟩, ⟨zs⟩⟩
  rw [if_neg c21] at H
  have c21b0 := beq_eq_false_iff_ne.mpr c21
  have c21b1 := bne_iff_ne.mpr c21
  (first | rw [c21b0] | (simp only [i64_w, i32_w]; rw [c21b0]) | skip)
  have H' := zA H
  clear H
  try go_wp2
  have n0_ : Aside0 (Kd.V (Kd.int .u64) 43 (((w16.setCell ⟨gb891, 0, none⟩ (.bool t885)).setCell ⟨gb891, 1, none⟩ (.slice Ao20 t886.length co20)).setCell ⟨gb891, 2, none⟩ (.int .i64 t889)) w.heap.size (fun k_ => k_ ≠ gb877 ∧ k_ ≠ gb884 ∧ k_ ≠ gb891) (.slice Ao12 t879.length co12) t879) := ⟨vu (V_mono (zv gb891 (V_mono HO881.out (fun k_ hk => (⟨hk, hk.2⟩ : _ ∧ k_ ≠ gb891))) (fun _ hk => hk.2) _ _ _) (fun _ hk => ⟨hk.1.1.1, ⟨hk.1.1.2, hk.1.2⟩⟩))⟩
  have n1_ : Aside0 (Kd.V (Kd.int .u64) 43 (((w16.setCell ⟨gb891, 0, none⟩ (.bool t885)).setCell ⟨gb891, 1, none⟩ (.slice Ao20 t886.length co20)).setCell ⟨gb891, 2, none⟩ (.int .i64 t889)) w.heap.size (fun k_ => k_ ≠ gb877 ∧ k_ ≠ gb884 ∧ k_ ≠ gb891) (.slice Ao20 t886.length co20) t886) := ⟨vu (V_mono (zv gb891 (V_mono HO888.out (fun k_ hk => (⟨hk, hk.2⟩ : _ ∧ k_ ≠ gb891))) (fun _ hk => hk.2) _ _ _) (fun _ hk => ⟨hk.1.1.1, ⟨hk.1.1.2, hk.1.2⟩⟩))⟩
  have n2_ : Aside0 ((((w16.setCell ⟨gb891, 0, none⟩ (.bool t885)).setCell ⟨gb891, 1, none⟩ (.slice Ao20 t886.length co20)).setCell ⟨gb891, 2, none⟩ (.int .i64 t889)).heap[gb877]? = some (.cells #[.bool a0_0, .slice A0_1 l0_1.length c0_1, .int .i64 a0_2] 25 (0, 0))) := ⟨by (with_reducible repeat (first | refine blk_drewN ?_ _ | refine blk_drew ?_ | refine blk_alloc ?_ _)); refine blk_far ?_ NB877_891.out _; refine blk_far ?_ NB877_891.out _; refine blk_far ?_ NB877_891.out _; exact BK877.out⟩
  have n3_ : Aside0 ((((w16.setCell ⟨gb891, 0, none⟩ (.bool t885)).setCell ⟨gb891, 1, none⟩ (.slice Ao20 t886.length co20)).setCell ⟨gb891, 2, none⟩ (.int .i64 t889)).heap[gb884]? = some (.cells #[.bool t878, .slice Ao12 t879.length co12, .int .i64 t882] 25 (0, 0))) := ⟨by (with_reducible repeat (first | refine blk_drewN ?_ _ | refine blk_drew ?_ | refine blk_alloc ?_ _)); refine blk_far ?_ NB884_891.out _; refine blk_far ?_ NB884_891.out _; refine blk_far ?_ NB884_891.out _; exact BK884.out⟩
  have n4_ : Aside0 ((((w16.setCell ⟨gb891, 0, none⟩ (.bool t885)).setCell ⟨gb891, 1, none⟩ (.slice Ao20 t886.length co20)).setCell ⟨gb891, 2, none⟩ (.int .i64 t889)).heap[gb891]? = some (.cells #[.bool t885, .slice Ao20 t886.length co20, .int .i64 t889] 25 (0, 0))) := ⟨by (with_reducible repeat (first | refine blk_drewN ?_ _ | refine blk_drew ?_ | refine blk_alloc ?_ _)); exact zp (zu BK891)⟩
  have n5_ : Aside0 (Below w.heap.size w (((w16.setCell ⟨gb891, 0, none⟩ (.bool t885)).setCell ⟨gb891, 1, none⟩ (.slice Ao20 t886.length co20)).setCell ⟨gb891, 2, none⟩ (.int .i64 t889))) := ⟨zs⟩
  (try clear HO881)
  (try clear HO888)
  (try clear BK877)
  (try clear BK884)
  (try clear BK891)
  (try clear HB)
  generalize (((w16.setCell ⟨gb891, 0, none⟩ (.bool t885)).setCell ⟨gb891, 1, none⟩ (.slice Ao20 t886.length co20)).setCell ⟨gb891, 2, none⟩ (.int .i64 t889)) = w40 at n0_ n1_ n2_ n3_ n4_ n5_ ⊢
  have HO881 := n0_
  have HO888 := n1_
  have BK877 := n2_
  have BK884 := n3_
  have BK891 := n4_
  have HB := n5_
  clear n0_ n1_ n2_ n3_ n4_ n5_
  replace HO881 := zA (V_drew HO881.out)
  replace HO888 := zA (V_drew HO888.out)
  replace BK877 := zA (blk_drew BK877.out)
  replace BK884 := zA (blk_drew BK884.out)
  replace BK891 := zA (blk_drew BK891.out)
  replace HB := zA (below_drew1 HB.out)
  refine start_ (n := 24) (S := fun w' => True) (ds := []) #[false, false, false, false, false, false, false, false, false, false, false, false, false, false, false, false, false, false, false, false, false, false, false, false] (by kernel_rfl) rfl rfl trivial (fun hHeld => ?_); refine with_tabW ulplaw04_DyadTurns.tab3 ulplaw04_DyadTurns.bits3 (fun HT_ HW_ => ?_)
  generalize w40.drew = w41 at HO881 HO888 BK877 BK884 BK891 HB hHeld ⊢
  refine pure_ (i := 0) (N := some 21) (v := ?_) (a' := ?_) #[true, false, false, false, false, false, false, false, false, false, false, false, false, false, false, false, false, false, false, false, false, false, false, false] rfl rfl (any_of HT_.out (by kernel_rfl)) (fun _ _ _ h => h) (Or.inl ⟨by rfl, ?_⟩) ?_ ?_
  rotate_left
  ·intro w'
   go_simp
   with_reducible rfl
  rotate_left
  ·exact zq
  refine pure_ (i := 1) (N := some 22) (v := ?_) (a' := ?_) #[true, true, false, false, false, false, false, false, false, false, false, false, false, false, false, false, false, false, false, false, false, false, false, false] rfl rfl (any_of HT_.out (by kernel_rfl)) (fun _ _ _ h => h) (Or.inl ⟨by rfl, ?_⟩) ?_ ?_
  rotate_left
  ·intro w'
   go_simp
   with_reducible rfl
  rotate_left
  ·exact zq
  refine pure_ (i := 2) (N := some 23) (v := ?_) (a' := ?_) #[true, true, true, false, false, false, false, false, false, false, false, false, false, false, false, false, false, false, false, false, false, false, false, false] rfl rfl (any_of HT_.out (by kernel_rfl)) (fun _ _ _ h => h) (Or.inl ⟨by rfl, ?_⟩) ?_ ?_
  rotate_left
  ·intro w'
   go_simp
   with_reducible rfl
  rotate_left
  ·exact zq
  refine pure_ (i := 3) (N := some 24) (v := ?_) (a' := ?_) #[true, true, true, true, false, false, false, false, false, false, false, false, false, false, false, false, false, false, false, false, false, false, false, false] rfl rfl (any_of HT_.out (by kernel_rfl)) (fun _ _ _ h => h) (Or.inl ⟨by rfl, ?_⟩) ?_ ?_
  rotate_left
  ·intro w'
   go_simp
   with_reducible rfl
  rotate_left
  ·exact zq
  refine pure_ (i := 4) (N := some 25) (v := undef) (a' := ?_) #[true, true, true, true, true, false, false, false, false, false, false, false, false, false, false, false, false, false, false, false, false, false, false, false] rfl rfl (any_of HT_.out (by kernel_rfl)) (fun _ _ _ h => h) (Or.inr ⟨by rfl, rfl⟩) ?_ ?_
  rotate_left
  ·exact zq
  refine pure_ (i := 5) (N := some 26) (v := undef) (a' := ?_) #[true, true, true, true, true, true, false, false, false, false, false, false, false, false, false, false, false, false, false, false, false, false, false, false] rfl rfl (any_of HT_.out (by kernel_rfl)) (fun _ _ _ h => h) (Or.inr ⟨by rfl, rfl⟩) ?_ ?_
  rotate_left
  ·exact zq
  refine pure_ (i := 6) (N := some 27) (v := undef) (a' := ?_) #[true, true, true, true, true, true, true, false, false, false, false, false, false, false, false, false, false, false, false, false, false, false, false, false] rfl rfl (any_of HT_.out (by kernel_rfl)) (fun _ _ _ h => h) (Or.inr ⟨by rfl, rfl⟩) ?_ ?_
  rotate_left
  ·exact zq
  refine pure_ (i := 7) (N := some 28) (v := undef) (a' := ?_) #[true, true, true, true, true, true, true, true, false, false, false, false, false, false, false, false, false, false, false, false, false, false, false, false] rfl rfl (any_of HT_.out (by kernel_rfl)) (fun _ _ _ h => h) (Or.inr ⟨by rfl, rfl⟩) ?_ ?_
  rotate_left
  ·exact zq
  refine pure_ (i := 8) (N := some 29) (v := undef) (a' := ?_) #[true, true, true, true, true, true, true, true, true, false, false, false, false, false, false, false, false, false, false, false, false, false, false, false] rfl rfl (any_of HT_.out (by kernel_rfl)) (fun _ _ _ h => h) (Or.inr ⟨by rfl, rfl⟩) ?_ ?_
  rotate_left
  ·exact zq
  refine pure_ (i := 9) (N := some 30) (v := undef) (a' := ?_) #[true, true, true, true, true, true, true, true, true, true, false, false, false, false, false, false, false, false, false, false, false, false, false, false] rfl rfl (any_of HT_.out (by kernel_rfl)) (fun _ _ _ h => h) (Or.inr ⟨by rfl, rfl⟩) ?_ ?_
  rotate_left
  ·exact zq
  refine pure_ (i := 10) (N := some 31) (v := undef) (a' := ?_) #[true, true, true, true, true, true, true, true, true, true, true, false, false, false, false, false, false, false, false, false, false, false, false, false] rfl rfl (any_of HT_.out (by kernel_rfl)) (fun _ _ _ h => h) (Or.inr ⟨by rfl, rfl⟩) ?_ ?_
  rotate_left
  ·exact zq
  refine pure_ (i := 11) (N := some 32) (v := undef) (a' := ?_) #[true, true, true, true, true, true, true, true, true, true, true, true, false, false, false, false, false, false, false, false, false, false, false, false] rfl rfl (any_of HT_.out (by kernel_rfl)) (fun _ _ _ h => h) (Or.inr ⟨by rfl, rfl⟩) ?_ ?_
  rotate_left
  ·exact zq
  refine pure_ (i := 12) (N := some 33) (v := undef) (a' := ?_) #[true, true, true, true, true, true, true, true, true, true, true, true, true, false, false, false, false, false, false, false, false, false, false, false] rfl rfl (any_of HT_.out (by kernel_rfl)) (fun _ _ _ h => h) (Or.inr ⟨by rfl, rfl⟩) ?_ ?_
  rotate_left
  ·exact zq
  refine pure_ (i := 13) (N := some 34) (v := ?_) (a' := ?_) #[true, true, true, true, true, true, true, true, true, true, true, true, true, true, false, false, false, false, false, false, false, false, false, false] rfl rfl (any_of HT_.out (by kernel_rfl)) (fun _ _ _ h => h) (Or.inl ⟨by rfl, ?_⟩) ?_ ?_
  rotate_left
  ·intro w'
   go_simp
   with_reducible rfl
  rotate_left
  ·exact zq
  refine pure_ (i := 14) (N := some 35) (v := ?_) (a' := ?_) #[true, true, true, true, true, true, true, true, true, true, true, true, true, true, true, false, false, false, false, false, false, false, false, false] rfl rfl (any_of HT_.out (by kernel_rfl)) (fun _ _ _ h => h) (Or.inl ⟨by rfl, ?_⟩) ?_ ?_
  rotate_left
  ·intro w'
   go_simp
   with_reducible rfl
  rotate_left
  ·exact zq
  refine pure_ (i := 15) (N := some 36) (v := undef) (a' := ?_) #[true, true, true, true, true, true, true, true, true, true, true, true, true, true, true, true, false, false, false, false, false, false, false, false] rfl rfl (any_of HT_.out (by kernel_rfl)) (fun _ _ _ h => h) (Or.inr ⟨by rfl, rfl⟩) ?_ ?_
  rotate_left
  ·exact zq
  refine pure_ (i := 16) (N := some 37) (v := undef) (a' := ?_) #[true, true, true, true, true, true, true, true, true, true, true, true, true, true, true, true, true, false, false, false, false, false, false, false] rfl rfl (any_of HT_.out (by kernel_rfl)) (fun _ _ _ h => h) (Or.inr ⟨by rfl, rfl⟩) ?_ ?_
  rotate_left
  ·exact zq
  refine pure_ (i := 17) (N := some 38) (v := undef) (a' := ?_) #[true, true, true, true, true, true, true, true, true, true, true, true, true, true, true, true, true, true, false, false, false, false, false, false] rfl rfl (any_of HT_.out (by kernel_rfl)) (fun _ _ _ h => h) (Or.inr ⟨by rfl, rfl⟩) ?_ ?_
  rotate_left
  ·exact zq
  refine pure_ (i := 18) (N := some 39) (v := undef) (a' := ?_) #[true, true, true, true, true, true, true, true, true, true, true, true, true, true, true, true, true, true, true, false, false, false, false, false] rfl rfl (any_of HT_.out (by kernel_rfl)) (fun _ _ _ h => h) (Or.inr ⟨by rfl, rfl⟩) ?_ ?_
  rotate_left
  ·exact zq
  refine pure_ (i := 19) (N := some 40) (v := undef) (a' := ?_) #[true, true, true, true, true, true, true, true, true, true, true, true, true, true, true, true, true, true, true, true, false, false, false, false] rfl rfl (any_of HT_.out (by kernel_rfl)) (fun _ _ _ h => h) (Or.inr ⟨by rfl, rfl⟩) ?_ ?_
  rotate_left
  ·exact zq
  refine pure_ (i := 20) (N := some 41) (v := undef) (a' := ?_) #[true, true, true, true, true, true, true, true, true, true, true, true, true, true, true, true, true, true, true, true, true, false, false, false] rfl rfl (any_of HT_.out (by kernel_rfl)) (fun _ _ _ h => h) (Or.inr ⟨by rfl, rfl⟩) ?_ ?_
  rotate_left
  ·exact zq
  refine pure_ (i := 21) (N := some 42) (v := undef) (a' := ?_) #[true, true, true, true, true, true, true, true, true, true, true, true, true, true, true, true, true, true, true, true, true, true, false, false] rfl rfl (any_of HT_.out (by kernel_rfl)) (fun _ _ _ h => h) (Or.inr ⟨by rfl, rfl⟩) ?_ ?_
  rotate_left
  ·exact zq
  refine pure_ (i := 22) (N := some 43) (v := undef) (a' := ?_) #[true, true, true, true, true, true, true, true, true, true, true, true, true, true, true, true, true, true, true, true, true, true, true, false] rfl rfl (any_of HT_.out (by kernel_rfl)) (fun _ _ _ h => h) (Or.inr ⟨by rfl, rfl⟩) ?_ ?_
  rotate_left
  ·exact zq
  refine pure_ (i := 23) (N := some 44) (v := ?_) (a' := ?_) #[true, true, true, true, true, true, true, true, true, true, true, true, true, true, true, true, true, true, true, true, true, true, true, true] rfl rfl (any_of HT_.out (by kernel_rfl)) (fun _ _ _ h => h) (Or.inl ⟨by rfl, ?_⟩) ?_ ?_
  rotate_left
  ·intro w'
   go_simp
   with_reducible rfl
  rotate_left
  ·exact zq
  refine done_ (done_of HT_.out (by kernel_rfl)) ?_
  try go_wp2
  go_meet
  case rel => exact ⟨_, (true), zi, H', ⟨by first | omega | exact Nat.le_refl _⟩, ⟨vu HO881.out⟩, ⟨vu HO888.out⟩, ⟨zu BK877⟩, ⟨zu BK884⟩, ⟨zu BK891⟩, ⟨zs⟩⟩
 case rest =>
  clear HC5
  try clear c21
  try clear c21b0
  try clear c21b1
  try clear c22
  try clear c22b0
  try clear c22b1
  obtain ⟨kq, x44_4, rfl, HA, HJ4, HO_885001, HO_892001, BK877, BK884, BK891, HB⟩ := hcut
  cases kq with
  | zero => exact absurd HA.out (by simp [ulplaw04_DyadTurns.j0])
  | succ kj4 =>
   have H := HA.out
   clear HA
   simp only [ulplaw04_DyadTurns.j0] at H
   by_cases c42 : x44_4 = true
   ·subst c42
    rw [if_pos rfl] at H
    obtain rfl := Option.some.inj H
    exact absurd hr_.out (by decide)
   replace c42 := Bool.eq_false_iff.mpr c42
   subst c42
   rw [if_neg (show ¬ (false = true) by decide)] at H
   obtain ⟨⟨t899, t900, t903, t904⟩, A43, H⟩ := zh H
   (try dsimp only at H)
   have HC44 := zA H
   clear H
   have hnb45 := NB877_884.out
   have hnc45 := NB884_877.out
   have hnb46 := NB877_891.out
   have hnc46 := NB891_877.out
   obtain ⟨_, _, _, _, _, _⟩ := zc BK877
   go_upto_region 7 with (first | ((with_reducible refine zG 30 rfl ?_); refine zL (some 47) rfl rfl Tryd.func30 #[.agg #[.bool a0_0, .slice A0_1 l0_1.length c0_1, .int .i64 a0_2]] rfl ?_; (with_reducible refine (dyad_Abs.calls kj4 a0_0 (fun k_ => k_ < w.heap.size) _ _ l0_1 a0_2 t899 t900 t903 t904 _ ?side1 (laid_below hT zs) A43.out).mono ?_); (case side1 => exact V_mk HC0_1.out (Kd.F_below (C_F (Kd.heap_int .u64) HR0_1.out) zs)); rintro e w48 ⟨v901, rfl, ho0, hb⟩; refine ⟨_, rfl, ?_⟩; replace HO_885001 := zA (V_below (vu HO_885001.out) hb); replace HO_892001 := zA (V_below (vu HO_892001.out) hb); have HO902 := zA (V_lower (V_mono (ok' := fun k_ => k_ ≠ gb877 ∧ k_ ≠ gb884 ∧ k_ ≠ gb891) ho0 (fun k_ hk_ => ⟨Or.elim hk_ (fun hs_ => fun e_ => Nat.not_le.2 hs_ (by rw [e_]; exact GW877.out)) (fun hn_ => (zj BK877 k_ hn_)), Or.elim hk_ (fun hs_ => fun e_ => Nat.not_le.2 hs_ (by rw [e_]; exact GW884.out)) (fun hn_ => (zj BK884 k_ hn_)), Or.elim hk_ (fun hs_ => fun e_ => Nat.not_le.2 hs_ (by rw [e_]; exact GW891.out)) (fun hn_ => (zj BK891 k_ hn_))⟩)) (below_size zs)); replace BK877 := zb BK877 hb; replace BK884 := zb BK884 hb; replace BK891 := zb BK891 hb; replace HB := zf hb; (try clear ho0); have hnb49 := NB891_884.out; have hnc49 := NB884_891.out; obtain ⟨hcz50_0, hcz50_1, hcz50_2, hfz50_0, hfz50_1, hfz50_2⟩ := zc BK891; obtain ⟨Ao51, co51, eo51⟩ := V_slice HO902.out; subst eo51; obtain ⟨hcz52_0, hcz52_1, hcz52_2, hfz52_0, hfz52_1, hfz52_2⟩ := zc BK884))
   (try simp only [Act.put, List.setIfInBounds_toArray, List.set_cons_zero, List.set_cons_succ])
   go_cut [59] (fun v59 wc => ∃ (kq : Nat) (x59_43 : Bool), v59 = .bool x59_43 ∧ Aside0 (ulplaw04_DyadTurns.j1 kq a1 x59_43 a0_0 l0_1 a0_2 = some r) ∧ Aside0 (kq ≤ kj4) ∧ Aside0 (Kd.V (Kd.int .u64) 43 wc w.heap.size (fun k_ => k_ ≠ gb877 ∧ k_ ≠ gb884 ∧ k_ ≠ gb891) (.slice Ao12 t879.length co12) t879) ∧ Aside0 (Kd.V (Kd.int .u64) 43 wc w.heap.size (fun k_ => k_ ≠ gb877 ∧ k_ ≠ gb884 ∧ k_ ≠ gb891) (.slice Ao51 t900.length co51) t900) ∧ Aside0 (wc.heap[gb877]? = some (.cells #[.bool a0_0, (.slice A0_1 l0_1.length c0_1), .int .i64 a0_2] 25 (0, 0))) ∧ Aside0 (wc.heap[gb884]? = some (.cells #[.bool false, (.slice Ao12 t879.length co12), .int .i64 t882] 25 (0, 0))) ∧ Aside0 (wc.heap[gb891]? = some (.cells #[.bool t899, (.slice Ao51 t900.length co51), .int .i64 t903] 25 (0, 0))) ∧ Aside0 (Below w.heap.size w wc))
   case first =>
    have H := HC44.out
    clear HC44
    by_cases c53 : t904 = t883
    ·rw [if_pos c53] at H
     have c53b0 := beq_iff_eq.mpr c53
     have c53b1 := bne_eq_false_iff_eq.mpr c53
     clear c53
     (first | rw [c53b0] | (simp only [i64_w, i32_w]; rw [c53b0]) | skip)
     obtain ⟨t905, A54, H⟩ := zh H
     have H' := zA H
     clear H
     have hnb55 := NB891_877.out
     have hnc55 := NB877_891.out
     have hnb56 := NB891_884.out
     have hnc56 := NB884_891.out
     obtain ⟨_, _, _, _, _, _⟩ := zc BK891
     have hnb58 := NB884_877.out
     have hnc58 := NB877_884.out
     obtain ⟨_, _, _, _, _, _⟩ := zc BK884
     go_wp2_with (first | (go_at_call 23; (with_reducible refine (ulpref04_Same.calls kj4 t899 _ _ t900 t903 false _ _ t879 t882 t905 _ ?side1 ?side2 ?side3 ?side4 A54.out).mono ?_); (case side1 => refine (V_reads' (e := 43) (base := w.heap.size) (ok := fun k_ => (k_ ≠ gb877 ∧ (k_ ≠ gb884 ∧ k_ ≠ gb891))) (n := t900.length) (c := co51) ?_).2.2; exact (vu (V_mono (V_mono (V_far (p := ⟨gb884, 0, none⟩) (zv gb891 (V_mono (V_mono HO902.out (fun k_ hk => (⟨hk, hk.2.2⟩ : _ ∧ k_ ≠ gb891))) (fun k_ hk => (⟨hk, hk.1.2.1⟩ : _ ∧ k_ ≠ gb884))) (fun _ hk => hk.1.2) _ _ _) (fun _ hk => hk.2) (.bool false)) (fun _ h_ => h_.1)) (fun _ h_ => h_.1)))); (case side2 => exact (V_reads' HO902.out).2.1); (case side3 => refine (V_reads' (e := 43) (base := w.heap.size) (ok := fun k_ => (k_ ≠ gb877 ∧ (k_ ≠ gb884 ∧ k_ ≠ gb891))) (n := t879.length) (c := co12) ?_).2.2; exact (vu (V_mono (V_mono (V_far (p := ⟨gb884, 0, none⟩) (zv gb891 (V_mono (V_mono HO_885001.out (fun k_ hk => (⟨hk, hk.2.2⟩ : _ ∧ k_ ≠ gb891))) (fun k_ hk => (⟨hk, hk.1.2.1⟩ : _ ∧ k_ ≠ gb884))) (fun _ hk => hk.1.2) _ _ _) (fun _ hk => hk.2) (.bool false)) (fun _ h_ => h_.1)) (fun _ h_ => h_.1)))); (case side4 => exact (V_reads' HO_885001.out).2.1); rintro e w60 ⟨rfl, hb⟩; replace HO_885001 := zA (V_below (vu (V_mono (V_mono (V_far (p := ⟨gb884, 0, none⟩) (zv gb891 (V_mono (V_mono HO_885001.out (fun k_ hk => (⟨hk, hk.2.2⟩ : _ ∧ k_ ≠ gb891))) (fun k_ hk => (⟨hk, hk.1.2.1⟩ : _ ∧ k_ ≠ gb884))) (fun _ hk => hk.1.2) _ _ _) (fun _ hk => hk.2) (.bool false)) (fun _ h_ => h_.1)) (fun _ h_ => h_.1))) hb); replace HO_892001 := zA (V_below (vu (V_mono (V_mono (V_far (p := ⟨gb884, 0, none⟩) (zv gb891 (V_mono (V_mono HO_892001.out (fun k_ hk => (⟨hk, hk.2.2⟩ : _ ∧ k_ ≠ gb891))) (fun k_ hk => (⟨hk, hk.1.2.1⟩ : _ ∧ k_ ≠ gb884))) (fun _ hk => hk.1.2) _ _ _) (fun _ hk => hk.2) (.bool false)) (fun _ h_ => h_.1)) (fun _ h_ => h_.1))) hb); replace HO902 := zA (V_below (vu (V_mono (V_mono (V_far (p := ⟨gb884, 0, none⟩) (zv gb891 (V_mono (V_mono HO902.out (fun k_ hk => (⟨hk, hk.2.2⟩ : _ ∧ k_ ≠ gb891))) (fun k_ hk => (⟨hk, hk.1.2.1⟩ : _ ∧ k_ ≠ gb884))) (fun _ hk => hk.1.2) _ _ _) (fun _ hk => hk.2) (.bool false)) (fun _ h_ => h_.1)) (fun _ h_ => h_.1))) hb); replace BK877 := zF BK877 hb; replace BK884 := zA (blk_below (g := gb884) (o := .cells #[.bool false, .slice Ao12 t879.length co12, .int .i64 t882] 25 (0, 0)) (by (with_reducible repeat (first | refine blk_drewN ?_ _ | refine blk_drew ?_ | refine blk_alloc ?_ _)); refine blk_put (cs := #[.bool t878, .slice Ao12 t879.length co12, .int .i64 t882]) ?_ 0 _ rfl; refine blk_far ?_ NB884_891.out _; refine blk_far ?_ NB884_891.out _; refine blk_far ?_ NB884_891.out _; exact BK884.out) hb); replace BK891 := zA (blk_below (g := gb891) (o := .cells #[.bool t899, .slice Ao51 t900.length co51, .int .i64 t903] 25 (0, 0)) (by (with_reducible repeat (first | refine blk_drewN ?_ _ | refine blk_drew ?_ | refine blk_alloc ?_ _)); refine blk_far ?_ NB891_884.out _; refine blk_put (cs := #[.bool t899, .slice Ao51 t900.length co51, .int .i64 t889]) ?_ 2 _ rfl; refine blk_put (cs := #[.bool t899, .slice Ao20 t886.length co20, .int .i64 t889]) ?_ 1 _ rfl; refine blk_put (cs := #[.bool t885, .slice Ao20 t886.length co20, .int .i64 t889]) ?_ 0 _ rfl; exact BK891.out) hb); replace HB := zf hb; (try clear hk)))
     go_meet
     case rel => exact ⟨_, (!t905), zi, H', ⟨by have := HJ4.out; first | omega | exact Nat.le_refl _⟩, ⟨vu HO_885001.out⟩, ⟨vu HO902.out⟩, ⟨zu BK877⟩, ⟨zu BK884⟩, ⟨zu BK891⟩, ⟨zs⟩⟩
    rw [if_neg c53] at H
    have c53b0 := beq_eq_false_iff_ne.mpr c53
    have c53b1 := bne_iff_ne.mpr c53
    (first | rw [c53b0] | (simp only [i64_w, i32_w]; rw [c53b0]) | skip)
    have H' := zA H
    clear H
    go_wp2
    go_meet
    case rel => exact ⟨_, (true), zi, H', ⟨by have := HJ4.out; first | omega | exact Nat.le_refl _⟩, ⟨vu (V_mono (V_far (p := ⟨gb884, 0, none⟩) (zv gb891 (V_mono (V_mono HO_885001.out (fun k_ hk => (⟨hk, hk.2.2⟩ : _ ∧ k_ ≠ gb891))) (fun k_ hk => (⟨hk, hk.1.2.1⟩ : _ ∧ k_ ≠ gb884))) (fun _ hk => hk.1.2) _ _ _) (fun _ hk => hk.2) (.bool false)) (fun _ hk => ⟨hk.1.1.1, ⟨hk.1.1.2.1, hk.1.1.2.2⟩⟩))⟩, ⟨vu (V_mono (V_far (p := ⟨gb884, 0, none⟩) (zv gb891 (V_mono (V_mono HO902.out (fun k_ hk => (⟨hk, hk.2.2⟩ : _ ∧ k_ ≠ gb891))) (fun k_ hk => (⟨hk, hk.1.2.1⟩ : _ ∧ k_ ≠ gb884))) (fun _ hk => hk.1.2) _ _ _) (fun _ hk => hk.2) (.bool false)) (fun _ hk => ⟨hk.1.1.1, ⟨hk.1.1.2.1, hk.1.1.2.2⟩⟩))⟩, ⟨by (with_reducible repeat (first | refine blk_drewN ?_ _ | refine blk_drew ?_ | refine blk_alloc ?_ _)); refine blk_far ?_ NB877_884.out _; refine blk_far ?_ NB877_891.out _; refine blk_far ?_ NB877_891.out _; refine blk_far ?_ NB877_891.out _; exact BK877.out⟩, ⟨by (with_reducible repeat (first | refine blk_drewN ?_ _ | refine blk_drew ?_ | refine blk_alloc ?_ _)); refine blk_put (cs := #[.bool t878, .slice Ao12 t879.length co12, .int .i64 t882]) ?_ 0 _ rfl; refine blk_far ?_ NB884_891.out _; refine blk_far ?_ NB884_891.out _; refine blk_far ?_ NB884_891.out _; exact BK884.out⟩, ⟨by (with_reducible repeat (first | refine blk_drewN ?_ _ | refine blk_drew ?_ | refine blk_alloc ?_ _)); refine blk_far ?_ NB891_884.out _; refine blk_put (cs := #[.bool t899, .slice Ao51 t900.length co51, .int .i64 t889]) ?_ 2 _ rfl; refine blk_put (cs := #[.bool t899, .slice Ao20 t886.length co20, .int .i64 t889]) ?_ 1 _ rfl; refine blk_put (cs := #[.bool t885, .slice Ao20 t886.length co20, .int .i64 t889]) ?_ 0 _ rfl; exact BK891.out⟩, ⟨zs⟩⟩
   case rest =>
    clear HC44
    try clear c21
    try clear c21b0
    try clear c21b1
    try clear c22
    try clear c22b0
    try clear c22b1
    try clear c42
    try clear c53
    try clear c53b0
    try clear c53b1
    try clear hcz50_0 hcz50_1 hcz50_2 hfz50_0 hfz50_1 hfz50_2
    try clear hcz52_0 hcz52_1 hcz52_2 hfz52_0 hfz52_1 hfz52_2
    obtain ⟨kq, x59_43, rfl, HA, HJ43, HO_885001, HO_892001, BK877, BK884, BK891, HB⟩ := hcut
    cases kq with
    | zero => exact absurd HA.out (by simp [ulplaw04_DyadTurns.j1])
    | succ kj43 =>
     have H := HA.out
     clear HA
     simp only [ulplaw04_DyadTurns.j1] at H
     by_cases c61 : x59_43 = true
     ·subst c61
      rw [if_pos rfl] at H
      obtain rfl := Option.some.inj H
      exact absurd hr_.out (by decide)
     replace c61 := Bool.eq_false_iff.mpr c61
     subst c61
     rw [if_neg (show ¬ (false = true) by decide)] at H
     obtain ⟨⟨t906, t907, t910, t911⟩, A62, H⟩ := zh H
     (try dsimp only at H)
     obtain ⟨⟨t912, t913, t916, t917⟩, A63, H⟩ := zh H
     (try dsimp only at H)
     obtain ⟨t919, A64, H⟩ := zh H
     by_cases c65 : t919 = true
     ·subst c65
      rw [if_pos rfl] at H
      by_cases c66 : t911 = t917
      ·rw [if_pos c66] at H
       have c66b0 := beq_iff_eq.mpr c66
       have c66b1 := bne_eq_false_iff_eq.mpr c66
       clear c66
       obtain ⟨t920, A67, H⟩ := zh H
       clear hr_
       obtain rfl := Option.some.inj H
       have hnb68 := NB877_884.out
       have hnc68 := NB884_877.out
       have hnb69 := NB877_891.out
       have hnc69 := NB891_877.out
       obtain ⟨_, _, _, _, _, _⟩ := zc BK877
       go_wp2_with (first | ((with_reducible refine zG 31 rfl ?_); refine zL (some 63) rfl rfl Tryd.func31 #[.agg #[.bool a0_0, .slice A0_1 l0_1.length c0_1, .int .i64 a0_2], .int .i64 a1] rfl ?_; (with_reducible refine (dyad_Shift.calls kj43 a0_0 (fun k_ => k_ < w.heap.size) _ _ l0_1 a0_2 a1 t906 t907 t910 t911 _ ?side1 (laid_below hT zs) A62.out).mono ?_); (case side1 => exact V_mk HC0_1.out (Kd.F_below (C_F (Kd.heap_int .u64) HR0_1.out) zs)); rintro e w71 ⟨v908, rfl, ho0, hb⟩; refine ⟨_, rfl, ?_⟩; replace HO_885001 := zA (V_below (vu HO_885001.out) hb); replace HO_892001 := zA (V_below (vu HO_892001.out) hb); have HO909 := zA (V_lower (V_mono (ok' := fun k_ => k_ ≠ gb877 ∧ k_ ≠ gb884 ∧ k_ ≠ gb891) ho0 (fun k_ hk_ => ⟨Or.elim hk_ (fun hs_ => fun e_ => Nat.not_le.2 hs_ (by rw [e_]; exact GW877.out)) (fun hn_ => (zj BK877 k_ hn_)), Or.elim hk_ (fun hs_ => fun e_ => Nat.not_le.2 hs_ (by rw [e_]; exact GW884.out)) (fun hn_ => (zj BK884 k_ hn_)), Or.elim hk_ (fun hs_ => fun e_ => Nat.not_le.2 hs_ (by rw [e_]; exact GW891.out)) (fun hn_ => (zj BK891 k_ hn_))⟩)) (below_size zs)); replace BK877 := zb BK877 hb; replace BK884 := zb BK884 hb; replace BK891 := zb BK891 hb; replace HB := zf hb; (try clear ho0); have hnb72 := NB891_884.out; have hnc72 := NB884_891.out; obtain ⟨hcz73_0, hcz73_1, hcz73_2, hfz73_0, hfz73_1, hfz73_2⟩ := zc BK891; obtain ⟨Ao74, co74, eo74⟩ := V_slice HO909.out; subst eo74; obtain ⟨hcz75_0, hcz75_1, hcz75_2, hfz75_0, hfz75_1, hfz75_2⟩ := zc BK877) | ((with_reducible refine zG 32 rfl ?_); refine zL (some 69) rfl rfl Tryd.func32 #[.agg #[.bool a0_0, .slice A0_1 l0_1.length c0_1, .int .i64 a0_2], .int .i64 a1] rfl ?_; (with_reducible refine (ulpref04_Shift.calls kj43 a0_0 _ _ l0_1 a0_2 a1 t912 t913 t916 t917 _ ?side1 ?side2 A63.out).mono ?_); (case side1 => exact C_below HR0_1.out zs); (case side2 => exact HC0_1.out); rintro e w76 ⟨v914, rfl, ho0, hb⟩; refine ⟨_, rfl, ?_⟩; replace HO_885001 := zA (V_below (vu (V_mono (zv gb891 (V_mono HO_885001.out (fun k_ hk => (⟨hk, hk.2.2⟩ : _ ∧ k_ ≠ gb891))) (fun _ hk => hk.2) _ _ _) (fun _ h_ => h_.1))) hb); replace HO_892001 := zA (V_below (vu (V_mono (zv gb891 (V_mono HO_892001.out (fun k_ hk => (⟨hk, hk.2.2⟩ : _ ∧ k_ ≠ gb891))) (fun _ hk => hk.2) _ _ _) (fun _ h_ => h_.1))) hb); replace HO909 := zA (V_below (vu (V_mono (zv gb891 (V_mono HO909.out (fun k_ hk => (⟨hk, hk.2.2⟩ : _ ∧ k_ ≠ gb891))) (fun _ hk => hk.2) _ _ _) (fun _ h_ => h_.1))) hb); have HO915 := zA (V_lower (V_mono (ok' := fun k_ => k_ ≠ gb877 ∧ k_ ≠ gb884 ∧ k_ ≠ gb891) ho0 (fun k_ hk_ => ⟨(Kd.freshB (g := gb877) (o := .cells #[.bool a0_0, .slice A0_1 l0_1.length c0_1, .int .i64 a0_2] 25 (0, 0)) (zE BK877) k_ hk_), (Kd.freshB (g := gb884) (o := .cells #[.bool false, .slice Ao12 t879.length co12, .int .i64 t882] 25 (0, 0)) (zE BK884) k_ hk_), (Kd.freshB (g := gb891) (o := .cells #[.bool t906, .slice Ao74 t907.length co74, .int .i64 t910] 25 (0, 0)) (zy BK891) k_ hk_)⟩)) (below_size zs)); replace BK877 := zF BK877 hb; replace BK884 := zF BK884 hb; replace BK891 := zt BK891 hb; replace HB := zf hb; (try clear hk); (try clear ho0)) | ((with_reducible refine zD 9 rfl ?_); refine zn (N := 9) (cs := #[.bool false, .slice none 0 0, .int .i64 0]) (t := 25) rfl rfl ?_; intro gb918 hg w77 hbox hb; replace HO_885001 := zA (V_below (V_elderB (vu HO_885001.out) gb918 (Nat.le_of_eq hg.symm)) hb); replace HO_892001 := zA (V_below (V_elderB (vu HO_892001.out) gb918 (Nat.le_of_eq hg.symm)) hb); replace HO909 := zA (V_below (V_elderB (vu HO909.out) gb918 (Nat.le_of_eq hg.symm)) hb); replace HO915 := zA (V_below (V_elderB (vu HO915.out) gb918 (Nat.le_of_eq hg.symm)) hb); have BK918 := zA (hbox); have GW918 := zx hg; replace HB := zf hb; have NB877_918 := zl BK877 hg; have NB918_877 := zg BK877 hg; replace BK877 := zb BK877 hb; have NB884_918 := zl BK884 hg; have NB918_884 := zg BK884 hg; replace BK884 := zb BK884 hb; have NB891_918 := zl BK891 hg; have NB918_891 := zg BK891 hg; replace BK891 := zb BK891 hb; clear hb hbox hg; have hnb78 := NB918_877.out; have hnc78 := NB877_918.out; have hnb79 := NB918_884.out; have hnc79 := NB884_918.out; have hnb80 := NB918_891.out; have hnc80 := NB891_918.out; obtain ⟨hcz81_0, hcz81_1, hcz81_2, hfz81_0, hfz81_1, hfz81_2⟩ := zc BK918; obtain ⟨Ao82, co82, eo82⟩ := V_slice HO915.out; subst eo82; obtain ⟨hcz83_0, hcz83_1, hcz83_2, hfz83_0, hfz83_1, hfz83_2⟩ := zc BK891) | ((with_reducible refine zG 23 rfl ?_); refine zL (some 74) rfl rfl Tryd.func23 #[.agg #[.bool t906, .slice Ao74 t907.length co74, .int .i64 t910], .agg #[.bool t912, .slice Ao82 t913.length co82, .int .i64 t916]] rfl ?_; (with_reducible refine (ulpref04_Same.calls kj43 t906 _ _ t907 t910 t912 _ _ t913 t916 true _ ?side1 ?side2 ?side3 ?side4 A64.out).mono ?_); (case side1 => refine (V_reads' (e := 43) (base := w.heap.size) (ok := fun k_ => ((k_ ≠ gb877 ∧ (k_ ≠ gb884 ∧ k_ ≠ gb891)) ∧ k_ ≠ gb918)) (n := t907.length) (c := co74) ?_).2.2; exact (vu (V_mono (zv gb918 (V_mono HO909.out (fun k_ hk => (⟨hk, hk.2⟩ : _ ∧ k_ ≠ gb918))) (fun _ hk => hk.2) _ _ _) (fun _ h_ => h_.1)))); (case side2 => exact (V_reads' HO909.out).2.1); (case side3 => refine (V_reads' (e := 43) (base := w.heap.size) (ok := fun k_ => ((k_ ≠ gb877 ∧ (k_ ≠ gb884 ∧ k_ ≠ gb891)) ∧ k_ ≠ gb918)) (n := t913.length) (c := co82) ?_).2.2; exact (vu (V_mono (zv gb918 (V_mono HO915.out (fun k_ hk => (⟨hk, hk.2⟩ : _ ∧ k_ ≠ gb918))) (fun _ hk => hk.2) _ _ _) (fun _ h_ => h_.1)))); (case side4 => exact (V_reads' HO915.out).2.1); rintro e w84 ⟨rfl, hb⟩; refine ⟨_, rfl, ?_⟩; replace HO_885001 := zA (V_below (vu (V_mono (zv gb918 (V_mono HO_885001.out (fun k_ hk => (⟨hk, hk.2⟩ : _ ∧ k_ ≠ gb918))) (fun _ hk => hk.2) _ _ _) (fun _ h_ => h_.1))) hb); replace HO_892001 := zA (V_below (vu (V_mono (zv gb918 (V_mono HO_892001.out (fun k_ hk => (⟨hk, hk.2⟩ : _ ∧ k_ ≠ gb918))) (fun _ hk => hk.2) _ _ _) (fun _ h_ => h_.1))) hb); replace HO909 := zA (V_below (vu (V_mono (zv gb918 (V_mono HO909.out (fun k_ hk => (⟨hk, hk.2⟩ : _ ∧ k_ ≠ gb918))) (fun _ hk => hk.2) _ _ _) (fun _ h_ => h_.1))) hb); replace HO915 := zA (V_below (vu (V_mono (zv gb918 (V_mono HO915.out (fun k_ hk => (⟨hk, hk.2⟩ : _ ∧ k_ ≠ gb918))) (fun _ hk => hk.2) _ _ _) (fun _ h_ => h_.1))) hb); replace BK877 := zF BK877 hb; replace BK884 := zF BK884 hb; replace BK891 := zF BK891 hb; replace BK918 := zt BK918 hb; replace HB := zf hb; (try clear hk)) | (go_at_call 15; (with_reducible refine (ulplaw04_begins.calls kj43  t920 _ (laid_below hT zs) (zA (ulplaw04_begins.true_ kj43 t920 A67.out)) A67.out).mono ?_); rintro e w85 ⟨rfl, hb⟩; replace HO_885001 := zA (V_below (vu HO_885001.out) hb); replace HO_892001 := zA (V_below (vu HO_892001.out) hb); replace HO909 := zA (V_below (vu HO909.out) hb); replace HO915 := zA (V_below (vu HO915.out) hb); replace BK877 := zb BK877 hb; replace BK884 := zb BK884 hb; replace BK891 := zb BK891 hb; replace BK918 := zb BK918 hb; replace HB := zf hb))
       go_ret
       exact ⟨er, zs⟩
      rw [if_neg c66] at H
      have c66b0 := beq_eq_false_iff_ne.mpr c66
      have c66b1 := bne_iff_ne.mpr c66
      obtain rfl := Option.some.inj H
      exact absurd hr_.out (by decide)
     replace c65 := Bool.eq_false_iff.mpr c65
     subst c65
     rw [if_neg (show ¬ (false = true) by decide)] at H
     obtain rfl := Option.some.inj H
     exact absurd hr_.out (by decide)
end Go.Proofs.YtemfckibdojbbaaDoor.PAll
