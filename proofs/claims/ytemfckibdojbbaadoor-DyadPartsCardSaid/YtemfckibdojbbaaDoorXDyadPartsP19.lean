/- Printed functions, merged by a program of this session. -/
import Derived.Test.YtemfckibdojbbaaDoorXDyadPartsP0
import Derived.Test.YtemfckibdojbbaaDoorXDyadPartsP2
import Derived.Test.YtemfckibdojbbaaDoorXDyadPartsP5
import Derived.Laws.StructEq
import Derived.Test.YtemfckibdojbbaaDoorXDyadPartsSh
namespace Go.Proofs.YtemfckibdojbbaaDoor.PAll
open Go.RowKit Go.Proofs.YtemfckibdojbbaaDoorW.PrintWords Go.Proofs.YtemfckibdojbbaaDoorW.PrintLast Go.Proofs.YtemfckibdojbbaaDoorW.PrintMore Go.Proofs.YtemfckibdojbbaaDoorW.PrintWords.Kd
attribute [local go_sem] max2_int min2_int max_two min_two max_three min_three max_four min_four   -- for this text's walks alone
set_option linter.unusedVariables false
set_option linter.unusedSimpArgs false
attribute [local go_sem] ext135 ext136
def raw_Neg.f (k : Nat) (a0_0 : Bool) (l0_1 : List Int) (a0_2 : Int) : Option (Bool × List Int × Int) := (raw_Form.f k (!a0_0) l0_1 a0_2).bind fun bt774 => (some (bt774.1, bt774.2.1, bt774.2.2))
set_option maxHeartbeats 8000000 in
set_option maxRecDepth 100000 in
theorem raw_Neg.calls (k : Nat) (a0_0 : Bool) (P0_1_ : Nat → Prop) (A0_1 : Option Addr) (c0_1 : Nat) (l0_1 : List Int) (a0_2 : Int) (r1 : Bool) (r2 : List Int) (r3 : Int) (w : World) (hs0_1 : Kd.V (Kd.int .u64) 43 w w.heap.size (fun k_ => P0_1_ k_) (.slice A0_1 l0_1.length c0_1) l0_1) (hT : Laid w) (h : raw_Neg.f k a0_0 l0_1 a0_2 = some (r1, r2, r3)) :
  Calls Tryd.prog 123 #[.agg #[.bool a0_0, .slice A0_1 l0_1.length c0_1, .int .i64 a0_2]] w fun e w' => ∃ v1_ : Value, e = .returned (.agg #[.bool r1, v1_, .int .i64 r3]) ∧ Kd.V (Kd.int .u64) 43 w' w.heap.size (fun k_ => (P0_1_ k_ ∨ w.heap.size ≤ k_)) v1_ r2 ∧ Below w.heap.size w w' := by
 have hu25 := Tryd.underlying25
 have HO0_1 := zA (show Kd.V (Kd.int .u64) 43 w w.heap.size (fun k_ => (P0_1_ k_ ∨ w.heap.size ≤ k_)) (.slice A0_1 l0_1.length c0_1) l0_1 from V_mono hs0_1 (fun k_ hk => .inl hk))
 have HB := zA (Below.refl w.heap.size w)
 have H : ((raw_Form.f k (!a0_0) l0_1 a0_2).bind fun bt774 => (some (bt774.1, bt774.2.1, bt774.2.2))) = some (r1, r2, r3) := h
 clear h
 obtain ⟨⟨t774, t775, t778⟩, A2, H⟩ := zh H
 (try dsimp only at H)
 simp only [Option.some.injEq, Prod.mk.injEq] at H
 obtain ⟨rfl, rfl, rfl⟩ := H
 go_enter Tryd.func123, Tryd.ntmps123
 go_wp2_with (first | ((with_reducible refine zD 1 rfl ?_); refine zn (N := 1) (cs := #[.bool a0_0, .slice A0_1 l0_1.length c0_1, .int .i64 a0_2]) (t := 25) rfl rfl ?_; intro gb772 hg w3 hbox hb; replace HO0_1 := zA (V_below (V_elderB (vu HO0_1.out) gb772 (Nat.le_of_eq hg.symm)) hb); have BK772 := zA (hbox); have GW772 := zw hg; replace HB := ze hb; clear hb hbox hg) | ((with_reducible refine zD 2 rfl ?_); refine zn (N := 2) (cs := #[.bool false, .slice none 0 0, .int .i64 0]) (t := 25) rfl rfl ?_; intro gb773 hg w4 hbox hb; replace HO0_1 := zA (V_below (V_elderB (vu HO0_1.out) gb773 (Nat.le_of_eq hg.symm)) hb); have BK773 := zA (hbox); have GW773 := zx hg; replace HB := zf hb; have NB772_773 := zl BK772 hg; have NB773_772 := zg BK772 hg; replace BK772 := zb BK772 hb; clear hb hbox hg; have hnb5 := NB772_773.out; have hnc5 := NB773_772.out; obtain ⟨_, _, _, _, _, _⟩ := zc BK772) | ((with_reducible refine zG 91 rfl ?_); refine zL (some 10) rfl rfl Tryd.func91 #[.bool (!a0_0), .slice A0_1 l0_1.length c0_1, .int .i64 a0_2] rfl ?_; (with_reducible refine (raw_Form.calls k (!a0_0) (fun k_ => (((P0_1_ k_ ∨ w.heap.size ≤ k_) ∧ k_ ≠ gb772) ∧ k_ ≠ gb773)) _ _ l0_1 a0_2 t774 t775 t778 _ ?side1 (laid_below hT zs) A2.out).mono ?_); (case side1 => exact HO0_1.out); rintro e w7 ⟨v776, rfl, ho0, hb⟩; refine ⟨_, rfl, ?_⟩; replace HO0_1 := zA (V_below (vu HO0_1.out) hb); have HO777 := zA (V_lower (V_mono (ok' := fun k_ => (P0_1_ k_ ∨ w.heap.size ≤ k_) ∧ k_ ≠ gb772 ∧ k_ ≠ gb773) ho0 (fun k_ hk_ => ⟨Or.elim hk_ (fun hs_ => hs_.1.1) (fun hn_ => (.inr (Nat.le_trans (below_size zs) hn_))), Or.elim hk_ (fun hs_ => hs_.1.2) (fun hn_ => (zj BK772 k_ hn_)), Or.elim hk_ (fun hs_ => hs_.2) (fun hn_ => (zj BK773 k_ hn_))⟩)) (below_size zs)); replace BK772 := zb BK772 hb; replace BK773 := zb BK773 hb; replace HB := zf hb; (try clear ho0); obtain ⟨hcz8_0, hcz8_1, hcz8_2, hfz8_0, hfz8_1, hfz8_2⟩ := zc BK773; obtain ⟨Ao9, co9, eo9⟩ := V_slice HO777.out; subst eo9))
 refine bodyPost_ret (results_cell_row rfl _ _ gb773 25 #[.bool t774, .slice Ao9 t775.length co9, .int .i64 t778] (0, 0) _ rfl (zy BK773) Tryd.underlying25 rfl (by kernel_rfl)) rfl ?_
 exact ⟨_, er, vu (V_mono (zv gb773 (V_mono HO777.out (fun k_ hk => (⟨hk, hk.2.2⟩ : _ ∧ k_ ≠ gb773))) (fun _ hk => hk.2) _ _ _) (fun _ hk => hk.1.1)), zs⟩
def raw_Sub.f (k : Nat) (a0_0 : Bool) (l0_1 : List Int) (a0_2 : Int) (a1_0 : Bool) (l1_1 : List Int) (a1_2 : Int) : Option (Bool × List Int × Int) := (raw_Neg.f k a1_0 l1_1 a1_2).bind fun bt1007 => ((raw_Add.f k a0_0 l0_1 a0_2 bt1007.1 bt1007.2.1 bt1007.2.2).bind fun bt1012 => (some (bt1012.1, bt1012.2.1, bt1012.2.2)))
set_option maxHeartbeats 8000000 in
set_option maxRecDepth 100000 in
theorem raw_Sub.calls (k : Nat) (a0_0 : Bool) (P0_1_ : Nat → Prop) (A0_1 : Option Addr) (c0_1 : Nat) (l0_1 : List Int) (a0_2 : Int) (a1_0 : Bool) (P1_1_ : Nat → Prop) (A1_1 : Option Addr) (c1_1 : Nat) (l1_1 : List Int) (a1_2 : Int) (r1 : Bool) (r2 : List Int) (r3 : Int) (w : World) (hs0_1 : Kd.V (Kd.int .u64) 43 w w.heap.size (fun k_ => P0_1_ k_) (.slice A0_1 l0_1.length c0_1) l0_1) (hs1_1 : Kd.V (Kd.int .u64) 43 w w.heap.size (fun k_ => P1_1_ k_) (.slice A1_1 l1_1.length c1_1) l1_1) (hT : Laid w) (h : raw_Sub.f k a0_0 l0_1 a0_2 a1_0 l1_1 a1_2 = some (r1, r2, r3)) :
  Calls Tryd.prog 90 #[.agg #[.bool a0_0, .slice A0_1 l0_1.length c0_1, .int .i64 a0_2], .agg #[.bool a1_0, .slice A1_1 l1_1.length c1_1, .int .i64 a1_2]] w fun e w' => ∃ v1_ : Value, e = .returned (.agg #[.bool r1, v1_, .int .i64 r3]) ∧ Kd.V (Kd.int .u64) 43 w' w.heap.size (fun k_ => ((P0_1_ k_ ∨ P1_1_ k_) ∨ w.heap.size ≤ k_)) v1_ r2 ∧ Below w.heap.size w w' := by
 have hu25 := Tryd.underlying25
 have HO0_1 := zA (show Kd.V (Kd.int .u64) 43 w w.heap.size (fun k_ => ((P0_1_ k_ ∨ P1_1_ k_) ∨ w.heap.size ≤ k_)) (.slice A0_1 l0_1.length c0_1) l0_1 from V_mono hs0_1 (fun k_ hk => .inl (.inl hk)))
 have HO1_1 := zA (show Kd.V (Kd.int .u64) 43 w w.heap.size (fun k_ => ((P0_1_ k_ ∨ P1_1_ k_) ∨ w.heap.size ≤ k_)) (.slice A1_1 l1_1.length c1_1) l1_1 from V_mono hs1_1 (fun k_ hk => .inl (.inr hk)))
 have HB := zA (Below.refl w.heap.size w)
 have H : ((raw_Neg.f k a1_0 l1_1 a1_2).bind fun bt1007 => ((raw_Add.f k a0_0 l0_1 a0_2 bt1007.1 bt1007.2.1 bt1007.2.2).bind fun bt1012 => (some (bt1012.1, bt1012.2.1, bt1012.2.2)))) = some (r1, r2, r3) := h
 clear h
 obtain ⟨⟨t1007, t1008, t1011⟩, A3, H⟩ := zh H
 (try dsimp only at H)
 obtain ⟨⟨t1012, t1013, t1016⟩, A4, H⟩ := zh H
 (try dsimp only at H)
 simp only [Option.some.injEq, Prod.mk.injEq] at H
 obtain ⟨rfl, rfl, rfl⟩ := H
 go_enter Tryd.func90, Tryd.ntmps90
 try go_wp2_with (first | ((with_reducible refine zD 2 rfl ?_); refine zn (N := 2) (cs := #[.bool a0_0, .slice A0_1 l0_1.length c0_1, .int .i64 a0_2]) (t := 25) rfl rfl ?_; intro gb1004 hg w5 hbox hb; replace HO0_1 := zA (V_below (V_elderB (vu HO0_1.out) gb1004 (Nat.le_of_eq hg.symm)) hb); replace HO1_1 := zA (V_below (V_elderB (vu HO1_1.out) gb1004 (Nat.le_of_eq hg.symm)) hb); have BK1004 := zA (hbox); have GW1004 := zw hg; replace HB := ze hb; clear hb hbox hg) | ((with_reducible refine zD 3 rfl ?_); refine zn (N := 3) (cs := #[.bool a1_0, .slice A1_1 l1_1.length c1_1, .int .i64 a1_2]) (t := 25) rfl rfl ?_; intro gb1005 hg w6 hbox hb; replace HO0_1 := zA (V_below (V_elderB (vu HO0_1.out) gb1005 (Nat.le_of_eq hg.symm)) hb); replace HO1_1 := zA (V_below (V_elderB (vu HO1_1.out) gb1005 (Nat.le_of_eq hg.symm)) hb); have BK1005 := zA (hbox); have GW1005 := zx hg; replace HB := zf hb; have NB1004_1005 := zl BK1004 hg; have NB1005_1004 := zg BK1004 hg; replace BK1004 := zb BK1004 hb; clear hb hbox hg) | ((with_reducible refine zD 4 rfl ?_); refine zn (N := 4) (cs := #[.bool false, .slice none 0 0, .int .i64 0]) (t := 25) rfl rfl ?_; intro gb1006 hg w7 hbox hb; replace HO0_1 := zA (V_below (V_elderB (vu HO0_1.out) gb1006 (Nat.le_of_eq hg.symm)) hb); replace HO1_1 := zA (V_below (V_elderB (vu HO1_1.out) gb1006 (Nat.le_of_eq hg.symm)) hb); have BK1006 := zA (hbox); have GW1006 := zx hg; replace HB := zf hb; have NB1004_1006 := zl BK1004 hg; have NB1006_1004 := zg BK1004 hg; replace BK1004 := zb BK1004 hb; have NB1005_1006 := zl BK1005 hg; have NB1006_1005 := zg BK1005 hg; replace BK1005 := zb BK1005 hb; clear hb hbox hg))
 replace HO0_1 := zA (V_drew HO0_1.out)
 replace HO1_1 := zA (V_drew HO1_1.out)
 replace BK1004 := zA (blk_drew BK1004.out)
 replace BK1005 := zA (blk_drew BK1005.out)
 replace BK1006 := zA (blk_drew BK1006.out)
 replace HB := zA (below_drew1 HB.out)
 refine start_ (n := 5) (S := fun w' => z4 w' gb1004 (.bool a0_0) (.slice A0_1 l0_1.length c0_1) (.int .i64 a0_2) (z3 w' gb1005 (.bool a1_0) (.slice A1_1 l1_1.length c1_1) (.int .i64 a1_2))) (ds := []) #[false, false, false, false, false] (by kernel_rfl) rfl rfl (za BK1004 (zz BK1005)) (fun hHeld => ?_)
 generalize w7.drew = w8 at HO0_1 HO1_1 BK1004 BK1005 BK1006 HB hHeld ⊢
 refine take_ (i := 0) (N := some 5) (v := ?_) (a' := ?_) #[true, false, false, false, false] rfl rfl (by kernel_rfl) (fun _ _ _ h => h) (Or.inl ⟨by rfl, ?_⟩) hHeld ?_ ?_
 rotate_left
 ·rintro w' ⟨s0, s1, s2, s3, s4, s5⟩
  go_simp
  with_reducible rfl
 rotate_left
 ·exact zq
 refine take_ (i := 1) (N := some 6) (v := ?_) (a' := ?_) #[true, true, false, false, false] rfl rfl (by kernel_rfl) (fun _ _ _ h => h) (Or.inl ⟨by rfl, ?_⟩) hHeld ?_ ?_
 rotate_left
 ·rintro w' ⟨s0, s1, s2, s3, s4, s5⟩
  go_simp
  with_reducible rfl
 rotate_left
 ·exact zq
 refine one_ (i := 2) (N := some 7) #[true, true, true, false, false] rfl rfl (by kernel_rfl) (by decide) (fun K hK => ?_)
 refine goes_ Tryd.func123 (by kernel_rfl) rfl #[.agg #[.bool a1_0, .slice A1_1 l1_1.length c1_1, .int .i64 a1_2]] (by rfl) rfl rfl ga ?_
 with_reducible refine (raw_Neg.calls k a1_0 (fun k_ => (((((P0_1_ k_ ∨ P1_1_ k_) ∨ w.heap.size ≤ k_) ∧ k_ ≠ gb1004) ∧ k_ ≠ gb1005) ∧ k_ ≠ gb1006)) _ _ l1_1 a1_2 t1007 t1008 t1011 _ ?side1 (laid_below hT zs) A3.out).mono ?_
 (case side1 => exact HO1_1.out)
 rintro e w9 ⟨v1009, rfl, ho0, hb⟩
 refine ⟨_, rfl, ?_⟩
 replace HO0_1 := zA (V_below (vu HO0_1.out) hb)
 replace HO1_1 := zA (V_below (vu HO1_1.out) hb)
 have HO1010 := zA (V_lower (V_mono (ok' := fun k_ => ((P0_1_ k_ ∨ P1_1_ k_) ∨ w.heap.size ≤ k_) ∧ k_ ≠ gb1004 ∧ k_ ≠ gb1005 ∧ k_ ≠ gb1006) ho0 (fun k_ hk_ => ⟨Or.elim hk_ (fun hs_ => hs_.1.1.1) (fun hn_ => (.inr (Nat.le_trans (below_size zs) hn_))), Or.elim hk_ (fun hs_ => hs_.1.1.2) (fun hn_ => (zj BK1004 k_ hn_)), Or.elim hk_ (fun hs_ => hs_.1.2) (fun hn_ => (zj BK1005 k_ hn_)), Or.elim hk_ (fun hs_ => hs_.2) (fun hn_ => (zj BK1006 k_ hn_))⟩)) (below_size zs))
 replace BK1004 := zb BK1004 hb
 replace BK1005 := zb BK1005 hb
 replace BK1006 := zb BK1006 hb
 replace HB := zf hb
 (try clear hb)
 (try clear hb2)
 (try clear hk)
 (try clear hi)
 (try clear ho0)
 obtain ⟨Ao10, co10, eo10⟩ := V_slice HO1010.out
 (first | subst eo10 | (injection eo10 with f1_ f2_ f3_; have f4_ := f1_.symm; have f5_ := f3_.symm; clear f1_ f2_ f3_; subst f4_; subst f5_))
 refine hK.out _ _ (za BK1004 (zz BK1005)) (fun hHeld => ?_)
 clear hK K
 refine norm_ (a' := ?_) ?_ ?_
 rotate_left
 ·show Act.put _ (some 7) _ = _
  simp only [Act.put, List.setIfInBounds_toArray, List.set_cons_zero, List.set_cons_succ, i64_w, i32_w]
  rfl
 refine one_ (i := 3) (N := some 8) #[true, true, true, true, false] rfl rfl (by kernel_rfl) (by decide) (fun K hK => ?_)
 refine goes_ Tryd.func62 (by kernel_rfl) rfl #[.agg #[.bool a0_0, .slice A0_1 l0_1.length c0_1, .int .i64 a0_2], .agg #[.bool t1007, .slice Ao10 t1008.length co10, .int .i64 t1011]] (by rfl) rfl rfl ga ?_
 with_reducible refine (raw_Add.calls k a0_0 (fun k_ => (((((P0_1_ k_ ∨ P1_1_ k_) ∨ w.heap.size ≤ k_) ∧ k_ ≠ gb1004) ∧ k_ ≠ gb1005) ∧ k_ ≠ gb1006)) _ _ l0_1 a0_2 t1007 (fun k_ => (((P0_1_ k_ ∨ P1_1_ k_) ∨ w.heap.size ≤ k_) ∧ (k_ ≠ gb1004 ∧ (k_ ≠ gb1005 ∧ k_ ≠ gb1006)))) _ _ t1008 t1011 t1012 t1013 t1016 _ ?side1 ?side2 (laid_below hT zs) A4.out).mono ?_
 (case side1 => exact HO0_1.out)
 (case side2 => exact HO1010.out)
 rintro e w11 ⟨v1014, rfl, ho0, hb⟩
 refine ⟨_, rfl, ?_⟩
 replace HO0_1 := zA (V_below (vu HO0_1.out) hb)
 replace HO1_1 := zA (V_below (vu HO1_1.out) hb)
 replace HO1010 := zA (V_below (vu HO1010.out) hb)
 have HO1015 := zA (V_lower (V_mono (ok' := fun k_ => ((P0_1_ k_ ∨ P1_1_ k_) ∨ w.heap.size ≤ k_) ∧ k_ ≠ gb1004 ∧ k_ ≠ gb1005 ∧ k_ ≠ gb1006) ho0 (fun k_ hk_ => ⟨Or.elim hk_ (fun hs_ => Or.elim hs_ (fun hs_ => hs_.1.1.1) (fun hs_ => hs_.1)) (fun hn_ => (.inr (Nat.le_trans (below_size zs) hn_))), Or.elim hk_ (fun hs_ => Or.elim hs_ (fun hs_ => hs_.1.1.2) (fun hs_ => hs_.2.1)) (fun hn_ => (zj BK1004 k_ hn_)), Or.elim hk_ (fun hs_ => Or.elim hs_ (fun hs_ => hs_.1.2) (fun hs_ => hs_.2.2.1)) (fun hn_ => (zj BK1005 k_ hn_)), Or.elim hk_ (fun hs_ => Or.elim hs_ (fun hs_ => hs_.2) (fun hs_ => hs_.2.2.2)) (fun hn_ => (zj BK1006 k_ hn_))⟩)) (below_size zs))
 replace BK1004 := zb BK1004 hb
 replace BK1005 := zb BK1005 hb
 replace BK1006 := zb BK1006 hb
 replace HB := zf hb
 (try clear hb)
 (try clear hb2)
 (try clear hk)
 (try clear hi)
 (try clear ho0)
 obtain ⟨Ao13, co13, eo13⟩ := V_slice HO1015.out
 (first | subst eo13 | (injection eo13 with f1_ f2_ f3_; have f4_ := f1_.symm; have f5_ := f3_.symm; clear f1_ f2_ f3_; subst f4_; subst f5_))
 refine hK.out _ _ (za BK1004 (zz BK1005)) (fun hHeld => ?_)
 clear hK K
 refine norm_ (a' := ?_) ?_ ?_
 rotate_left
 ·show Act.put _ (some 8) _ = _
  simp only [Act.put, List.setIfInBounds_toArray, List.set_cons_zero, List.set_cons_succ, i64_w, i32_w]
  rfl
 refine one_ (i := 4) (N := none) #[true, true, true, true, true] rfl rfl (by kernel_rfl) (by decide) (fun K hK => ?_)
 have hs12 : w11.cell? ⟨gb1006, 0, none⟩ = some (.bool false) := (blk_cell BK1006.out 0).trans rfl
 have hfs12 := blk_frozen BK1006.out 0
 have hns12_0 := NB1004_1006.out
 have hns12_1 := NB1005_1006.out
 have hms12_0 := NB1006_1004.out
 have hms12_1 := NB1006_1005.out
 have hs14 : w11.cell? ⟨gb1006, 1, none⟩ = some (.slice none 0 0) := (blk_cell BK1006.out 1).trans rfl
 have hfs14 := blk_frozen BK1006.out 1
 have hns14_0 := NB1004_1006.out
 have hns14_1 := NB1005_1006.out
 have hms14_0 := NB1006_1004.out
 have hms14_1 := NB1006_1005.out
 have hs15 : w11.cell? ⟨gb1006, 2, none⟩ = some (.int .i64 0) := (blk_cell BK1006.out 2).trans rfl
 have hfs15 := blk_frozen BK1006.out 2
 have hns15_0 := NB1004_1006.out
 have hns15_1 := NB1005_1006.out
 have hms15_0 := NB1006_1004.out
 have hms15_1 := NB1006_1005.out
 refine skip_ (w1 := ?_) (by rfl) rfl ?_ ?_
 rotate_left
 ·go_simp
  rfl
 refine hK.out _ _ ⟨((cell_far (p := ⟨gb1006, _, none⟩) NB1004_1006.out _).trans (((cell_far (p := ⟨gb1006, _, none⟩) NB1004_1006.out _).trans (((cell_far (p := ⟨gb1006, _, none⟩) NB1004_1006.out _).trans (hHeld.1)))))), ((cell_far (p := ⟨gb1006, _, none⟩) NB1004_1006.out _).trans (((cell_far (p := ⟨gb1006, _, none⟩) NB1004_1006.out _).trans (((cell_far (p := ⟨gb1006, _, none⟩) NB1004_1006.out _).trans (hHeld.2.1)))))), ((cell_far (p := ⟨gb1006, _, none⟩) NB1004_1006.out _).trans (((cell_far (p := ⟨gb1006, _, none⟩) NB1004_1006.out _).trans (((cell_far (p := ⟨gb1006, _, none⟩) NB1004_1006.out _).trans (hHeld.2.2.1)))))), ((cell_far (p := ⟨gb1006, _, none⟩) NB1005_1006.out _).trans (((cell_far (p := ⟨gb1006, _, none⟩) NB1005_1006.out _).trans (((cell_far (p := ⟨gb1006, _, none⟩) NB1005_1006.out _).trans (hHeld.2.2.2.1)))))), ((cell_far (p := ⟨gb1006, _, none⟩) NB1005_1006.out _).trans (((cell_far (p := ⟨gb1006, _, none⟩) NB1005_1006.out _).trans (((cell_far (p := ⟨gb1006, _, none⟩) NB1005_1006.out _).trans (hHeld.2.2.2.2.1)))))), ((cell_far (p := ⟨gb1006, _, none⟩) NB1005_1006.out _).trans (((cell_far (p := ⟨gb1006, _, none⟩) NB1005_1006.out _).trans (((cell_far (p := ⟨gb1006, _, none⟩) NB1005_1006.out _).trans (hHeld.2.2.2.2.2))))))⟩ (fun hHeld => ?_)
 clear hK K
 refine done_ (by kernel_rfl) ?_
 try go_wp2
 refine bodyPost_ret (results_cell_row rfl _ _ gb1006 25 #[.bool t1012, .slice Ao13 t1013.length co13, .int .i64 t1016] (0, 0) _ rfl (zy BK1006) Tryd.underlying25 rfl (by kernel_rfl)) rfl ?_
 exact ⟨_, er, vu (V_mono (zv gb1006 (V_mono HO1015.out (fun k_ hk => (⟨hk, hk.2.2.2⟩ : _ ∧ k_ ≠ gb1006))) (fun _ hk => hk.2) _ _ _) (fun _ hk => hk.1.1)), zs⟩
end Go.Proofs.YtemfckibdojbbaaDoor.PAll
