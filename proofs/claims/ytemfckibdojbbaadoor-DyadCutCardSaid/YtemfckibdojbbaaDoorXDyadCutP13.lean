/- Printed functions, merged by a program of this session. -/
import Derived.Test.YtemfckibdojbbaaDoorXDyadCutP0
import Derived.Test.YtemfckibdojbbaaDoorXDyadCutP9
import Derived.Test.YtemfckibdojbbaaDoorXDyadCutP12
import Derived.Laws.StructEq
import Derived.Test.YtemfckibdojbbaaDoorXDyadCutSh
namespace Go.Proofs.YtemfckibdojbbaaDoor.PAll
open Go.RowKit Go.Proofs.YtemfckibdojbbaaDoorW.PrintWords Go.Proofs.YtemfckibdojbbaaDoorW.PrintLast Go.Proofs.YtemfckibdojbbaaDoorW.PrintMore Go.Proofs.YtemfckibdojbbaaDoorW.PrintWords.Kd
attribute [local go_sem] max2_int min2_int max_two min_two max_three min_three max_four min_four   -- for this text's walks alone
set_option linter.unusedVariables false
set_option linter.unusedSimpArgs false
attribute [local go_sem] ext135 ext136
def raw_Sub.f (k : Nat) (a0_0 : Bool) (l0_1 : List Int) (a0_2 : Int) (a1_0 : Bool) (l1_1 : List Int) (a1_2 : Int) : Option (Bool × List Int × Int) := (raw_Neg.f k a1_0 l1_1 a1_2).bind fun bt1007 => ((raw_Add.f k a0_0 l0_1 a0_2 bt1007.1 bt1007.2.1 bt1007.2.2).bind fun bt1012 => (some (bt1012.1, bt1012.2.1, bt1012.2.2)))
set_option maxHeartbeats 8000000 in
set_option maxRecDepth 100000 in
theorem raw_Sub.calls (k : Nat) (a0_0 : Bool) (P0_1_ : Nat → Prop) (A0_1 : Option Addr) (c0_1 : Nat) (l0_1 : List Int) (a0_2 : Int) (a1_0 : Bool) (P1_1_ : Nat → Prop) (A1_1 : Option Addr) (c1_1 : Nat) (l1_1 : List Int) (a1_2 : Int) (r1 : Bool) (r2 : List Int) (r3 : Int) (w : World) (hs0_1 : Kd.V (Kd.int .u64) 43 w w.heap.size (fun k_ => P0_1_ k_) (.slice A0_1 l0_1.length c0_1) l0_1) (hs1_1 : Kd.V (Kd.int .u64) 43 w w.heap.size (fun k_ => P1_1_ k_) (.slice A1_1 l1_1.length c1_1) l1_1) (hT : Laid w) (h : raw_Sub.f k a0_0 l0_1 a0_2 a1_0 l1_1 a1_2 = some (r1, r2, r3)) :
  Calls Tryd.prog 90 #[.agg #[.bool a0_0, .slice A0_1 l0_1.length c0_1, .int .i64 a0_2], .agg #[.bool a1_0, .slice A1_1 l1_1.length c1_1, .int .i64 a1_2]] w fun e w' => ∃ v1_ : Value, e = .returned (.agg #[.bool r1, v1_, .int .i64 r3]) ∧ Kd.V (Kd.int .u64) 43 w' w.heap.size (fun k_ => ((P0_1_ k_ ∨ P1_1_ k_) ∨ w.heap.size ≤ k_)) v1_ r2 ∧ Below w.heap.size w w' := by
 have hu25 := Tryd.underlying25
 have HO0_1 := zA (show Kd.V (Kd.int .u64) 43 w w.heap.size (fun k_ => ((P0_1_ k_ ∨ P1_1_ k_) ∨ w.heap.size ≤ k_)) (.slice A0_1 l0_1.length c0_1) l0_1 from V_mono hs0_1 (fun k_ hk => .inl (.inl hk)))
 have HO1_1 := zA (show Kd.V (Kd.int .u64) 43 w w.heap.size (fun k_ => ((P0_1_ k_ ∨ P1_1_ k_) ∨ w.heap.size ≤ k_)) (.slice A1_1 l1_1.length c1_1) l1_1 from V_mono hs1_1 (fun k_ hk => .inl (.inr hk)))
 have HB := zA (Below.refl w.heap.size w)
 have H : ((raw_Neg.f k a1_0 l1_1 a1_2).bind fun bt1007 => ((raw_Add.f k a0_0 l0_1 a0_2 bt1007.1 bt1007.2.1 bt1007.2.2).bind fun bt1012 => (some (bt1012.1, bt1012.2.1, bt1012.2.2)))) = some (r1, r2, r3) := h
 clear h
 obtain ⟨⟨t1007, t1008, t1011⟩, A3, H⟩ := zh H
 (try dsimp only at H)
 obtain ⟨⟨t1012, t1013, t1016⟩, A4, H⟩ := zh H
 (try dsimp only at H)
 simp only [Option.some.injEq, Prod.mk.injEq] at H
 obtain ⟨rfl, rfl, rfl⟩ := H
 go_enter Tryd.func90, Tryd.ntmps90
 try go_wp2_with (first | ((with_reducible refine zD 2 rfl ?_); refine zn (N := 2) (cs := #[.bool a0_0, .slice A0_1 l0_1.length c0_1, .int .i64 a0_2]) (t := 25) rfl rfl ?_; intro gb1004 hg w5 hbox hb; replace HO0_1 := zA (V_below (V_elderB (vu HO0_1.out) gb1004 (Nat.le_of_eq hg.symm)) hb); replace HO1_1 := zA (V_below (V_elderB (vu HO1_1.out) gb1004 (Nat.le_of_eq hg.symm)) hb); have BK1004 := zA (hbox); have GW1004 := zw hg; replace HB := ze hb; clear hb hbox hg) | ((with_reducible refine zD 3 rfl ?_); refine zn (N := 3) (cs := #[.bool a1_0, .slice A1_1 l1_1.length c1_1, .int .i64 a1_2]) (t := 25) rfl rfl ?_; intro gb1005 hg w6 hbox hb; replace HO0_1 := zA (V_below (V_elderB (vu HO0_1.out) gb1005 (Nat.le_of_eq hg.symm)) hb); replace HO1_1 := zA (V_below (V_elderB (vu HO1_1.out) gb1005 (Nat.le_of_eq hg.symm)) hb); have BK1005 := zA (hbox); have GW1005 := zx hg; replace HB := zf hb; have NB1004_1005 := zl BK1004 hg; have NB1005_1004 := zg BK1004 hg; replace BK1004 := zb BK1004 hb; clear hb hbox hg) | ((with_reducible refine zD 4 rfl ?_); refine zn (N := 4) (cs := #[.bool false, .slice none 0 0, .int .i64 0]) (t := 25) rfl rfl ?_; intro gb1006 hg w7 hbox hb; replace HO0_1 := zA (V_below (V_elderB (vu HO0_1.out) gb1006 (Nat.le_of_eq hg.symm)) hb); replace HO1_1 := zA (V_below (V_elderB (vu HO1_1.out) gb1006 (Nat.le_of_eq hg.symm)) hb); have BK1006 := zA (hbox); have GW1006 := zx hg; replace HB := zf hb; have NB1004_1006 := zl BK1004 hg; have NB1006_1004 := zg BK1004 hg; replace BK1004 := zb BK1004 hb; have NB1005_1006 := zl BK1005 hg; have NB1006_1005 := zg BK1005 hg; replace BK1005 := zb BK1005 hb; clear hb hbox hg))
 replace HO0_1 := zA (V_drew HO0_1.out)
 replace HO1_1 := zA (V_drew HO1_1.out)
 replace BK1004 := zA (blk_drew BK1004.out)
 replace BK1005 := zA (blk_drew BK1005.out)
 replace BK1006 := zA (blk_drew BK1006.out)
 replace HB := zA (below_drew1 HB.out)
 refine start_ (n := 5) (S := fun w' => z4 w' gb1004 (.bool a0_0) (.slice A0_1 l0_1.length c0_1) (.int .i64 a0_2) (z3 w' gb1005 (.bool a1_0) (.slice A1_1 l1_1.length c1_1) (.int .i64 a1_2))) (ds := []) #[false, false, false, false, false] (by kernel_rfl) rfl rfl (za BK1004 (zz BK1005)) (fun hHeld => ?_)
 generalize w7.drew = w8 at HO0_1 HO1_1 BK1004 BK1005 BK1006 HB hHeld ⊢
 refine take_ (i := 0) (N := some 5) (v := ?_) (a' := ?_) #[true, false, false, false, false] rfl rfl (by kernel_rfl) (fun _ _ _ h => h) (Or.inl ⟨by rfl, ?_⟩) hHeld ?_ ?_
 rotate_left
 ·rintro w' ⟨s0, s1, s2, s3, s4, s5⟩
  go_simp
  with_reducible rfl
 rotate_left
 ·exact zq
 refine take_ (i := 1) (N := some 6) (v := ?_) (a' := ?_) #[true, true, false, false, false] rfl rfl (by kernel_rfl) (fun _ _ _ h => h) (Or.inl ⟨by rfl, ?_⟩) hHeld ?_ ?_
 rotate_left
 ·rintro w' ⟨s0, s1, s2, s3, s4, s5⟩
  go_simp
  with_reducible rfl
 rotate_left
 ·exact zq
 refine one_ (i := 2) (N := some 7) #[true, true, true, false, false] rfl rfl (by kernel_rfl) (by decide) (fun K hK => ?_)
 refine goes_ Tryd.func123 (by kernel_rfl) rfl #[.agg #[.bool a1_0, .slice A1_1 l1_1.length c1_1, .int .i64 a1_2]] (by rfl) rfl rfl ga ?_
 with_reducible refine (raw_Neg.calls k a1_0 (fun k_ => (((((P0_1_ k_ ∨ P1_1_ k_) ∨ w.heap.size ≤ k_) ∧ k_ ≠ gb1004) ∧ k_ ≠ gb1005) ∧ k_ ≠ gb1006)) _ _ l1_1 a1_2 t1007 t1008 t1011 _ ?side1 (laid_below hT zs) A3.out).mono ?_
 (case side1 => exact HO1_1.out)
 rintro e w9 ⟨v1009, rfl, ho0, hb⟩
 refine ⟨_, rfl, ?_⟩
 replace HO0_1 := zA (V_below (vu HO0_1.out) hb)
 replace HO1_1 := zA (V_below (vu HO1_1.out) hb)
 have HO1010 := zA (V_lower (V_mono (ok' := fun k_ => ((P0_1_ k_ ∨ P1_1_ k_) ∨ w.heap.size ≤ k_) ∧ k_ ≠ gb1004 ∧ k_ ≠ gb1005 ∧ k_ ≠ gb1006) ho0 (fun k_ hk_ => ⟨Or.elim hk_ (fun hs_ => hs_.1.1.1) (fun hn_ => (.inr (Nat.le_trans (below_size zs) hn_))), Or.elim hk_ (fun hs_ => hs_.1.1.2) (fun hn_ => (zj BK1004 k_ hn_)), Or.elim hk_ (fun hs_ => hs_.1.2) (fun hn_ => (zj BK1005 k_ hn_)), Or.elim hk_ (fun hs_ => hs_.2) (fun hn_ => (zj BK1006 k_ hn_))⟩)) (below_size zs))
 replace BK1004 := zb BK1004 hb
 replace BK1005 := zb BK1005 hb
 replace BK1006 := zb BK1006 hb
 replace HB := zf hb
 (try clear hb)
 (try clear hb2)
 (try clear hk)
 (try clear hi)
 (try clear ho0)
 obtain ⟨Ao10, co10, eo10⟩ := V_slice HO1010.out
 (first | subst eo10 | (injection eo10 with f1_ f2_ f3_; have f4_ := f1_.symm; have f5_ := f3_.symm; clear f1_ f2_ f3_; subst f4_; subst f5_))
 refine hK.out _ _ (za BK1004 (zz BK1005)) (fun hHeld => ?_)
 clear hK K
 refine norm_ (a' := ?_) ?_ ?_
 rotate_left
 ·show Act.put _ (some 7) _ = _
  simp only [Act.put, List.setIfInBounds_toArray, List.set_cons_zero, List.set_cons_succ, i64_w, i32_w]
  rfl
 refine one_ (i := 3) (N := some 8) #[true, true, true, true, false] rfl rfl (by kernel_rfl) (by decide) (fun K hK => ?_)
 refine goes_ Tryd.func62 (by kernel_rfl) rfl #[.agg #[.bool a0_0, .slice A0_1 l0_1.length c0_1, .int .i64 a0_2], .agg #[.bool t1007, .slice Ao10 t1008.length co10, .int .i64 t1011]] (by rfl) rfl rfl ga ?_
 with_reducible refine (raw_Add.calls k a0_0 (fun k_ => (((((P0_1_ k_ ∨ P1_1_ k_) ∨ w.heap.size ≤ k_) ∧ k_ ≠ gb1004) ∧ k_ ≠ gb1005) ∧ k_ ≠ gb1006)) _ _ l0_1 a0_2 t1007 (fun k_ => (((P0_1_ k_ ∨ P1_1_ k_) ∨ w.heap.size ≤ k_) ∧ (k_ ≠ gb1004 ∧ (k_ ≠ gb1005 ∧ k_ ≠ gb1006)))) _ _ t1008 t1011 t1012 t1013 t1016 _ ?side1 ?side2 (laid_below hT zs) A4.out).mono ?_
 (case side1 => exact HO0_1.out)
 (case side2 => exact HO1010.out)
 rintro e w11 ⟨v1014, rfl, ho0, hb⟩
 refine ⟨_, rfl, ?_⟩
 replace HO0_1 := zA (V_below (vu HO0_1.out) hb)
 replace HO1_1 := zA (V_below (vu HO1_1.out) hb)
 replace HO1010 := zA (V_below (vu HO1010.out) hb)
 have HO1015 := zA (V_lower (V_mono (ok' := fun k_ => ((P0_1_ k_ ∨ P1_1_ k_) ∨ w.heap.size ≤ k_) ∧ k_ ≠ gb1004 ∧ k_ ≠ gb1005 ∧ k_ ≠ gb1006) ho0 (fun k_ hk_ => ⟨Or.elim hk_ (fun hs_ => Or.elim hs_ (fun hs_ => hs_.1.1.1) (fun hs_ => hs_.1)) (fun hn_ => (.inr (Nat.le_trans (below_size zs) hn_))), Or.elim hk_ (fun hs_ => Or.elim hs_ (fun hs_ => hs_.1.1.2) (fun hs_ => hs_.2.1)) (fun hn_ => (zj BK1004 k_ hn_)), Or.elim hk_ (fun hs_ => Or.elim hs_ (fun hs_ => hs_.1.2) (fun hs_ => hs_.2.2.1)) (fun hn_ => (zj BK1005 k_ hn_)), Or.elim hk_ (fun hs_ => Or.elim hs_ (fun hs_ => hs_.2) (fun hs_ => hs_.2.2.2)) (fun hn_ => (zj BK1006 k_ hn_))⟩)) (below_size zs))
 replace BK1004 := zb BK1004 hb
 replace BK1005 := zb BK1005 hb
 replace BK1006 := zb BK1006 hb
 replace HB := zf hb
 (try clear hb)
 (try clear hb2)
 (try clear hk)
 (try clear hi)
 (try clear ho0)
 obtain ⟨Ao13, co13, eo13⟩ := V_slice HO1015.out
 (first | subst eo13 | (injection eo13 with f1_ f2_ f3_; have f4_ := f1_.symm; have f5_ := f3_.symm; clear f1_ f2_ f3_; subst f4_; subst f5_))
 refine hK.out _ _ (za BK1004 (zz BK1005)) (fun hHeld => ?_)
 clear hK K
 refine norm_ (a' := ?_) ?_ ?_
 rotate_left
 ·show Act.put _ (some 8) _ = _
  simp only [Act.put, List.setIfInBounds_toArray, List.set_cons_zero, List.set_cons_succ, i64_w, i32_w]
  rfl
 refine one_ (i := 4) (N := none) #[true, true, true, true, true] rfl rfl (by kernel_rfl) (by decide) (fun K hK => ?_)
 have hs12 : w11.cell? ⟨gb1006, 0, none⟩ = some (.bool false) := (blk_cell BK1006.out 0).trans rfl
 have hfs12 := blk_frozen BK1006.out 0
 have hns12_0 := NB1004_1006.out
 have hns12_1 := NB1005_1006.out
 have hms12_0 := NB1006_1004.out
 have hms12_1 := NB1006_1005.out
 have hs14 : w11.cell? ⟨gb1006, 1, none⟩ = some (.slice none 0 0) := (blk_cell BK1006.out 1).trans rfl
 have hfs14 := blk_frozen BK1006.out 1
 have hns14_0 := NB1004_1006.out
 have hns14_1 := NB1005_1006.out
 have hms14_0 := NB1006_1004.out
 have hms14_1 := NB1006_1005.out
 have hs15 : w11.cell? ⟨gb1006, 2, none⟩ = some (.int .i64 0) := (blk_cell BK1006.out 2).trans rfl
 have hfs15 := blk_frozen BK1006.out 2
 have hns15_0 := NB1004_1006.out
 have hns15_1 := NB1005_1006.out
 have hms15_0 := NB1006_1004.out
 have hms15_1 := NB1006_1005.out
 refine skip_ (w1 := ?_) (by rfl) rfl ?_ ?_
 rotate_left
 ·go_simp
  rfl
 refine hK.out _ _ ⟨((cell_far (p := ⟨gb1006, _, none⟩) NB1004_1006.out _).trans (((cell_far (p := ⟨gb1006, _, none⟩) NB1004_1006.out _).trans (((cell_far (p := ⟨gb1006, _, none⟩) NB1004_1006.out _).trans (hHeld.1)))))), ((cell_far (p := ⟨gb1006, _, none⟩) NB1004_1006.out _).trans (((cell_far (p := ⟨gb1006, _, none⟩) NB1004_1006.out _).trans (((cell_far (p := ⟨gb1006, _, none⟩) NB1004_1006.out _).trans (hHeld.2.1)))))), ((cell_far (p := ⟨gb1006, _, none⟩) NB1004_1006.out _).trans (((cell_far (p := ⟨gb1006, _, none⟩) NB1004_1006.out _).trans (((cell_far (p := ⟨gb1006, _, none⟩) NB1004_1006.out _).trans (hHeld.2.2.1)))))), ((cell_far (p := ⟨gb1006, _, none⟩) NB1005_1006.out _).trans (((cell_far (p := ⟨gb1006, _, none⟩) NB1005_1006.out _).trans (((cell_far (p := ⟨gb1006, _, none⟩) NB1005_1006.out _).trans (hHeld.2.2.2.1)))))), ((cell_far (p := ⟨gb1006, _, none⟩) NB1005_1006.out _).trans (((cell_far (p := ⟨gb1006, _, none⟩) NB1005_1006.out _).trans (((cell_far (p := ⟨gb1006, _, none⟩) NB1005_1006.out _).trans (hHeld.2.2.2.2.1)))))), ((cell_far (p := ⟨gb1006, _, none⟩) NB1005_1006.out _).trans (((cell_far (p := ⟨gb1006, _, none⟩) NB1005_1006.out _).trans (((cell_far (p := ⟨gb1006, _, none⟩) NB1005_1006.out _).trans (hHeld.2.2.2.2.2))))))⟩ (fun hHeld => ?_)
 clear hK K
 refine done_ (by kernel_rfl) ?_
 try go_wp2
 refine bodyPost_ret (results_cell_row rfl _ _ gb1006 25 #[.bool t1012, .slice Ao13 t1013.length co13, .int .i64 t1016] (0, 0) _ rfl (zy BK1006) Tryd.underlying25 rfl (by kernel_rfl)) rfl ?_
 exact ⟨_, er, vu (V_mono (zv gb1006 (V_mono HO1015.out (fun k_ hk => (⟨hk, hk.2.2.2⟩ : _ ∧ k_ ≠ gb1006))) (fun _ hk => hk.2) _ _ _) (fun _ hk => hk.1.1)), zs⟩
def dyad_Sub.f (k : Nat) (a0_0 : Bool) (l0_1 : List Int) (a0_2 : Int) (a1_0 : Bool) (l1_1 : List Int) (a1_2 : Int) : Option (Bool × List Int × Int × Int) := (dyad_number_right.f k a0_0 l0_1 a0_2).bind fun t1020 => (if t1020 = true then ((dyad_number_right.f k a1_0 l1_1 a1_2).bind fun t1021 => (if t1021 = true then ((raw_Sub.f k a0_0 l0_1 a0_2 a1_0 l1_1 a1_2).bind fun bt1022 => ((dyad_room.f k bt1022.1 bt1022.2.1 bt1022.2.2).bind fun bt1027 => (some (bt1027.1, bt1027.2.1, bt1027.2.2.1, bt1027.2.2.2)))) else (some (false, ([] : List Int), 0, 2)))) else (some (false, ([] : List Int), 0, 2)))
set_option maxRecDepth 100000 in
theorem hand_Sub_lit (k : Nat) (g0 : Nat) (s0 : Bool) (A0 : Option Addr) (c0 : Nat) (l0 : List Int) (e0 : Int) (g1 : Nat) (s1 : Bool) (A1 : Option Addr) (c1 : Nat) (l1 : List Int) (e1 : Int) (ok : Nat → Prop) (r1 : Bool) (r2 : List Int) (r3 : Int) (w : World) (hb0 : w.heap[g0]? = some (.cells #[.bool s0, .slice A0 l0.length c0, .int .i64 e0] 25 (0, 0))) (hv0 : Kd.V (Kd.int .u64) 43 w w.heap.size (ok) (.slice A0 l0.length c0) l0) (hb1 : w.heap[g1]? = some (.cells #[.bool s1, .slice A1 l1.length c1, .int .i64 e1] 25 (0, 0))) (hv1 : Kd.V (Kd.int .u64) 43 w w.heap.size (ok) (.slice A1 l1.length c1) l1) (hok : ∀ k_, ok k_ → k_ < w.heap.size) (hT : Laid w) (h : raw_Sub.f k s0 l0 e0 s1 l1 e1 = some (r1, r2, r3)) :
  Calls Tryd.prog 89 #[.pointer (some ⟨g0, 0, none⟩), .pointer (some ⟨g1, 0, none⟩)] w fun x w' => ∃ v1_ : Value, x = .returned (.agg #[.bool r1, v1_, .int .i64 r3]) ∧ Kd.V (Kd.int .u64) 43 w' w.heap.size (fun k_ => ok k_ ∨ w.heap.size ≤ k_) (v1_) r2 ∧ Below w.heap.size w w' := by
 have hu25 := Tryd.underlying25
 have HB := zA (Below.refl w.heap.size w)
 have HV0 := zA hv0
 have B0 := zA hb0
 have HV1 := zA hv1
 have B1 := zA hb1
 have HT := zA hT
 have HH := zA h
 have Hok := zA hok
 clear hT h hok hv0 hb0 hv1 hb1 
 go_enter Tryd.func89, Tryd.ntmps89
 go_wp2_with (first | ((with_reducible refine zD 2 rfl ?_); refine zn (N := 2) (cs := #[.bool false, .slice none 0 0, .int .i64 0]) (t := 25) rfl rfl ?_; intro gBR hg w1 hbox hb; have GBR := zA (hg ▸ below_size HB.out : w.heap.size ≤ gBR); have m_HV0 := zA (V_below HV0.out hb); have m_HV1 := zA (V_below HV1.out hb); have m_B0 := zA (blk_below B0.out hb); have m_B1 := zA (blk_below B1.out hb); have m_HB := zA (below_step HB.out hb); clear HB hb HV0 HV1 B0 B1; have HV0 := m_HV0; have HV1 := m_HV1; have B0 := m_B0; have B1 := m_B1; have HB := m_HB; clear m_HV0 m_HV1 m_B0 m_B1 m_HB; have BR := zA hbox; clear hbox hg; have LT := zA (blk_lt BR.out); obtain ⟨_, _, _, _, _, _⟩ := zc B0; obtain ⟨_, _, _, _, _, _⟩ := zc B1; obtain ⟨_, _, _, _, _, _⟩ := zc BR) | ((with_reducible refine zG 90 rfl ?_); refine goesL_ (some 5) rfl rfl Tryd.func90 (by kernel_rfl) rfl #[.agg #[.bool s0, .slice A0 l0.length c0, .int .i64 e0], .agg #[.bool s1, .slice A1 l1.length c1, .int .i64 e1]] rfl (by (try simp only [List.map_toArray, List.map_cons, List.map_nil]); first | done | rfl) ?_; refine (raw_Sub.calls k s0 ok _ _ l0 e0 s1 ok _ _ l1 e1 r1 r2 r3 _ HV0.out HV1.out (laid_below HT.out HB.out) HH.out).mono ?_; rintro e w7 ⟨v7, rfl, hv, hb⟩; obtain ⟨A7, c7, rfl⟩ := V_slice hv; refine ⟨_, rfl, ?_⟩; have HVR := zA (V_mono hv (ok' := fun k_ => (ok k_ ∨ w.heap.size ≤ k_) ∧ k_ ≠ gBR) (fun k_ hk => by { have h1 := LT.out; have h3 := GBR.out; rcases hk with (hk | hk) | hk; (exact ⟨.inl hk, fun e => by { subst e; exact absurd (Hok.out _ hk) (Nat.not_lt.mpr h3) }⟩); (exact ⟨.inl hk, fun e => by { subst e; exact absurd (Hok.out _ hk) (Nat.not_lt.mpr h3) }⟩); (exact ⟨.inr (by omega), by omega⟩) })); have m_BR := zA (blk_below BR.out hb); have m_HB := zA (below_step HB.out hb); clear HB hb BR; have BR := m_BR; have HB := m_HB; clear m_BR m_HB; obtain ⟨_, _, _, _, _, _⟩ := zc BR))
 refine bodyPost_ret (results_cell_row rfl _ _ gBR 25 #[.bool r1, .slice A7 r2.length c7, .int .i64 r3] (0, 0) _ rfl (by refine blk_put (cs := #[.bool r1, .slice A7 r2.length c7, .int .i64 0]) ?_ 2 _ rfl; refine blk_put (cs := #[.bool r1, .slice none 0 0, .int .i64 0]) ?_ 1 _ rfl; refine blk_put (cs := #[.bool false, .slice none 0 0, .int .i64 0]) ?_ 0 _ rfl; exact BR.out) Tryd.underlying25 rfl (by kernel_rfl)) rfl ?_
 exact ⟨_, rfl, V_mono (V_far (p := ⟨gBR, 2, none⟩) (V_far (p := ⟨gBR, 1, none⟩) (V_far (p := ⟨gBR, 0, none⟩) HVR.out (fun _ hk => hk.2) (.bool r1)) (fun _ hk => hk.2) (.slice A7 r2.length c7)) (fun _ hk => hk.2) (.int .i64 r3)) (fun _ hk => hk.1), below_set (below_set (below_set HB.out GBR.out) GBR.out) GBR.out⟩
theorem hand_Sub_key (k : Nat) (a0_0 : Bool) (l0_1 : List Int) (a0_2 : Int) (a1_0 : Bool) (l1_1 : List Int) (a1_2 : Int) (r1 : Bool) (r2 : List Int) (r3 r4 : Int) (h : dyad_Sub.f k a0_0 l0_1 a0_2 a1_0 l1_1 a1_2 = some (r1, r2, r3, r4)) :
  ∃ ra rb s1 l1 e1, dyad_number_right.f k a0_0 l0_1 a0_2 = some ra ∧ (ra = true → dyad_number_right.f k a1_0 l1_1 a1_2 = some rb) ∧ ((ra && rb) = true → raw_Sub.f k a0_0 l0_1 a0_2 a1_0 l1_1 a1_2 = some (s1, l1, e1)) ∧ ((ra && rb) = true → dyad_room.f k s1 l1 e1 = some (r1, r2, r3, r4)) ∧ ((ra && rb) = false → (r1, r2, r3, r4) = (false, ([] : List Int), (0 : Int), (2 : Int))) := by
 unfold dyad_Sub.f at h
 cases hA : dyad_number_right.f k a0_0 l0_1 a0_2 with
 | none => rw [hA] at h; cases h
 | some ra =>
 rw [hA] at h
 replace h : (if ra = true then _ else _) = _ := h
 cases ra with
 | false => rw [if_neg (by decide)] at h; injection h with h; exact ⟨false, false, false, [], 0, rfl, (fun q => by cases q), (fun q => by cases q), (fun q => by cases q), fun _ => h.symm⟩
 | true =>
 rw [if_pos rfl] at h
 cases hB : dyad_number_right.f k a1_0 l1_1 a1_2 with
 | none => rw [hB] at h; cases h
 | some rb =>
 rw [hB] at h
 replace h : (if rb = true then _ else _) = _ := h
 cases rb with
 | false => rw [if_neg (by decide)] at h; injection h with h; exact ⟨true, false, false, [], 0, rfl, fun _ => rfl, (fun q => by cases q), (fun q => by cases q), fun _ => h.symm⟩
 | true =>
 rw [if_pos rfl] at h
 cases hC : raw_Sub.f k a0_0 l0_1 a0_2 a1_0 l1_1 a1_2 with
 | none => rw [hC] at h; cases h
 | some t =>
 obtain ⟨s1, l1, e1⟩ := t
 rw [hC] at h
 replace h : (dyad_room.f k s1 l1 e1).bind _ = _ := h
 cases hD : dyad_room.f k s1 l1 e1 with
 | none => rw [hD] at h; cases h
 | some q =>
 obtain ⟨q1, q2, q3, q4⟩ := q
 rw [hD] at h
 injection h with h
 exact ⟨true, true, s1, l1, e1, rfl, fun _ => rfl, fun _ => rfl, fun _ => hD.trans (congrArg some h), fun q => by cases q⟩
set_option maxHeartbeats 8000000 in
set_option maxRecDepth 100000 in
theorem dyad_Sub.calls (k : Nat) (a0_0 : Bool) (P0_1_ : Nat → Prop) (A0_1 : Option Addr) (c0_1 : Nat) (l0_1 : List Int) (a0_2 : Int) (a1_0 : Bool) (P1_1_ : Nat → Prop) (A1_1 : Option Addr) (c1_1 : Nat) (l1_1 : List Int) (a1_2 : Int) (r1 : Bool) (r2 : List Int) (r3 : Int) (r4 : Int) (w : World) (hs0_1 : Kd.V (Kd.int .u64) 43 w w.heap.size (fun k_ => P0_1_ k_) (.slice A0_1 l0_1.length c0_1) l0_1) (hs1_1 : Kd.V (Kd.int .u64) 43 w w.heap.size (fun k_ => P1_1_ k_) (.slice A1_1 l1_1.length c1_1) l1_1) (hT : Laid w) (h : dyad_Sub.f k a0_0 l0_1 a0_2 a1_0 l1_1 a1_2 = some (r1, r2, r3, r4)) :
  Calls Tryd.prog 40 #[.agg #[.bool a0_0, .slice A0_1 l0_1.length c0_1, .int .i64 a0_2], .agg #[.bool a1_0, .slice A1_1 l1_1.length c1_1, .int .i64 a1_2]] w fun e w' => ∃ v1_ : Value, e = .returned (.tuple #[.agg #[.bool r1, v1_, .int .i64 r3], .int .i64 r4]) ∧ Kd.V (Kd.int .u64) 43 w' w.heap.size (fun k_ => ((P0_1_ k_ ∨ P1_1_ k_) ∨ w.heap.size ≤ k_)) v1_ r2 ∧ Below w.heap.size w w' := by
 have hu25 := Tryd.underlying25
 have hmf : ∀ (fn : Fn) (first cap : Array Value) (w : World), (Instr.makeFunc fn first cap).run Tryd.prog w = .ok (.func fn first cap) w := fun _ _ _ _ => rfl
 have HB := zA (Below.refl w.heap.size w)
 have HT := zA hT
 have HV0 := zA (V_mono (ok' := fun k_ => (P0_1_ k_ ∨ P1_1_ k_) ∧ k_ < w.heap.size) (V_bound hs0_1) (fun k_ hk => ⟨.inl hk.1, hk.2⟩))
 have HV1 := zA (V_mono (ok' := fun k_ => (P0_1_ k_ ∨ P1_1_ k_) ∧ k_ < w.heap.size) (V_bound hs1_1) (fun k_ hk => ⟨.inr hk.1, hk.2⟩))
 have HK := zA (hand_Sub_key k a0_0 l0_1 a0_2 a1_0 l1_1 a1_2 r1 r2 r3 r4 h)
 clear hT h hs0_1 hs1_1
 go_enter Tryd.func40, Tryd.ntmps40
 have HK0 := HK.out
 clear HK
 obtain ⟨ra, rb, s1, l1, e1, hA, hB2, hC, hD, hE⟩ := HK0
 replace hA := zA hA
 replace hB2 := zA hB2
 replace hC := zA hC
 replace hD := zA hD
 replace hE := zA hE
 go_wp2_with (first | ((with_reducible refine zD 2 rfl ?_); refine zn (N := 2) (cs := #[.bool a0_0, .slice A0_1 l0_1.length c0_1, .int .i64 a0_2]) (t := 25) rfl rfl ?_; intro gB0 hg w1 hbox hb; have GB0 := zA (hg ▸ below_size HB.out : w.heap.size ≤ gB0); have m_HV0 := zA (V_below HV0.out hb); have m_HV1 := zA (V_below HV1.out hb); have m_HB := zA (below_step HB.out hb); clear HB hb HV0 HV1; have HV0 := m_HV0; have HV1 := m_HV1; have HB := m_HB; clear m_HV0 m_HV1 m_HB; have B0 := zA hbox; clear hbox hg) | ((with_reducible refine zD 3 rfl ?_); refine zn (N := 3) (cs := #[.bool a1_0, .slice A1_1 l1_1.length c1_1, .int .i64 a1_2]) (t := 25) rfl rfl ?_; intro gB1 hg w1 hbox hb; have GB1 := zA (hg ▸ below_size HB.out : w.heap.size ≤ gB1); have m_HV0 := zA (V_below HV0.out hb); have m_HV1 := zA (V_below HV1.out hb); have m_B0 := zA (blk_below B0.out hb); have m_HB := zA (below_step HB.out hb); clear HB hb HV0 HV1 B0; have HV0 := m_HV0; have HV1 := m_HV1; have B0 := m_B0; have HB := m_HB; clear m_HV0 m_HV1 m_B0 m_HB; have B1 := zA hbox; clear hbox hg) | ((with_reducible refine zD 4 rfl ?_); refine zn (N := 4) (cs := #[.bool false, .slice none 0 0, .int .i64 0]) (t := 25) rfl rfl ?_; intro gBR hg w1 hbox hb; have GBR := zA (hg ▸ below_size HB.out : w.heap.size ≤ gBR); have m_HV0 := zA (V_below HV0.out hb); have m_HV1 := zA (V_below HV1.out hb); have m_B0 := zA (blk_below B0.out hb); have m_B1 := zA (blk_below B1.out hb); have m_HB := zA (below_step HB.out hb); clear HB hb HV0 HV1 B0 B1; have HV0 := m_HV0; have HV1 := m_HV1; have B0 := m_B0; have B1 := m_B1; have HB := m_HB; clear m_HV0 m_HV1 m_B0 m_B1 m_HB; have BR := zA hbox; clear hbox hg; obtain ⟨_, _, _, _, _, _⟩ := zc B0; obtain ⟨_, _, _, _, _, _⟩ := zc B1; obtain ⟨_, _, _, _, _, _⟩ := zc BR) | ((with_reducible refine zD 9 rfl ?_); refine hand_slice_event (n := 2) ?hg (N := 9) ?hd (cs := #[.bool a0_0, .slice A0_1 l0_1.length c0_1, .int .i64 a0_2, .bool a1_0, .slice A1_1 l1_1.length c1_1, .int .i64 a1_2]) (t := 25) ?hr ?_; (case hd => rfl); (case hg => rfl); (case hr => first | (go_simp; done) | (go_simp; rfl)); intro gBS hg w1 hbox hb; have GBS := zA (hg ▸ below_size HB.out : w.heap.size ≤ gBS); have m_HV0 := zA (V_below HV0.out hb); have m_HV1 := zA (V_below HV1.out hb); have m_B0 := zA (blk_below B0.out hb); have m_B1 := zA (blk_below B1.out hb); have m_BR := zA (blk_below BR.out hb); have m_HB := zA (below_step HB.out hb); clear HB hb HV0 HV1 B0 B1 BR; have HV0 := m_HV0; have HV1 := m_HV1; have B0 := m_B0; have B1 := m_B1; have BR := m_BR; have HB := m_HB; clear m_HV0 m_HV1 m_B0 m_B1 m_BR m_HB; have BS := zA hbox; clear hbox hg; have LT := zA (blk_lt BR.out); have SZ := zA (below_size HB.out)) | ((with_reducible refine zG 60 rfl ?_); refine goesL_ (some 10) rfl rfl Tryd.func60 (by kernel_rfl) rfl #[.func (.func 89) #[] #[.pointer (some ⟨gB0, 0, none⟩), .pointer (some ⟨gB1, 0, none⟩)], .slice (some ⟨gBS, 0, none⟩) 2 2] rfl (by (try simp only [List.map_toArray, List.map_cons, List.map_nil]); first | done | rfl) ?_; refine (hand_of k _ (ra && rb) 89 _ #[] #[.pointer (some ⟨gB0, 0, none⟩), .pointer (some ⟨gB1, 0, none⟩)] Tryd.func89 (by kernel_rfl) rfl s1 l1 e1 r1 r2 r3 r4 (fun k_ => (P0_1_ k_ ∨ P1_1_ k_) ∧ k_ < w.heap.size) _ (fun w1 hb => (hand_contains _ _ w1 (hand_index2 k gBS a0_0 _ _ l0_1 a0_2 a1_0 _ _ l1_1 a1_2 ra rb w1 (blk_below BS.out hb) (V_reads' (V_below HV0.out hb)).2.2 (V_reads' HV0.out).2.1 (V_reads' (V_below HV1.out hb)).2.2 (V_reads' HV1.out).2.1 hA.out hB2.out)).mono (by rintro x w2 ⟨rfl, hb2⟩; exact ⟨by cases ra <;> cases rb <;> rfl, hb2⟩)) (fun hr w1 hb => calls_of_args (args' := #[.pointer (some ⟨gB0, 0, none⟩), .pointer (some ⟨gB1, 0, none⟩)]) (by simp) (hand_Sub_lit k gB0 a0_0 _ _ l0_1 a0_2 gB1 a1_0 _ _ l1_1 a1_2 (fun k_ => (P0_1_ k_ ∨ P1_1_ k_) ∧ k_ < w.heap.size) s1 l1 e1 w1 (blk_below B0.out hb) (V_below HV0.out hb) (blk_below B1.out hb) (V_below HV1.out hb) (fun k_ hk => Nat.lt_of_lt_of_le hk.2 (Nat.le_trans SZ.out hb.size)) (laid_below HT.out (below_step HB.out hb)) (hC.out hr))) hD.out (fun k_ hk => Nat.lt_of_lt_of_le hk.2 SZ.out) hE.out).mono ?_; rintro e w7 ⟨v7, rfl, hv, hb⟩; obtain ⟨A7, c7, rfl⟩ := V_slice hv; refine ⟨_, rfl, ?_⟩; have HVR := zA (V_mono hv (ok' := fun k_ => ((P0_1_ k_ ∨ P1_1_ k_) ∨ w.heap.size ≤ k_) ∧ k_ ≠ gBR) (fun k_ hk => by { have h1 := LT.out; have h3 := GBR.out; rcases hk with hk | hk; (exact ⟨.inl hk.1, by have h4 := hk.2; omega⟩); (exact ⟨.inr (by have h5 := SZ.out; omega), by omega⟩) })); have m_BR := zA (blk_below BR.out hb); have m_HB := zA (below_step HB.out hb); clear HB hb BR; have BR := m_BR; have HB := m_HB; clear m_BR m_HB; obtain ⟨_, _, _, _, _, _⟩ := zc BR))
 refine bodyPost_ret (results_ct rfl _ _ gBR 25 #[.bool r1, .slice A7 r2.length c7, .int .i64 r3] (0, 0) _ rfl (by refine blk_put (cs := #[.bool r1, .slice A7 r2.length c7, .int .i64 0]) ?_ 2 _ rfl; refine blk_put (cs := #[.bool r1, .slice none 0 0, .int .i64 0]) ?_ 1 _ rfl; refine blk_put (cs := #[.bool false, .slice none 0 0, .int .i64 0]) ?_ 0 _ rfl; exact BR.out) Tryd.underlying25 rfl (by kernel_rfl)) rfl ?_
 exact ⟨_, rfl, V_mono (V_far (p := ⟨gBR, 2, none⟩) (V_far (p := ⟨gBR, 1, none⟩) (V_far (p := ⟨gBR, 0, none⟩) HVR.out (fun _ hk => hk.2) (.bool r1)) (fun _ hk => hk.2) (.slice A7 r2.length c7)) (fun _ hk => hk.2) (.int .i64 r3)) (fun _ hk => hk.1), below_set (below_set (below_set HB.out GBR.out) GBR.out) GBR.out⟩
end Go.Proofs.YtemfckibdojbbaaDoor.PAll
