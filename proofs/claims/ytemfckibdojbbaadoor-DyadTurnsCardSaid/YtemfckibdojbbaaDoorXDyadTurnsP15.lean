/- Printed functions, merged by a program of this session. -/
import Derived.Test.YtemfckibdojbbaaDoorXDyadTurnsP0
import Derived.Test.YtemfckibdojbbaaDoorXDyadTurnsP2
import Derived.Test.YtemfckibdojbbaaDoorXDyadTurnsP1
import Derived.Test.YtemfckibdojbbaaDoorXDyadTurnsP14
import Derived.Laws.StructEq
import Derived.Test.YtemfckibdojbbaaDoorXDyadTurnsSh
namespace Go.Proofs.YtemfckibdojbbaaDoor.PAll
open Go.RowKit Go.Proofs.YtemfckibdojbbaaDoorW.PrintWords Go.Proofs.YtemfckibdojbbaaDoorW.PrintLast Go.Proofs.YtemfckibdojbbaaDoorW.PrintMore Go.Proofs.YtemfckibdojbbaaDoorW.PrintWords.Kd
attribute [local go_sem] max2_int min2_int max_two min_two max_three min_three max_four min_four   -- for this text's walks alone
set_option linter.unusedVariables false
set_option linter.unusedSimpArgs false
attribute [local go_sem] ext135 ext136
def raw_Neg.f (k : Nat) (a0_0 : Bool) (l0_1 : List Int) (a0_2 : Int) : Option (Bool × List Int × Int) := (raw_Form.f k (!a0_0) l0_1 a0_2).bind fun bt774 => (some (bt774.1, bt774.2.1, bt774.2.2))
set_option maxHeartbeats 8000000 in
set_option maxRecDepth 100000 in
theorem raw_Neg.calls (k : Nat) (a0_0 : Bool) (P0_1_ : Nat → Prop) (A0_1 : Option Addr) (c0_1 : Nat) (l0_1 : List Int) (a0_2 : Int) (r1 : Bool) (r2 : List Int) (r3 : Int) (w : World) (hs0_1 : Kd.V (Kd.int .u64) 43 w w.heap.size (fun k_ => P0_1_ k_) (.slice A0_1 l0_1.length c0_1) l0_1) (hT : Laid w) (h : raw_Neg.f k a0_0 l0_1 a0_2 = some (r1, r2, r3)) :
  Calls Tryd.prog 123 #[.agg #[.bool a0_0, .slice A0_1 l0_1.length c0_1, .int .i64 a0_2]] w fun e w' => ∃ v1_ : Value, e = .returned (.agg #[.bool r1, v1_, .int .i64 r3]) ∧ Kd.V (Kd.int .u64) 43 w' w.heap.size (fun k_ => (P0_1_ k_ ∨ w.heap.size ≤ k_)) v1_ r2 ∧ Below w.heap.size w w' := by
 have hu25 := Tryd.underlying25
 have HO0_1 := zA (show Kd.V (Kd.int .u64) 43 w w.heap.size (fun k_ => (P0_1_ k_ ∨ w.heap.size ≤ k_)) (.slice A0_1 l0_1.length c0_1) l0_1 from V_mono hs0_1 (fun k_ hk => .inl hk))
 have HB := zA (Below.refl w.heap.size w)
 have H : ((raw_Form.f k (!a0_0) l0_1 a0_2).bind fun bt774 => (some (bt774.1, bt774.2.1, bt774.2.2))) = some (r1, r2, r3) := h
 clear h
 obtain ⟨⟨t774, t775, t778⟩, A2, H⟩ := zh H
 (try dsimp only at H)
 simp only [Option.some.injEq, Prod.mk.injEq] at H
 obtain ⟨rfl, rfl, rfl⟩ := H
 go_enter Tryd.func123, Tryd.ntmps123
 go_wp2_with (first | ((with_reducible refine zD 1 rfl ?_); refine zn (N := 1) (cs := #[.bool a0_0, .slice A0_1 l0_1.length c0_1, .int .i64 a0_2]) (t := 25) rfl rfl ?_; intro gb772 hg w3 hbox hb; replace HO0_1 := zA (V_below (V_elderB (vu HO0_1.out) gb772 (Nat.le_of_eq hg.symm)) hb); have BK772 := zA (hbox); have GW772 := zw hg; replace HB := ze hb; clear hb hbox hg) | ((with_reducible refine zD 2 rfl ?_); refine zn (N := 2) (cs := #[.bool false, .slice none 0 0, .int .i64 0]) (t := 25) rfl rfl ?_; intro gb773 hg w4 hbox hb; replace HO0_1 := zA (V_below (V_elderB (vu HO0_1.out) gb773 (Nat.le_of_eq hg.symm)) hb); have BK773 := zA (hbox); have GW773 := zx hg; replace HB := zf hb; have NB772_773 := zl BK772 hg; have NB773_772 := zg BK772 hg; replace BK772 := zb BK772 hb; clear hb hbox hg; have hnb5 := NB772_773.out; have hnc5 := NB773_772.out; obtain ⟨_, _, _, _, _, _⟩ := zc BK772) | ((with_reducible refine zG 91 rfl ?_); refine zL (some 10) rfl rfl Tryd.func91 #[.bool (!a0_0), .slice A0_1 l0_1.length c0_1, .int .i64 a0_2] rfl ?_; (with_reducible refine (raw_Form.calls k (!a0_0) (fun k_ => (((P0_1_ k_ ∨ w.heap.size ≤ k_) ∧ k_ ≠ gb772) ∧ k_ ≠ gb773)) _ _ l0_1 a0_2 t774 t775 t778 _ ?side1 (laid_below hT zs) A2.out).mono ?_); (case side1 => exact HO0_1.out); rintro e w7 ⟨v776, rfl, ho0, hb⟩; refine ⟨_, rfl, ?_⟩; replace HO0_1 := zA (V_below (vu HO0_1.out) hb); have HO777 := zA (V_lower (V_mono (ok' := fun k_ => (P0_1_ k_ ∨ w.heap.size ≤ k_) ∧ k_ ≠ gb772 ∧ k_ ≠ gb773) ho0 (fun k_ hk_ => ⟨Or.elim hk_ (fun hs_ => hs_.1.1) (fun hn_ => (.inr (Nat.le_trans (below_size zs) hn_))), Or.elim hk_ (fun hs_ => hs_.1.2) (fun hn_ => (zj BK772 k_ hn_)), Or.elim hk_ (fun hs_ => hs_.2) (fun hn_ => (zj BK773 k_ hn_))⟩)) (below_size zs)); replace BK772 := zb BK772 hb; replace BK773 := zb BK773 hb; replace HB := zf hb; (try clear ho0); obtain ⟨hcz8_0, hcz8_1, hcz8_2, hfz8_0, hfz8_1, hfz8_2⟩ := zc BK773; obtain ⟨Ao9, co9, eo9⟩ := V_slice HO777.out; subst eo9))
 refine bodyPost_ret (results_cell_row rfl _ _ gb773 25 #[.bool t774, .slice Ao9 t775.length co9, .int .i64 t778] (0, 0) _ rfl (zy BK773) Tryd.underlying25 rfl (by kernel_rfl)) rfl ?_
 exact ⟨_, er, vu (V_mono (zv gb773 (V_mono HO777.out (fun k_ hk => (⟨hk, hk.2.2⟩ : _ ∧ k_ ≠ gb773))) (fun _ hk => hk.2) _ _ _) (fun _ hk => hk.1.1)), zs⟩
def dyad_number_turned.f (k : Nat) (a0_0 : Bool) (l0_1 : List Int) (a0_2 : Int) : Option (Bool × List Int × Int) := (raw_Neg.f k a0_0 l0_1 a0_2).bind fun bt781 => (some (bt781.1, bt781.2.1, bt781.2.2))
set_option maxHeartbeats 8000000 in
set_option maxRecDepth 100000 in
theorem dyad_number_turned.calls (k : Nat) (a0_0 : Bool) (P0_1_ : Nat → Prop) (A0_1 : Option Addr) (c0_1 : Nat) (l0_1 : List Int) (a0_2 : Int) (r1 : Bool) (r2 : List Int) (r3 : Int) (w : World) (hs0_1 : Kd.V (Kd.int .u64) 43 w w.heap.size (fun k_ => P0_1_ k_) (.slice A0_1 l0_1.length c0_1) l0_1) (hT : Laid w) (h : dyad_number_turned.f k a0_0 l0_1 a0_2 = some (r1, r2, r3)) :
  Calls Tryd.prog 75 #[.agg #[.bool a0_0, .slice A0_1 l0_1.length c0_1, .int .i64 a0_2]] w fun e w' => ∃ v1_ : Value, e = .returned (.agg #[.bool r1, v1_, .int .i64 r3]) ∧ Kd.V (Kd.int .u64) 43 w' w.heap.size (fun k_ => (P0_1_ k_ ∨ w.heap.size ≤ k_)) v1_ r2 ∧ Below w.heap.size w w' := by
 have hu64 := Tryd.underlying64
 have hu25 := Tryd.underlying25
 have HO0_1 := zA (show Kd.V (Kd.int .u64) 43 w w.heap.size (fun k_ => (P0_1_ k_ ∨ w.heap.size ≤ k_)) (.slice A0_1 l0_1.length c0_1) l0_1 from V_mono hs0_1 (fun k_ hk => .inl hk))
 have HB := zA (Below.refl w.heap.size w)
 have H : ((raw_Neg.f k a0_0 l0_1 a0_2).bind fun bt781 => (some (bt781.1, bt781.2.1, bt781.2.2))) = some (r1, r2, r3) := h
 clear h
 obtain ⟨⟨t781, t782, t785⟩, A2, H⟩ := zh H
 (try dsimp only at H)
 simp only [Option.some.injEq, Prod.mk.injEq] at H
 obtain ⟨rfl, rfl, rfl⟩ := H
 go_enter Tryd.func75, Tryd.ntmps75
 go_wp2_with (first | ((with_reducible refine zD 1 rfl ?_); refine zn (N := 1) (cs := #[.bool a0_0, .slice A0_1 l0_1.length c0_1, .int .i64 a0_2]) (t := 64) rfl rfl ?_; intro gb779 hg w3 hbox hb; replace HO0_1 := zA (V_below (V_elderB (vu HO0_1.out) gb779 (Nat.le_of_eq hg.symm)) hb); have BK779 := zA (hbox); have GW779 := zw hg; replace HB := ze hb; clear hb hbox hg) | ((with_reducible refine zD 2 rfl ?_); refine zn (N := 2) (cs := #[.bool false, .slice none 0 0, .int .i64 0]) (t := 25) rfl rfl ?_; intro gb780 hg w4 hbox hb; replace HO0_1 := zA (V_below (V_elderB (vu HO0_1.out) gb780 (Nat.le_of_eq hg.symm)) hb); have BK780 := zA (hbox); have GW780 := zx hg; replace HB := zf hb; have NB779_780 := zl BK779 hg; have NB780_779 := zg BK779 hg; replace BK779 := zb BK779 hb; clear hb hbox hg; have hnb5 := NB779_780.out; have hnc5 := NB780_779.out; obtain ⟨_, _, _, _, _, _⟩ := zc BK779) | ((with_reducible refine zG 123 rfl ?_); refine zL (some 4) rfl rfl Tryd.func123 #[.agg #[.bool a0_0, .slice A0_1 l0_1.length c0_1, .int .i64 a0_2]] rfl ?_; (with_reducible refine (raw_Neg.calls k a0_0 (fun k_ => (((P0_1_ k_ ∨ w.heap.size ≤ k_) ∧ k_ ≠ gb779) ∧ k_ ≠ gb780)) _ _ l0_1 a0_2 t781 t782 t785 _ ?side1 (laid_below hT zs) A2.out).mono ?_); (case side1 => exact HO0_1.out); rintro e w7 ⟨v783, rfl, ho0, hb⟩; refine ⟨_, rfl, ?_⟩; replace HO0_1 := zA (V_below (vu HO0_1.out) hb); have HO784 := zA (V_lower (V_mono (ok' := fun k_ => (P0_1_ k_ ∨ w.heap.size ≤ k_) ∧ k_ ≠ gb779 ∧ k_ ≠ gb780) ho0 (fun k_ hk_ => ⟨Or.elim hk_ (fun hs_ => hs_.1.1) (fun hn_ => (.inr (Nat.le_trans (below_size zs) hn_))), Or.elim hk_ (fun hs_ => hs_.1.2) (fun hn_ => (zj BK779 k_ hn_)), Or.elim hk_ (fun hs_ => hs_.2) (fun hn_ => (zj BK780 k_ hn_))⟩)) (below_size zs)); replace BK779 := zb BK779 hb; replace BK780 := zb BK780 hb; replace HB := zf hb; (try clear ho0); obtain ⟨hcz8_0, hcz8_1, hcz8_2, hfz8_0, hfz8_1, hfz8_2⟩ := zc BK780; obtain ⟨Ao9, co9, eo9⟩ := V_slice HO784.out; subst eo9))
 refine bodyPost_ret (results_cell_row rfl _ _ gb780 25 #[.bool t781, .slice Ao9 t782.length co9, .int .i64 t785] (0, 0) _ rfl (zy BK780) Tryd.underlying25 rfl (by kernel_rfl)) rfl ?_
 exact ⟨_, er, vu (V_mono (zv gb780 (V_mono HO784.out (fun k_ hk => (⟨hk, hk.2.2⟩ : _ ∧ k_ ≠ gb780))) (fun _ hk => hk.2) _ _ _) (fun _ hk => hk.1.1)), zs⟩
def dyad_Neg.f (k : Nat) (a0_0 : Bool) (l0_1 : List Int) (a0_2 : Int) : Option (Bool × List Int × Int × Int) := (dyad_number_right.f k a0_0 l0_1 a0_2).bind fun t788 => (if t788 = true then ((dyad_number_turned.f k a0_0 l0_1 a0_2).bind fun bt789 => ((dyad_room.f k bt789.1 bt789.2.1 bt789.2.2).bind fun bt794 => (some (bt794.1, bt794.2.1, bt794.2.2.1, bt794.2.2.2)))) else (some (false, ([] : List Int), 0, 2)))
theorem hand_Neg_key (k : Nat) (a0_0 : Bool) (l0_1 : List Int) (a0_2 : Int) (r1 : Bool) (r2 : List Int) (r3 r4 : Int) (h : dyad_Neg.f k a0_0 l0_1 a0_2 = some (r1, r2, r3, r4)) :
  ∃ ra s1 l1 e1, dyad_number_right.f k a0_0 l0_1 a0_2 = some ra ∧ ((ra) = true → dyad_number_turned.f k a0_0 l0_1 a0_2 = some (s1, l1, e1)) ∧ ((ra) = true → dyad_room.f k s1 l1 e1 = some (r1, r2, r3, r4)) ∧ ((ra) = false → (r1, r2, r3, r4) = (false, ([] : List Int), (0 : Int), (2 : Int))) := by
 unfold dyad_Neg.f at h
 cases hA : dyad_number_right.f k a0_0 l0_1 a0_2 with
 | none => rw [hA] at h; cases h
 | some ra =>
 rw [hA] at h
 replace h : (if ra = true then _ else _) = _ := h
 cases ra with
 | false => rw [if_neg (by decide)] at h; injection h with h; exact ⟨false, false, [], 0, rfl, (fun q => by cases q), (fun q => by cases q), fun _ => h.symm⟩
 | true =>
 rw [if_pos rfl] at h
 cases hC : dyad_number_turned.f k a0_0 l0_1 a0_2 with
 | none => rw [hC] at h; cases h
 | some t =>
 obtain ⟨s1, l1, e1⟩ := t
 rw [hC] at h
 replace h : (dyad_room.f k s1 l1 e1).bind _ = _ := h
 cases hD : dyad_room.f k s1 l1 e1 with
 | none => rw [hD] at h; cases h
 | some q =>
 obtain ⟨q1, q2, q3, q4⟩ := q
 rw [hD] at h
 injection h with h
 exact ⟨true, s1, l1, e1, rfl, fun _ => rfl, fun _ => hD.trans (congrArg some h), fun q => by cases q⟩
set_option maxHeartbeats 8000000 in
set_option maxRecDepth 100000 in
theorem dyad_Neg.calls (k : Nat) (a0_0 : Bool) (P0_1_ : Nat → Prop) (A0_1 : Option Addr) (c0_1 : Nat) (l0_1 : List Int) (a0_2 : Int) (r1 : Bool) (r2 : List Int) (r3 : Int) (r4 : Int) (w : World) (hs0_1 : Kd.V (Kd.int .u64) 43 w w.heap.size (fun k_ => P0_1_ k_) (.slice A0_1 l0_1.length c0_1) l0_1) (hT : Laid w) (h : dyad_Neg.f k a0_0 l0_1 a0_2 = some (r1, r2, r3, r4)) :
  Calls Tryd.prog 28 #[.agg #[.bool a0_0, .slice A0_1 l0_1.length c0_1, .int .i64 a0_2]] w fun e w' => ∃ v1_ : Value, e = .returned (.tuple #[.agg #[.bool r1, v1_, .int .i64 r3], .int .i64 r4]) ∧ Kd.V (Kd.int .u64) 43 w' w.heap.size (fun k_ => (P0_1_ k_ ∨ w.heap.size ≤ k_)) v1_ r2 ∧ Below w.heap.size w w' := by
 have hu25 := Tryd.underlying25
 have hmf : ∀ (fn : Fn) (first cap : Array Value) (w : World), (Instr.makeFunc fn first cap).run Tryd.prog w = .ok (.func fn first cap) w := fun _ _ _ _ => rfl
 have HB := zA (Below.refl w.heap.size w)
 have HT := zA hT
 have HV0 := zA (V_mono (ok' := fun k_ => (P0_1_ k_) ∧ k_ < w.heap.size) (V_bound hs0_1) (fun k_ hk => ⟨hk.1, hk.2⟩))
 have HK := zA (hand_Neg_key k a0_0 l0_1 a0_2 r1 r2 r3 r4 h)
 clear hT h hs0_1
 go_enter Tryd.func28, Tryd.ntmps28
 have HK0 := HK.out
 clear HK
 obtain ⟨ra, s1, l1, e1, hA, hC, hD, hE⟩ := HK0
 replace hA := zA hA
 replace hC := zA hC
 replace hD := zA hD
 replace hE := zA hE
 go_wp2_with (first | ((with_reducible refine zD 1 rfl ?_); refine zn (N := 1) (cs := #[.bool a0_0, .slice A0_1 l0_1.length c0_1, .int .i64 a0_2]) (t := 25) rfl rfl ?_; intro gB0 hg w1 hbox hb; have GB0 := zA (hg ▸ below_size HB.out : w.heap.size ≤ gB0); have m_HV0 := zA (V_below HV0.out hb); have m_HB := zA (below_step HB.out hb); clear HB hb HV0; have HV0 := m_HV0; have HB := m_HB; clear m_HV0 m_HB; have B0 := zA hbox; clear hbox hg) | ((with_reducible refine zD 2 rfl ?_); refine zn (N := 2) (cs := #[.bool false, .slice none 0 0, .int .i64 0]) (t := 25) rfl rfl ?_; intro gBR hg w1 hbox hb; have GBR := zA (hg ▸ below_size HB.out : w.heap.size ≤ gBR); have m_HV0 := zA (V_below HV0.out hb); have m_B0 := zA (blk_below B0.out hb); have m_HB := zA (below_step HB.out hb); clear HB hb HV0 B0; have HV0 := m_HV0; have B0 := m_B0; have HB := m_HB; clear m_HV0 m_B0 m_HB; have BR := zA hbox; clear hbox hg; obtain ⟨_, _, _, _, _, _⟩ := zc B0; obtain ⟨_, _, _, _, _, _⟩ := zc BR) | ((with_reducible refine zD 7 rfl ?_); refine hand_slice_event (n := 1) ?hg (N := 7) ?hd (cs := #[.bool a0_0, .slice A0_1 l0_1.length c0_1, .int .i64 a0_2]) (t := 25) ?hr ?_; (case hd => rfl); (case hg => rfl); (case hr => first | (go_simp; done) | (go_simp; rfl)); intro gBS hg w1 hbox hb; have GBS := zA (hg ▸ below_size HB.out : w.heap.size ≤ gBS); have m_HV0 := zA (V_below HV0.out hb); have m_B0 := zA (blk_below B0.out hb); have m_BR := zA (blk_below BR.out hb); have m_HB := zA (below_step HB.out hb); clear HB hb HV0 B0 BR; have HV0 := m_HV0; have B0 := m_B0; have BR := m_BR; have HB := m_HB; clear m_HV0 m_B0 m_BR m_HB; have BS := zA hbox; clear hbox hg; have LT := zA (blk_lt BR.out); have SZ := zA (below_size HB.out)) | ((with_reducible refine zG 60 rfl ?_); refine goesL_ (some 8) rfl rfl Tryd.func60 (by kernel_rfl) rfl #[.func (.func 75) #[.agg #[.bool a0_0, .slice A0_1 l0_1.length c0_1, .int .i64 a0_2]] #[], .slice (some ⟨gBS, 0, none⟩) 1 1] rfl (by (try simp only [List.map_toArray, List.map_cons, List.map_nil]); first | done | rfl) ?_; refine (hand_of k _ (ra) 75 _ #[.agg #[.bool a0_0, .slice A0_1 l0_1.length c0_1, .int .i64 a0_2]] #[] Tryd.func75 (by kernel_rfl) rfl s1 l1 e1 r1 r2 r3 r4 (fun k_ => (P0_1_ k_) ∧ k_ < w.heap.size) _ (fun w1 hb => (hand_contains _ _ w1 (hand_index1 k gBS a0_0 _ _ l0_1 a0_2 ra w1 (blk_below BS.out hb) (V_reads' (V_below HV0.out hb)).2.2 (V_reads' HV0.out).2.1 hA.out)).mono (by rintro x w2 ⟨rfl, hb2⟩; exact ⟨by cases ra <;> rfl, hb2⟩)) (fun hr w1 hb => calls_of_args (args' := #[.agg #[.bool a0_0, .slice A0_1 l0_1.length c0_1, .int .i64 a0_2]]) (by simp) (dyad_number_turned.calls k a0_0 (fun k_ => (P0_1_ k_) ∧ k_ < w.heap.size) _ _ l0_1 a0_2 s1 l1 e1 w1 (V_below HV0.out hb) (laid_below HT.out (below_step HB.out hb)) (hC.out hr))) hD.out (fun k_ hk => Nat.lt_of_lt_of_le hk.2 SZ.out) hE.out).mono ?_; rintro e w7 ⟨v7, rfl, hv, hb⟩; obtain ⟨A7, c7, rfl⟩ := V_slice hv; refine ⟨_, rfl, ?_⟩; have HVR := zA (V_mono hv (ok' := fun k_ => ((P0_1_ k_) ∨ w.heap.size ≤ k_) ∧ k_ ≠ gBR) (fun k_ hk => by { have h1 := LT.out; have h3 := GBR.out; rcases hk with hk | hk; (exact ⟨.inl hk.1, by have h4 := hk.2; omega⟩); (exact ⟨.inr (by have h5 := SZ.out; omega), by omega⟩) })); have m_BR := zA (blk_below BR.out hb); have m_HB := zA (below_step HB.out hb); clear HB hb BR; have BR := m_BR; have HB := m_HB; clear m_BR m_HB; obtain ⟨_, _, _, _, _, _⟩ := zc BR))
 refine bodyPost_ret (results_ct rfl _ _ gBR 25 #[.bool r1, .slice A7 r2.length c7, .int .i64 r3] (0, 0) _ rfl (by refine blk_put (cs := #[.bool r1, .slice A7 r2.length c7, .int .i64 0]) ?_ 2 _ rfl; refine blk_put (cs := #[.bool r1, .slice none 0 0, .int .i64 0]) ?_ 1 _ rfl; refine blk_put (cs := #[.bool false, .slice none 0 0, .int .i64 0]) ?_ 0 _ rfl; exact BR.out) Tryd.underlying25 rfl (by kernel_rfl)) rfl ?_
 exact ⟨_, rfl, V_mono (V_far (p := ⟨gBR, 2, none⟩) (V_far (p := ⟨gBR, 1, none⟩) (V_far (p := ⟨gBR, 0, none⟩) HVR.out (fun _ hk => hk.2) (.bool r1)) (fun _ hk => hk.2) (.slice A7 r2.length c7)) (fun _ hk => hk.2) (.int .i64 r3)) (fun _ hk => hk.1), below_set (below_set (below_set HB.out GBR.out) GBR.out) GBR.out⟩
def ulpref04_Neg.f (k : Nat) (a0_0 : Bool) (l0_1 : List Int) (a0_2 : Int) : Option (Bool × List Int × Int) := (ulpref04_Form.f k (!a0_0) l0_1 a0_2).bind fun bt802 => (some (bt802.1, bt802.2.1, bt802.2.2))
set_option maxHeartbeats 8000000 in
set_option maxRecDepth 100000 in
theorem ulpref04_Neg.calls (k : Nat) (a0_0 : Bool) (A0_1 : Option Addr) (c0_1 : Nat) (l0_1 : List Int) (a0_2 : Int) (r1 : Bool) (r2 : List Int) (r3 : Int) (w : World) (hr0_1 : Kd.C (Kd.int .u64) w A0_1 l0_1.length l0_1) (hc0_1 : l0_1.length ≤ c0_1) (h : ulpref04_Neg.f k a0_0 l0_1 a0_2 = some (r1, r2, r3)) :
  Calls Tryd.prog 29 #[.agg #[.bool a0_0, .slice A0_1 l0_1.length c0_1, .int .i64 a0_2]] w fun e w' => ∃ v1_ : Value, e = .returned (.agg #[.bool r1, v1_, .int .i64 r3]) ∧ Kd.R (Kd.int .u64) 43 w' w.heap.size (fun _ => True) v1_ r2 ∧ Below w.heap.size w w' := by
 have hu25 := Tryd.underlying25
 have HR0_1 := zA hr0_1
 have HC0_1 := zA hc0_1
 clear hr0_1 hc0_1
 have HB := zA (Below.refl w.heap.size w)
 have H : ((ulpref04_Form.f k (!a0_0) l0_1 a0_2).bind fun bt802 => (some (bt802.1, bt802.2.1, bt802.2.2))) = some (r1, r2, r3) := h
 clear h
 obtain ⟨⟨t802, t803, t806⟩, A2, H⟩ := zh H
 (try dsimp only at H)
 simp only [Option.some.injEq, Prod.mk.injEq] at H
 obtain ⟨rfl, rfl, rfl⟩ := H
 go_enter Tryd.func29, Tryd.ntmps29
 go_wp2_with (first | ((with_reducible refine zD 1 rfl ?_); refine zn (N := 1) (cs := #[.bool a0_0, .slice A0_1 l0_1.length c0_1, .int .i64 a0_2]) (t := 25) rfl rfl ?_; intro gb800 hg w3 hbox hb; have BK800 := zA (hbox); have GW800 := zw hg; replace HB := ze hb; clear hb hbox hg) | ((with_reducible refine zD 2 rfl ?_); refine zn (N := 2) (cs := #[.bool false, .slice none 0 0, .int .i64 0]) (t := 25) rfl rfl ?_; intro gb801 hg w4 hbox hb; have BK801 := zA (hbox); have GW801 := zx hg; replace HB := zf hb; have NB800_801 := zl BK800 hg; have NB801_800 := zg BK800 hg; replace BK800 := zb BK800 hb; clear hb hbox hg; have hnb5 := NB800_801.out; have hnc5 := NB801_800.out; obtain ⟨_, _, _, _, _, _⟩ := zc BK800) | ((with_reducible refine zG 76 rfl ?_); refine zL (some 10) rfl rfl Tryd.func76 #[.bool (!a0_0), .slice A0_1 l0_1.length c0_1, .int .i64 a0_2] rfl ?_; (with_reducible refine (ulpref04_Form.calls k (!a0_0) _ _ l0_1 a0_2 t802 t803 t806 _ ?side1 ?side2 A2.out).mono ?_); (case side1 => exact zk (C_below HR0_1.out HB.out)); (case side2 => exact HC0_1.out); rintro e w7 ⟨v804, rfl, ho0, hb⟩; refine ⟨_, rfl, ?_⟩; have HO805 := zA (R_lower ho0 (below_size zs)); replace BK800 := zb BK800 hb; replace BK801 := zb BK801 hb; replace HB := zf hb; (try clear ho0); obtain ⟨hcz8_0, hcz8_1, hcz8_2, hfz8_0, hfz8_1, hfz8_2⟩ := zc BK801; obtain ⟨Ao9, co9, eo9⟩ := R_slice HO805.out; subst eo9))
 refine bodyPost_ret (results_cell_row rfl _ _ gb801 25 #[.bool t802, .slice Ao9 t803.length co9, .int .i64 t806] (0, 0) _ rfl (zy BK801) Tryd.underlying25 rfl (by kernel_rfl)) rfl ?_
 exact ⟨_, er, ru (R_mono (zr gb801 (R_types HO805.out BK801.out (by decide)) (fun _ hk => hk.2) _ _ _) (fun _ hk => trivial)), zs⟩
def raw_Abs.f (k : Nat) (a0_0 : Bool) (l0_1 : List Int) (a0_2 : Int) : Option (Bool × List Int × Int) := (raw_Form.f k false l0_1 a0_2).bind fun bt809 => (some (bt809.1, bt809.2.1, bt809.2.2))
set_option maxHeartbeats 8000000 in
set_option maxRecDepth 100000 in
theorem raw_Abs.calls (k : Nat) (a0_0 : Bool) (P0_1_ : Nat → Prop) (A0_1 : Option Addr) (c0_1 : Nat) (l0_1 : List Int) (a0_2 : Int) (r1 : Bool) (r2 : List Int) (r3 : Int) (w : World) (hs0_1 : Kd.V (Kd.int .u64) 43 w w.heap.size (fun k_ => P0_1_ k_) (.slice A0_1 l0_1.length c0_1) l0_1) (hT : Laid w) (h : raw_Abs.f k a0_0 l0_1 a0_2 = some (r1, r2, r3)) :
  Calls Tryd.prog 126 #[.agg #[.bool a0_0, .slice A0_1 l0_1.length c0_1, .int .i64 a0_2]] w fun e w' => ∃ v1_ : Value, e = .returned (.agg #[.bool r1, v1_, .int .i64 r3]) ∧ Kd.V (Kd.int .u64) 43 w' w.heap.size (fun k_ => (P0_1_ k_ ∨ w.heap.size ≤ k_)) v1_ r2 ∧ Below w.heap.size w w' := by
 have hu25 := Tryd.underlying25
 have HO0_1 := zA (show Kd.V (Kd.int .u64) 43 w w.heap.size (fun k_ => (P0_1_ k_ ∨ w.heap.size ≤ k_)) (.slice A0_1 l0_1.length c0_1) l0_1 from V_mono hs0_1 (fun k_ hk => .inl hk))
 have HB := zA (Below.refl w.heap.size w)
 have H : ((raw_Form.f k false l0_1 a0_2).bind fun bt809 => (some (bt809.1, bt809.2.1, bt809.2.2))) = some (r1, r2, r3) := h
 clear h
 obtain ⟨⟨t809, t810, t813⟩, A2, H⟩ := zh H
 (try dsimp only at H)
 simp only [Option.some.injEq, Prod.mk.injEq] at H
 obtain ⟨rfl, rfl, rfl⟩ := H
 go_enter Tryd.func126, Tryd.ntmps126
 go_wp2_with (first | ((with_reducible refine zD 1 rfl ?_); refine zn (N := 1) (cs := #[.bool a0_0, .slice A0_1 l0_1.length c0_1, .int .i64 a0_2]) (t := 25) rfl rfl ?_; intro gb807 hg w3 hbox hb; replace HO0_1 := zA (V_below (V_elderB (vu HO0_1.out) gb807 (Nat.le_of_eq hg.symm)) hb); have BK807 := zA (hbox); have GW807 := zw hg; replace HB := ze hb; clear hb hbox hg) | ((with_reducible refine zD 2 rfl ?_); refine zn (N := 2) (cs := #[.bool false, .slice none 0 0, .int .i64 0]) (t := 25) rfl rfl ?_; intro gb808 hg w4 hbox hb; replace HO0_1 := zA (V_below (V_elderB (vu HO0_1.out) gb808 (Nat.le_of_eq hg.symm)) hb); have BK808 := zA (hbox); have GW808 := zx hg; replace HB := zf hb; have NB807_808 := zl BK807 hg; have NB808_807 := zg BK807 hg; replace BK807 := zb BK807 hb; clear hb hbox hg; have hnb5 := NB807_808.out; have hnc5 := NB808_807.out; obtain ⟨_, _, _, _, _, _⟩ := zc BK807) | ((with_reducible refine zG 91 rfl ?_); refine zL (some 7) rfl rfl Tryd.func91 #[.bool false, .slice A0_1 l0_1.length c0_1, .int .i64 a0_2] rfl ?_; (with_reducible refine (raw_Form.calls k false (fun k_ => (((P0_1_ k_ ∨ w.heap.size ≤ k_) ∧ k_ ≠ gb807) ∧ k_ ≠ gb808)) _ _ l0_1 a0_2 t809 t810 t813 _ ?side1 (laid_below hT zs) A2.out).mono ?_); (case side1 => exact HO0_1.out); rintro e w7 ⟨v811, rfl, ho0, hb⟩; refine ⟨_, rfl, ?_⟩; replace HO0_1 := zA (V_below (vu HO0_1.out) hb); have HO812 := zA (V_lower (V_mono (ok' := fun k_ => (P0_1_ k_ ∨ w.heap.size ≤ k_) ∧ k_ ≠ gb807 ∧ k_ ≠ gb808) ho0 (fun k_ hk_ => ⟨Or.elim hk_ (fun hs_ => hs_.1.1) (fun hn_ => (.inr (Nat.le_trans (below_size zs) hn_))), Or.elim hk_ (fun hs_ => hs_.1.2) (fun hn_ => (zj BK807 k_ hn_)), Or.elim hk_ (fun hs_ => hs_.2) (fun hn_ => (zj BK808 k_ hn_))⟩)) (below_size zs)); replace BK807 := zb BK807 hb; replace BK808 := zb BK808 hb; replace HB := zf hb; (try clear ho0); obtain ⟨hcz8_0, hcz8_1, hcz8_2, hfz8_0, hfz8_1, hfz8_2⟩ := zc BK808; obtain ⟨Ao9, co9, eo9⟩ := V_slice HO812.out; subst eo9))
 refine bodyPost_ret (results_cell_row rfl _ _ gb808 25 #[.bool t809, .slice Ao9 t810.length co9, .int .i64 t813] (0, 0) _ rfl (zy BK808) Tryd.underlying25 rfl (by kernel_rfl)) rfl ?_
 exact ⟨_, er, vu (V_mono (zv gb808 (V_mono HO812.out (fun k_ hk => (⟨hk, hk.2.2⟩ : _ ∧ k_ ≠ gb808))) (fun _ hk => hk.2) _ _ _) (fun _ hk => hk.1.1)), zs⟩
def dyad_number_amount.f (k : Nat) (a0_0 : Bool) (l0_1 : List Int) (a0_2 : Int) : Option (Bool × List Int × Int) := (raw_Abs.f k a0_0 l0_1 a0_2).bind fun bt816 => (some (bt816.1, bt816.2.1, bt816.2.2))
set_option maxHeartbeats 8000000 in
set_option maxRecDepth 100000 in
theorem dyad_number_amount.calls (k : Nat) (a0_0 : Bool) (P0_1_ : Nat → Prop) (A0_1 : Option Addr) (c0_1 : Nat) (l0_1 : List Int) (a0_2 : Int) (r1 : Bool) (r2 : List Int) (r3 : Int) (w : World) (hs0_1 : Kd.V (Kd.int .u64) 43 w w.heap.size (fun k_ => P0_1_ k_) (.slice A0_1 l0_1.length c0_1) l0_1) (hT : Laid w) (h : dyad_number_amount.f k a0_0 l0_1 a0_2 = some (r1, r2, r3)) :
  Calls Tryd.prog 77 #[.agg #[.bool a0_0, .slice A0_1 l0_1.length c0_1, .int .i64 a0_2]] w fun e w' => ∃ v1_ : Value, e = .returned (.agg #[.bool r1, v1_, .int .i64 r3]) ∧ Kd.V (Kd.int .u64) 43 w' w.heap.size (fun k_ => (P0_1_ k_ ∨ w.heap.size ≤ k_)) v1_ r2 ∧ Below w.heap.size w w' := by
 have hu64 := Tryd.underlying64
 have hu25 := Tryd.underlying25
 have HO0_1 := zA (show Kd.V (Kd.int .u64) 43 w w.heap.size (fun k_ => (P0_1_ k_ ∨ w.heap.size ≤ k_)) (.slice A0_1 l0_1.length c0_1) l0_1 from V_mono hs0_1 (fun k_ hk => .inl hk))
 have HB := zA (Below.refl w.heap.size w)
 have H : ((raw_Abs.f k a0_0 l0_1 a0_2).bind fun bt816 => (some (bt816.1, bt816.2.1, bt816.2.2))) = some (r1, r2, r3) := h
 clear h
 obtain ⟨⟨t816, t817, t820⟩, A2, H⟩ := zh H
 (try dsimp only at H)
 simp only [Option.some.injEq, Prod.mk.injEq] at H
 obtain ⟨rfl, rfl, rfl⟩ := H
 go_enter Tryd.func77, Tryd.ntmps77
 go_wp2_with (first | ((with_reducible refine zD 1 rfl ?_); refine zn (N := 1) (cs := #[.bool a0_0, .slice A0_1 l0_1.length c0_1, .int .i64 a0_2]) (t := 64) rfl rfl ?_; intro gb814 hg w3 hbox hb; replace HO0_1 := zA (V_below (V_elderB (vu HO0_1.out) gb814 (Nat.le_of_eq hg.symm)) hb); have BK814 := zA (hbox); have GW814 := zw hg; replace HB := ze hb; clear hb hbox hg) | ((with_reducible refine zD 2 rfl ?_); refine zn (N := 2) (cs := #[.bool false, .slice none 0 0, .int .i64 0]) (t := 25) rfl rfl ?_; intro gb815 hg w4 hbox hb; replace HO0_1 := zA (V_below (V_elderB (vu HO0_1.out) gb815 (Nat.le_of_eq hg.symm)) hb); have BK815 := zA (hbox); have GW815 := zx hg; replace HB := zf hb; have NB814_815 := zl BK814 hg; have NB815_814 := zg BK814 hg; replace BK814 := zb BK814 hb; clear hb hbox hg; have hnb5 := NB814_815.out; have hnc5 := NB815_814.out; obtain ⟨_, _, _, _, _, _⟩ := zc BK814) | ((with_reducible refine zG 126 rfl ?_); refine zL (some 4) rfl rfl Tryd.func126 #[.agg #[.bool a0_0, .slice A0_1 l0_1.length c0_1, .int .i64 a0_2]] rfl ?_; (with_reducible refine (raw_Abs.calls k a0_0 (fun k_ => (((P0_1_ k_ ∨ w.heap.size ≤ k_) ∧ k_ ≠ gb814) ∧ k_ ≠ gb815)) _ _ l0_1 a0_2 t816 t817 t820 _ ?side1 (laid_below hT zs) A2.out).mono ?_); (case side1 => exact HO0_1.out); rintro e w7 ⟨v818, rfl, ho0, hb⟩; refine ⟨_, rfl, ?_⟩; replace HO0_1 := zA (V_below (vu HO0_1.out) hb); have HO819 := zA (V_lower (V_mono (ok' := fun k_ => (P0_1_ k_ ∨ w.heap.size ≤ k_) ∧ k_ ≠ gb814 ∧ k_ ≠ gb815) ho0 (fun k_ hk_ => ⟨Or.elim hk_ (fun hs_ => hs_.1.1) (fun hn_ => (.inr (Nat.le_trans (below_size zs) hn_))), Or.elim hk_ (fun hs_ => hs_.1.2) (fun hn_ => (zj BK814 k_ hn_)), Or.elim hk_ (fun hs_ => hs_.2) (fun hn_ => (zj BK815 k_ hn_))⟩)) (below_size zs)); replace BK814 := zb BK814 hb; replace BK815 := zb BK815 hb; replace HB := zf hb; (try clear ho0); obtain ⟨hcz8_0, hcz8_1, hcz8_2, hfz8_0, hfz8_1, hfz8_2⟩ := zc BK815; obtain ⟨Ao9, co9, eo9⟩ := V_slice HO819.out; subst eo9))
 refine bodyPost_ret (results_cell_row rfl _ _ gb815 25 #[.bool t816, .slice Ao9 t817.length co9, .int .i64 t820] (0, 0) _ rfl (zy BK815) Tryd.underlying25 rfl (by kernel_rfl)) rfl ?_
 exact ⟨_, er, vu (V_mono (zv gb815 (V_mono HO819.out (fun k_ hk => (⟨hk, hk.2.2⟩ : _ ∧ k_ ≠ gb815))) (fun _ hk => hk.2) _ _ _) (fun _ hk => hk.1.1)), zs⟩
def dyad_Abs.f (k : Nat) (a0_0 : Bool) (l0_1 : List Int) (a0_2 : Int) : Option (Bool × List Int × Int × Int) := (dyad_number_right.f k a0_0 l0_1 a0_2).bind fun t823 => (if t823 = true then ((dyad_number_amount.f k a0_0 l0_1 a0_2).bind fun bt824 => ((dyad_room.f k bt824.1 bt824.2.1 bt824.2.2).bind fun bt829 => (some (bt829.1, bt829.2.1, bt829.2.2.1, bt829.2.2.2)))) else (some (false, ([] : List Int), 0, 2)))
theorem hand_Abs_key (k : Nat) (a0_0 : Bool) (l0_1 : List Int) (a0_2 : Int) (r1 : Bool) (r2 : List Int) (r3 r4 : Int) (h : dyad_Abs.f k a0_0 l0_1 a0_2 = some (r1, r2, r3, r4)) :
  ∃ ra s1 l1 e1, dyad_number_right.f k a0_0 l0_1 a0_2 = some ra ∧ ((ra) = true → dyad_number_amount.f k a0_0 l0_1 a0_2 = some (s1, l1, e1)) ∧ ((ra) = true → dyad_room.f k s1 l1 e1 = some (r1, r2, r3, r4)) ∧ ((ra) = false → (r1, r2, r3, r4) = (false, ([] : List Int), (0 : Int), (2 : Int))) := by
 unfold dyad_Abs.f at h
 cases hA : dyad_number_right.f k a0_0 l0_1 a0_2 with
 | none => rw [hA] at h; cases h
 | some ra =>
 rw [hA] at h
 replace h : (if ra = true then _ else _) = _ := h
 cases ra with
 | false => rw [if_neg (by decide)] at h; injection h with h; exact ⟨false, false, [], 0, rfl, (fun q => by cases q), (fun q => by cases q), fun _ => h.symm⟩
 | true =>
 rw [if_pos rfl] at h
 cases hC : dyad_number_amount.f k a0_0 l0_1 a0_2 with
 | none => rw [hC] at h; cases h
 | some t =>
 obtain ⟨s1, l1, e1⟩ := t
 rw [hC] at h
 replace h : (dyad_room.f k s1 l1 e1).bind _ = _ := h
 cases hD : dyad_room.f k s1 l1 e1 with
 | none => rw [hD] at h; cases h
 | some q =>
 obtain ⟨q1, q2, q3, q4⟩ := q
 rw [hD] at h
 injection h with h
 exact ⟨true, s1, l1, e1, rfl, fun _ => rfl, fun _ => hD.trans (congrArg some h), fun q => by cases q⟩
set_option maxHeartbeats 8000000 in
set_option maxRecDepth 100000 in
theorem dyad_Abs.calls (k : Nat) (a0_0 : Bool) (P0_1_ : Nat → Prop) (A0_1 : Option Addr) (c0_1 : Nat) (l0_1 : List Int) (a0_2 : Int) (r1 : Bool) (r2 : List Int) (r3 : Int) (r4 : Int) (w : World) (hs0_1 : Kd.V (Kd.int .u64) 43 w w.heap.size (fun k_ => P0_1_ k_) (.slice A0_1 l0_1.length c0_1) l0_1) (hT : Laid w) (h : dyad_Abs.f k a0_0 l0_1 a0_2 = some (r1, r2, r3, r4)) :
  Calls Tryd.prog 30 #[.agg #[.bool a0_0, .slice A0_1 l0_1.length c0_1, .int .i64 a0_2]] w fun e w' => ∃ v1_ : Value, e = .returned (.tuple #[.agg #[.bool r1, v1_, .int .i64 r3], .int .i64 r4]) ∧ Kd.V (Kd.int .u64) 43 w' w.heap.size (fun k_ => (P0_1_ k_ ∨ w.heap.size ≤ k_)) v1_ r2 ∧ Below w.heap.size w w' := by
 have hu25 := Tryd.underlying25
 have hmf : ∀ (fn : Fn) (first cap : Array Value) (w : World), (Instr.makeFunc fn first cap).run Tryd.prog w = .ok (.func fn first cap) w := fun _ _ _ _ => rfl
 have HB := zA (Below.refl w.heap.size w)
 have HT := zA hT
 have HV0 := zA (V_mono (ok' := fun k_ => (P0_1_ k_) ∧ k_ < w.heap.size) (V_bound hs0_1) (fun k_ hk => ⟨hk.1, hk.2⟩))
 have HK := zA (hand_Abs_key k a0_0 l0_1 a0_2 r1 r2 r3 r4 h)
 clear hT h hs0_1
 go_enter Tryd.func30, Tryd.ntmps30
 have HK0 := HK.out
 clear HK
 obtain ⟨ra, s1, l1, e1, hA, hC, hD, hE⟩ := HK0
 replace hA := zA hA
 replace hC := zA hC
 replace hD := zA hD
 replace hE := zA hE
 go_wp2_with (first | ((with_reducible refine zD 1 rfl ?_); refine zn (N := 1) (cs := #[.bool a0_0, .slice A0_1 l0_1.length c0_1, .int .i64 a0_2]) (t := 25) rfl rfl ?_; intro gB0 hg w1 hbox hb; have GB0 := zA (hg ▸ below_size HB.out : w.heap.size ≤ gB0); have m_HV0 := zA (V_below HV0.out hb); have m_HB := zA (below_step HB.out hb); clear HB hb HV0; have HV0 := m_HV0; have HB := m_HB; clear m_HV0 m_HB; have B0 := zA hbox; clear hbox hg) | ((with_reducible refine zD 2 rfl ?_); refine zn (N := 2) (cs := #[.bool false, .slice none 0 0, .int .i64 0]) (t := 25) rfl rfl ?_; intro gBR hg w1 hbox hb; have GBR := zA (hg ▸ below_size HB.out : w.heap.size ≤ gBR); have m_HV0 := zA (V_below HV0.out hb); have m_B0 := zA (blk_below B0.out hb); have m_HB := zA (below_step HB.out hb); clear HB hb HV0 B0; have HV0 := m_HV0; have B0 := m_B0; have HB := m_HB; clear m_HV0 m_B0 m_HB; have BR := zA hbox; clear hbox hg; obtain ⟨_, _, _, _, _, _⟩ := zc B0; obtain ⟨_, _, _, _, _, _⟩ := zc BR) | ((with_reducible refine zD 7 rfl ?_); refine hand_slice_event (n := 1) ?hg (N := 7) ?hd (cs := #[.bool a0_0, .slice A0_1 l0_1.length c0_1, .int .i64 a0_2]) (t := 25) ?hr ?_; (case hd => rfl); (case hg => rfl); (case hr => first | (go_simp; done) | (go_simp; rfl)); intro gBS hg w1 hbox hb; have GBS := zA (hg ▸ below_size HB.out : w.heap.size ≤ gBS); have m_HV0 := zA (V_below HV0.out hb); have m_B0 := zA (blk_below B0.out hb); have m_BR := zA (blk_below BR.out hb); have m_HB := zA (below_step HB.out hb); clear HB hb HV0 B0 BR; have HV0 := m_HV0; have B0 := m_B0; have BR := m_BR; have HB := m_HB; clear m_HV0 m_B0 m_BR m_HB; have BS := zA hbox; clear hbox hg; have LT := zA (blk_lt BR.out); have SZ := zA (below_size HB.out)) | ((with_reducible refine zG 60 rfl ?_); refine goesL_ (some 8) rfl rfl Tryd.func60 (by kernel_rfl) rfl #[.func (.func 77) #[.agg #[.bool a0_0, .slice A0_1 l0_1.length c0_1, .int .i64 a0_2]] #[], .slice (some ⟨gBS, 0, none⟩) 1 1] rfl (by (try simp only [List.map_toArray, List.map_cons, List.map_nil]); first | done | rfl) ?_; refine (hand_of k _ (ra) 77 _ #[.agg #[.bool a0_0, .slice A0_1 l0_1.length c0_1, .int .i64 a0_2]] #[] Tryd.func77 (by kernel_rfl) rfl s1 l1 e1 r1 r2 r3 r4 (fun k_ => (P0_1_ k_) ∧ k_ < w.heap.size) _ (fun w1 hb => (hand_contains _ _ w1 (hand_index1 k gBS a0_0 _ _ l0_1 a0_2 ra w1 (blk_below BS.out hb) (V_reads' (V_below HV0.out hb)).2.2 (V_reads' HV0.out).2.1 hA.out)).mono (by rintro x w2 ⟨rfl, hb2⟩; exact ⟨by cases ra <;> rfl, hb2⟩)) (fun hr w1 hb => calls_of_args (args' := #[.agg #[.bool a0_0, .slice A0_1 l0_1.length c0_1, .int .i64 a0_2]]) (by simp) (dyad_number_amount.calls k a0_0 (fun k_ => (P0_1_ k_) ∧ k_ < w.heap.size) _ _ l0_1 a0_2 s1 l1 e1 w1 (V_below HV0.out hb) (laid_below HT.out (below_step HB.out hb)) (hC.out hr))) hD.out (fun k_ hk => Nat.lt_of_lt_of_le hk.2 SZ.out) hE.out).mono ?_; rintro e w7 ⟨v7, rfl, hv, hb⟩; obtain ⟨A7, c7, rfl⟩ := V_slice hv; refine ⟨_, rfl, ?_⟩; have HVR := zA (V_mono hv (ok' := fun k_ => ((P0_1_ k_) ∨ w.heap.size ≤ k_) ∧ k_ ≠ gBR) (fun k_ hk => by { have h1 := LT.out; have h3 := GBR.out; rcases hk with hk | hk; (exact ⟨.inl hk.1, by have h4 := hk.2; omega⟩); (exact ⟨.inr (by have h5 := SZ.out; omega), by omega⟩) })); have m_BR := zA (blk_below BR.out hb); have m_HB := zA (below_step HB.out hb); clear HB hb BR; have BR := m_BR; have HB := m_HB; clear m_BR m_HB; obtain ⟨_, _, _, _, _, _⟩ := zc BR))
 refine bodyPost_ret (results_ct rfl _ _ gBR 25 #[.bool r1, .slice A7 r2.length c7, .int .i64 r3] (0, 0) _ rfl (by refine blk_put (cs := #[.bool r1, .slice A7 r2.length c7, .int .i64 0]) ?_ 2 _ rfl; refine blk_put (cs := #[.bool r1, .slice none 0 0, .int .i64 0]) ?_ 1 _ rfl; refine blk_put (cs := #[.bool false, .slice none 0 0, .int .i64 0]) ?_ 0 _ rfl; exact BR.out) Tryd.underlying25 rfl (by kernel_rfl)) rfl ?_
 exact ⟨_, rfl, V_mono (V_far (p := ⟨gBR, 2, none⟩) (V_far (p := ⟨gBR, 1, none⟩) (V_far (p := ⟨gBR, 0, none⟩) HVR.out (fun _ hk => hk.2) (.bool r1)) (fun _ hk => hk.2) (.slice A7 r2.length c7)) (fun _ hk => hk.2) (.int .i64 r3)) (fun _ hk => hk.1), below_set (below_set (below_set HB.out GBR.out) GBR.out) GBR.out⟩
def raw_Shift.f (k : Nat) (a0_0 : Bool) (l0_1 : List Int) (a0_2 : Int) (a1 : Int) : Option (Bool × List Int × Int) := (raw_Form.f k a0_0 l0_1 (wrap64 (a0_2 + a1))).bind fun bt837 => (some (bt837.1, bt837.2.1, bt837.2.2))
set_option maxHeartbeats 8000000 in
set_option maxRecDepth 100000 in
theorem raw_Shift.calls (k : Nat) (a0_0 : Bool) (P0_1_ : Nat → Prop) (A0_1 : Option Addr) (c0_1 : Nat) (l0_1 : List Int) (a0_2 : Int) (a1 : Int) (r1 : Bool) (r2 : List Int) (r3 : Int) (w : World) (hs0_1 : Kd.V (Kd.int .u64) 43 w w.heap.size (fun k_ => P0_1_ k_) (.slice A0_1 l0_1.length c0_1) l0_1) (hT : Laid w) (h : raw_Shift.f k a0_0 l0_1 a0_2 a1 = some (r1, r2, r3)) :
  Calls Tryd.prog 79 #[.agg #[.bool a0_0, .slice A0_1 l0_1.length c0_1, .int .i64 a0_2], .int .i64 a1] w fun e w' => ∃ v1_ : Value, e = .returned (.agg #[.bool r1, v1_, .int .i64 r3]) ∧ Kd.V (Kd.int .u64) 43 w' w.heap.size (fun k_ => (P0_1_ k_ ∨ w.heap.size ≤ k_)) v1_ r2 ∧ Below w.heap.size w w' := by
 have hu25 := Tryd.underlying25
 have HO0_1 := zA (show Kd.V (Kd.int .u64) 43 w w.heap.size (fun k_ => (P0_1_ k_ ∨ w.heap.size ≤ k_)) (.slice A0_1 l0_1.length c0_1) l0_1 from V_mono hs0_1 (fun k_ hk => .inl hk))
 have HB := zA (Below.refl w.heap.size w)
 have H : ((raw_Form.f k a0_0 l0_1 (wrap64 (a0_2 + a1))).bind fun bt837 => (some (bt837.1, bt837.2.1, bt837.2.2))) = some (r1, r2, r3) := h
 clear h
 obtain ⟨⟨t837, t838, t841⟩, A3, H⟩ := zh H
 (try dsimp only at H)
 simp only [Option.some.injEq, Prod.mk.injEq] at H
 obtain ⟨rfl, rfl, rfl⟩ := H
 go_enter Tryd.func79, Tryd.ntmps79
 go_wp2_with (first | ((with_reducible refine zD 2 rfl ?_); refine zn (N := 2) (cs := #[.bool a0_0, .slice A0_1 l0_1.length c0_1, .int .i64 a0_2]) (t := 25) rfl rfl ?_; intro gb835 hg w4 hbox hb; replace HO0_1 := zA (V_below (V_elderB (vu HO0_1.out) gb835 (Nat.le_of_eq hg.symm)) hb); have BK835 := zA (hbox); have GW835 := zw hg; replace HB := ze hb; clear hb hbox hg) | ((with_reducible refine zD 4 rfl ?_); refine zn (N := 4) (cs := #[.bool false, .slice none 0 0, .int .i64 0]) (t := 25) rfl rfl ?_; intro gb836 hg w5 hbox hb; replace HO0_1 := zA (V_below (V_elderB (vu HO0_1.out) gb836 (Nat.le_of_eq hg.symm)) hb); have BK836 := zA (hbox); have GW836 := zx hg; replace HB := zf hb; have NB835_836 := zl BK835 hg; have NB836_835 := zg BK835 hg; replace BK835 := zb BK835 hb; clear hb hbox hg; have hnb6 := NB835_836.out; have hnc6 := NB836_835.out; obtain ⟨_, _, _, _, _, _⟩ := zc BK835) | ((with_reducible refine zG 91 rfl ?_); refine zL (some 13) rfl rfl Tryd.func91 #[.bool a0_0, .slice A0_1 l0_1.length c0_1, .int .i64 (wrap64 (a0_2 + a1))] rfl ?_; (with_reducible refine (raw_Form.calls k a0_0 (fun k_ => (((P0_1_ k_ ∨ w.heap.size ≤ k_) ∧ k_ ≠ gb835) ∧ k_ ≠ gb836)) _ _ l0_1 (wrap64 (a0_2 + a1)) t837 t838 t841 _ ?side1 (laid_below hT zs) A3.out).mono ?_); (case side1 => exact HO0_1.out); rintro e w8 ⟨v839, rfl, ho0, hb⟩; refine ⟨_, rfl, ?_⟩; replace HO0_1 := zA (V_below (vu HO0_1.out) hb); have HO840 := zA (V_lower (V_mono (ok' := fun k_ => (P0_1_ k_ ∨ w.heap.size ≤ k_) ∧ k_ ≠ gb835 ∧ k_ ≠ gb836) ho0 (fun k_ hk_ => ⟨Or.elim hk_ (fun hs_ => hs_.1.1) (fun hn_ => (.inr (Nat.le_trans (below_size zs) hn_))), Or.elim hk_ (fun hs_ => hs_.1.2) (fun hn_ => (zj BK835 k_ hn_)), Or.elim hk_ (fun hs_ => hs_.2) (fun hn_ => (zj BK836 k_ hn_))⟩)) (below_size zs)); replace BK835 := zb BK835 hb; replace BK836 := zb BK836 hb; replace HB := zf hb; (try clear ho0); obtain ⟨hcz9_0, hcz9_1, hcz9_2, hfz9_0, hfz9_1, hfz9_2⟩ := zc BK836; obtain ⟨Ao10, co10, eo10⟩ := V_slice HO840.out; subst eo10))
 refine bodyPost_ret (results_cell_row rfl _ _ gb836 25 #[.bool t837, .slice Ao10 t838.length co10, .int .i64 t841] (0, 0) _ rfl (zy BK836) Tryd.underlying25 rfl (by kernel_rfl)) rfl ?_
 exact ⟨_, er, vu (V_mono (zv gb836 (V_mono HO840.out (fun k_ hk => (⟨hk, hk.2.2⟩ : _ ∧ k_ ≠ gb836))) (fun _ hk => hk.2) _ _ _) (fun _ hk => hk.1.1)), zs⟩
end Go.Proofs.YtemfckibdojbbaaDoor.PAll
