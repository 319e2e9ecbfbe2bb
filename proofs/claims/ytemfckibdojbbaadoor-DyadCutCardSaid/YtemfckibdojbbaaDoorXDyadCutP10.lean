/- Printed functions, merged by a program of this session. -/
import Derived.Test.YtemfckibdojbbaaDoorXDyadCutP0
import Derived.Test.YtemfckibdojbbaaDoorXDyadCutP9
import Derived.Test.YtemfckibdojbbaaDoorXDyadCutP1
import Derived.Test.YtemfckibdojbbaaDoorXDyadCutP3
import Derived.Laws.StructEq
import Derived.Test.YtemfckibdojbbaaDoorXDyadCutSh
namespace Go.Proofs.YtemfckibdojbbaaDoor.PAll
open Go.RowKit Go.Proofs.YtemfckibdojbbaaDoorW.PrintWords Go.Proofs.YtemfckibdojbbaaDoorW.PrintLast Go.Proofs.YtemfckibdojbbaaDoorW.PrintMore Go.Proofs.YtemfckibdojbbaaDoorW.PrintWords.Kd
attribute [local go_sem] max2_int min2_int max_two min_two max_three min_three max_four min_four   -- for this text's walks alone
set_option linter.unusedVariables false
set_option linter.unusedSimpArgs false
attribute [local go_sem] ext135 ext136
def dyad_Add.f (k : Nat) (a0_0 : Bool) (l0_1 : List Int) (a0_2 : Int) (a1_0 : Bool) (l1_1 : List Int) (a1_2 : Int) : Option (Bool × List Int × Int × Int) := (dyad_number_right.f k a0_0 l0_1 a0_2).bind fun t279 => (if t279 = true then ((dyad_number_right.f k a1_0 l1_1 a1_2).bind fun t280 => (if t280 = true then ((raw_Add.f k a0_0 l0_1 a0_2 a1_0 l1_1 a1_2).bind fun bt281 => ((dyad_room.f k bt281.1 bt281.2.1 bt281.2.2).bind fun bt286 => (some (bt286.1, bt286.2.1, bt286.2.2.1, bt286.2.2.2)))) else (some (false, ([] : List Int), 0, 2)))) else (some (false, ([] : List Int), 0, 2)))
theorem dyad_Add.mono : ∀ a0 a1 a2 a3 a4 a5 k, LeO (dyad_Add.f k a0 a1 a2 a3 a4 a5) (dyad_Add.f (k + 1) a0 a1 a2 a3 a4 a5) := by
 intro a0 a1 a2 a3 a4 a5 k
 unfold dyad_Add.f
 repeat' first
   | (with_reducible exact dyad_number_right.mono _ _ _ _)
   | (with_reducible exact dyad_room.mono _ _ _ _)
   | (with_reducible exact raw_Add.mono _ _ _ _ _ _ _)
   | (with_reducible exact LeO.refl _)
   | (with_reducible exact LeO.none _)
   | (with_reducible refine LeO.ite ?_ ?_)
   | (with_reducible refine LeO.bind ?_ (fun _ => ?_))
   | exact dyad_number_right.mono _ _ _ _
   | exact dyad_room.mono _ _ _ _
   | exact raw_Add.mono _ _ _ _ _ _ _
   | exact LeO.none _
   | refine LeO.ite ?_ ?_
   | refine LeO.bind ?_ (fun _ => ?_)
set_option maxRecDepth 100000 in
theorem hand_Add_lit (k : Nat) (g0 : Nat) (s0 : Bool) (A0 : Option Addr) (c0 : Nat) (l0 : List Int) (e0 : Int) (g1 : Nat) (s1 : Bool) (A1 : Option Addr) (c1 : Nat) (l1 : List Int) (e1 : Int) (ok : Nat → Prop) (r1 : Bool) (r2 : List Int) (r3 : Int) (w : World) (hb0 : w.heap[g0]? = some (.cells #[.bool s0, .slice A0 l0.length c0, .int .i64 e0] 25 (0, 0))) (hv0 : Kd.V (Kd.int .u64) 43 w w.heap.size (ok) (.slice A0 l0.length c0) l0) (hb1 : w.heap[g1]? = some (.cells #[.bool s1, .slice A1 l1.length c1, .int .i64 e1] 25 (0, 0))) (hv1 : Kd.V (Kd.int .u64) 43 w w.heap.size (ok) (.slice A1 l1.length c1) l1) (hok : ∀ k_, ok k_ → k_ < w.heap.size) (hT : Laid w) (h : raw_Add.f k s0 l0 e0 s1 l1 e1 = some (r1, r2, r3)) :
  Calls Tryd.prog 61 #[.pointer (some ⟨g0, 0, none⟩), .pointer (some ⟨g1, 0, none⟩)] w fun x w' => ∃ v1_ : Value, x = .returned (.agg #[.bool r1, v1_, .int .i64 r3]) ∧ Kd.V (Kd.int .u64) 43 w' w.heap.size (fun k_ => ok k_ ∨ w.heap.size ≤ k_) (v1_) r2 ∧ Below w.heap.size w w' := by
 have hu25 := Tryd.underlying25
 have HB := zA (Below.refl w.heap.size w)
 have HV0 := zA hv0
 have B0 := zA hb0
 have HV1 := zA hv1
 have B1 := zA hb1
 have HT := zA hT
 have HH := zA h
 have Hok := zA hok
 clear hT h hok hv0 hb0 hv1 hb1 
 go_enter Tryd.func61, Tryd.ntmps61
 go_wp2_with (first | ((with_reducible refine zD 2 rfl ?_); refine zn (N := 2) (cs := #[.bool false, .slice none 0 0, .int .i64 0]) (t := 25) rfl rfl ?_; intro gBR hg w1 hbox hb; have GBR := zA (hg ▸ below_size HB.out : w.heap.size ≤ gBR); have m_HV0 := zA (V_below HV0.out hb); have m_HV1 := zA (V_below HV1.out hb); have m_B0 := zA (blk_below B0.out hb); have m_B1 := zA (blk_below B1.out hb); have m_HB := zA (below_step HB.out hb); clear HB hb HV0 HV1 B0 B1; have HV0 := m_HV0; have HV1 := m_HV1; have B0 := m_B0; have B1 := m_B1; have HB := m_HB; clear m_HV0 m_HV1 m_B0 m_B1 m_HB; have BR := zA hbox; clear hbox hg; have LT := zA (blk_lt BR.out); obtain ⟨_, _, _, _, _, _⟩ := zc B0; obtain ⟨_, _, _, _, _, _⟩ := zc B1; obtain ⟨_, _, _, _, _, _⟩ := zc BR) | ((with_reducible refine zG 62 rfl ?_); refine goesL_ (some 5) rfl rfl Tryd.func62 (by kernel_rfl) rfl #[.agg #[.bool s0, .slice A0 l0.length c0, .int .i64 e0], .agg #[.bool s1, .slice A1 l1.length c1, .int .i64 e1]] rfl (by (try simp only [List.map_toArray, List.map_cons, List.map_nil]); first | done | rfl) ?_; refine (raw_Add.calls k s0 ok _ _ l0 e0 s1 ok _ _ l1 e1 r1 r2 r3 _ HV0.out HV1.out (laid_below HT.out HB.out) HH.out).mono ?_; rintro e w7 ⟨v7, rfl, hv, hb⟩; obtain ⟨A7, c7, rfl⟩ := V_slice hv; refine ⟨_, rfl, ?_⟩; have HVR := zA (V_mono hv (ok' := fun k_ => (ok k_ ∨ w.heap.size ≤ k_) ∧ k_ ≠ gBR) (fun k_ hk => by { have h1 := LT.out; have h3 := GBR.out; rcases hk with (hk | hk) | hk; (exact ⟨.inl hk, fun e => by { subst e; exact absurd (Hok.out _ hk) (Nat.not_lt.mpr h3) }⟩); (exact ⟨.inl hk, fun e => by { subst e; exact absurd (Hok.out _ hk) (Nat.not_lt.mpr h3) }⟩); (exact ⟨.inr (by omega), by omega⟩) })); have m_BR := zA (blk_below BR.out hb); have m_HB := zA (below_step HB.out hb); clear HB hb BR; have BR := m_BR; have HB := m_HB; clear m_BR m_HB; obtain ⟨_, _, _, _, _, _⟩ := zc BR))
 refine bodyPost_ret (results_cell_row rfl _ _ gBR 25 #[.bool r1, .slice A7 r2.length c7, .int .i64 r3] (0, 0) _ rfl (by refine blk_put (cs := #[.bool r1, .slice A7 r2.length c7, .int .i64 0]) ?_ 2 _ rfl; refine blk_put (cs := #[.bool r1, .slice none 0 0, .int .i64 0]) ?_ 1 _ rfl; refine blk_put (cs := #[.bool false, .slice none 0 0, .int .i64 0]) ?_ 0 _ rfl; exact BR.out) Tryd.underlying25 rfl (by kernel_rfl)) rfl ?_
 exact ⟨_, rfl, V_mono (V_far (p := ⟨gBR, 2, none⟩) (V_far (p := ⟨gBR, 1, none⟩) (V_far (p := ⟨gBR, 0, none⟩) HVR.out (fun _ hk => hk.2) (.bool r1)) (fun _ hk => hk.2) (.slice A7 r2.length c7)) (fun _ hk => hk.2) (.int .i64 r3)) (fun _ hk => hk.1), below_set (below_set (below_set HB.out GBR.out) GBR.out) GBR.out⟩
theorem hand_Add_key (k : Nat) (a0_0 : Bool) (l0_1 : List Int) (a0_2 : Int) (a1_0 : Bool) (l1_1 : List Int) (a1_2 : Int) (r1 : Bool) (r2 : List Int) (r3 r4 : Int) (h : dyad_Add.f k a0_0 l0_1 a0_2 a1_0 l1_1 a1_2 = some (r1, r2, r3, r4)) :
  ∃ ra rb s1 l1 e1, dyad_number_right.f k a0_0 l0_1 a0_2 = some ra ∧ (ra = true → dyad_number_right.f k a1_0 l1_1 a1_2 = some rb) ∧ ((ra && rb) = true → raw_Add.f k a0_0 l0_1 a0_2 a1_0 l1_1 a1_2 = some (s1, l1, e1)) ∧ ((ra && rb) = true → dyad_room.f k s1 l1 e1 = some (r1, r2, r3, r4)) ∧ ((ra && rb) = false → (r1, r2, r3, r4) = (false, ([] : List Int), (0 : Int), (2 : Int))) := by
 unfold dyad_Add.f at h
 cases hA : dyad_number_right.f k a0_0 l0_1 a0_2 with
 | none => rw [hA] at h; cases h
 | some ra =>
 rw [hA] at h
 replace h : (if ra = true then _ else _) = _ := h
 cases ra with
 | false => rw [if_neg (by decide)] at h; injection h with h; exact ⟨false, false, false, [], 0, rfl, (fun q => by cases q), (fun q => by cases q), (fun q => by cases q), fun _ => h.symm⟩
 | true =>
 rw [if_pos rfl] at h
 cases hB : dyad_number_right.f k a1_0 l1_1 a1_2 with
 | none => rw [hB] at h; cases h
 | some rb =>
 rw [hB] at h
 replace h : (if rb = true then _ else _) = _ := h
 cases rb with
 | false => rw [if_neg (by decide)] at h; injection h with h; exact ⟨true, false, false, [], 0, rfl, fun _ => rfl, (fun q => by cases q), (fun q => by cases q), fun _ => h.symm⟩
 | true =>
 rw [if_pos rfl] at h
 cases hC : raw_Add.f k a0_0 l0_1 a0_2 a1_0 l1_1 a1_2 with
 | none => rw [hC] at h; cases h
 | some t =>
 obtain ⟨s1, l1, e1⟩ := t
 rw [hC] at h
 replace h : (dyad_room.f k s1 l1 e1).bind _ = _ := h
 cases hD : dyad_room.f k s1 l1 e1 with
 | none => rw [hD] at h; cases h
 | some q =>
 obtain ⟨q1, q2, q3, q4⟩ := q
 rw [hD] at h
 injection h with h
 exact ⟨true, true, s1, l1, e1, rfl, fun _ => rfl, fun _ => rfl, fun _ => hD.trans (congrArg some h), fun q => by cases q⟩
set_option maxHeartbeats 8000000 in
set_option maxRecDepth 100000 in
theorem dyad_Add.calls (k : Nat) (a0_0 : Bool) (P0_1_ : Nat → Prop) (A0_1 : Option Addr) (c0_1 : Nat) (l0_1 : List Int) (a0_2 : Int) (a1_0 : Bool) (P1_1_ : Nat → Prop) (A1_1 : Option Addr) (c1_1 : Nat) (l1_1 : List Int) (a1_2 : Int) (r1 : Bool) (r2 : List Int) (r3 : Int) (r4 : Int) (w : World) (hs0_1 : Kd.V (Kd.int .u64) 43 w w.heap.size (fun k_ => P0_1_ k_) (.slice A0_1 l0_1.length c0_1) l0_1) (hs1_1 : Kd.V (Kd.int .u64) 43 w w.heap.size (fun k_ => P1_1_ k_) (.slice A1_1 l1_1.length c1_1) l1_1) (hT : Laid w) (h : dyad_Add.f k a0_0 l0_1 a0_2 a1_0 l1_1 a1_2 = some (r1, r2, r3, r4)) :
  Calls Tryd.prog 17 #[.agg #[.bool a0_0, .slice A0_1 l0_1.length c0_1, .int .i64 a0_2], .agg #[.bool a1_0, .slice A1_1 l1_1.length c1_1, .int .i64 a1_2]] w fun e w' => ∃ v1_ : Value, e = .returned (.tuple #[.agg #[.bool r1, v1_, .int .i64 r3], .int .i64 r4]) ∧ Kd.V (Kd.int .u64) 43 w' w.heap.size (fun k_ => ((P0_1_ k_ ∨ P1_1_ k_) ∨ w.heap.size ≤ k_)) v1_ r2 ∧ Below w.heap.size w w' := by
 have hu25 := Tryd.underlying25
 have hmf : ∀ (fn : Fn) (first cap : Array Value) (w : World), (Instr.makeFunc fn first cap).run Tryd.prog w = .ok (.func fn first cap) w := fun _ _ _ _ => rfl
 have HB := zA (Below.refl w.heap.size w)
 have HT := zA hT
 have HV0 := zA (V_mono (ok' := fun k_ => (P0_1_ k_ ∨ P1_1_ k_) ∧ k_ < w.heap.size) (V_bound hs0_1) (fun k_ hk => ⟨.inl hk.1, hk.2⟩))
 have HV1 := zA (V_mono (ok' := fun k_ => (P0_1_ k_ ∨ P1_1_ k_) ∧ k_ < w.heap.size) (V_bound hs1_1) (fun k_ hk => ⟨.inr hk.1, hk.2⟩))
 have HK := zA (hand_Add_key k a0_0 l0_1 a0_2 a1_0 l1_1 a1_2 r1 r2 r3 r4 h)
 clear hT h hs0_1 hs1_1
 go_enter Tryd.func17, Tryd.ntmps17
 have HK0 := HK.out
 clear HK
 obtain ⟨ra, rb, s1, l1, e1, hA, hB2, hC, hD, hE⟩ := HK0
 replace hA := zA hA
 replace hB2 := zA hB2
 replace hC := zA hC
 replace hD := zA hD
 replace hE := zA hE
 go_wp2_with (first | ((with_reducible refine zD 2 rfl ?_); refine zn (N := 2) (cs := #[.bool a0_0, .slice A0_1 l0_1.length c0_1, .int .i64 a0_2]) (t := 25) rfl rfl ?_; intro gB0 hg w1 hbox hb; have GB0 := zA (hg ▸ below_size HB.out : w.heap.size ≤ gB0); have m_HV0 := zA (V_below HV0.out hb); have m_HV1 := zA (V_below HV1.out hb); have m_HB := zA (below_step HB.out hb); clear HB hb HV0 HV1; have HV0 := m_HV0; have HV1 := m_HV1; have HB := m_HB; clear m_HV0 m_HV1 m_HB; have B0 := zA hbox; clear hbox hg) | ((with_reducible refine zD 3 rfl ?_); refine zn (N := 3) (cs := #[.bool a1_0, .slice A1_1 l1_1.length c1_1, .int .i64 a1_2]) (t := 25) rfl rfl ?_; intro gB1 hg w1 hbox hb; have GB1 := zA (hg ▸ below_size HB.out : w.heap.size ≤ gB1); have m_HV0 := zA (V_below HV0.out hb); have m_HV1 := zA (V_below HV1.out hb); have m_B0 := zA (blk_below B0.out hb); have m_HB := zA (below_step HB.out hb); clear HB hb HV0 HV1 B0; have HV0 := m_HV0; have HV1 := m_HV1; have B0 := m_B0; have HB := m_HB; clear m_HV0 m_HV1 m_B0 m_HB; have B1 := zA hbox; clear hbox hg) | ((with_reducible refine zD 4 rfl ?_); refine zn (N := 4) (cs := #[.bool false, .slice none 0 0, .int .i64 0]) (t := 25) rfl rfl ?_; intro gBR hg w1 hbox hb; have GBR := zA (hg ▸ below_size HB.out : w.heap.size ≤ gBR); have m_HV0 := zA (V_below HV0.out hb); have m_HV1 := zA (V_below HV1.out hb); have m_B0 := zA (blk_below B0.out hb); have m_B1 := zA (blk_below B1.out hb); have m_HB := zA (below_step HB.out hb); clear HB hb HV0 HV1 B0 B1; have HV0 := m_HV0; have HV1 := m_HV1; have B0 := m_B0; have B1 := m_B1; have HB := m_HB; clear m_HV0 m_HV1 m_B0 m_B1 m_HB; have BR := zA hbox; clear hbox hg; obtain ⟨_, _, _, _, _, _⟩ := zc B0; obtain ⟨_, _, _, _, _, _⟩ := zc B1; obtain ⟨_, _, _, _, _, _⟩ := zc BR) | ((with_reducible refine zD 9 rfl ?_); refine hand_slice_event (n := 2) ?hg (N := 9) ?hd (cs := #[.bool a0_0, .slice A0_1 l0_1.length c0_1, .int .i64 a0_2, .bool a1_0, .slice A1_1 l1_1.length c1_1, .int .i64 a1_2]) (t := 25) ?hr ?_; (case hd => rfl); (case hg => rfl); (case hr => first | (go_simp; done) | (go_simp; rfl)); intro gBS hg w1 hbox hb; have GBS := zA (hg ▸ below_size HB.out : w.heap.size ≤ gBS); have m_HV0 := zA (V_below HV0.out hb); have m_HV1 := zA (V_below HV1.out hb); have m_B0 := zA (blk_below B0.out hb); have m_B1 := zA (blk_below B1.out hb); have m_BR := zA (blk_below BR.out hb); have m_HB := zA (below_step HB.out hb); clear HB hb HV0 HV1 B0 B1 BR; have HV0 := m_HV0; have HV1 := m_HV1; have B0 := m_B0; have B1 := m_B1; have BR := m_BR; have HB := m_HB; clear m_HV0 m_HV1 m_B0 m_B1 m_BR m_HB; have BS := zA hbox; clear hbox hg; have LT := zA (blk_lt BR.out); have SZ := zA (below_size HB.out)) | ((with_reducible refine zG 60 rfl ?_); refine goesL_ (some 10) rfl rfl Tryd.func60 (by kernel_rfl) rfl #[.func (.func 61) #[] #[.pointer (some ⟨gB0, 0, none⟩), .pointer (some ⟨gB1, 0, none⟩)], .slice (some ⟨gBS, 0, none⟩) 2 2] rfl (by (try simp only [List.map_toArray, List.map_cons, List.map_nil]); first | done | rfl) ?_; refine (hand_of k _ (ra && rb) 61 _ #[] #[.pointer (some ⟨gB0, 0, none⟩), .pointer (some ⟨gB1, 0, none⟩)] Tryd.func61 (by kernel_rfl) rfl s1 l1 e1 r1 r2 r3 r4 (fun k_ => (P0_1_ k_ ∨ P1_1_ k_) ∧ k_ < w.heap.size) _ (fun w1 hb => (hand_contains _ _ w1 (hand_index2 k gBS a0_0 _ _ l0_1 a0_2 a1_0 _ _ l1_1 a1_2 ra rb w1 (blk_below BS.out hb) (V_reads' (V_below HV0.out hb)).2.2 (V_reads' HV0.out).2.1 (V_reads' (V_below HV1.out hb)).2.2 (V_reads' HV1.out).2.1 hA.out hB2.out)).mono (by rintro x w2 ⟨rfl, hb2⟩; exact ⟨by cases ra <;> cases rb <;> rfl, hb2⟩)) (fun hr w1 hb => calls_of_args (args' := #[.pointer (some ⟨gB0, 0, none⟩), .pointer (some ⟨gB1, 0, none⟩)]) (by simp) (hand_Add_lit k gB0 a0_0 _ _ l0_1 a0_2 gB1 a1_0 _ _ l1_1 a1_2 (fun k_ => (P0_1_ k_ ∨ P1_1_ k_) ∧ k_ < w.heap.size) s1 l1 e1 w1 (blk_below B0.out hb) (V_below HV0.out hb) (blk_below B1.out hb) (V_below HV1.out hb) (fun k_ hk => Nat.lt_of_lt_of_le hk.2 (Nat.le_trans SZ.out hb.size)) (laid_below HT.out (below_step HB.out hb)) (hC.out hr))) hD.out (fun k_ hk => Nat.lt_of_lt_of_le hk.2 SZ.out) hE.out).mono ?_; rintro e w7 ⟨v7, rfl, hv, hb⟩; obtain ⟨A7, c7, rfl⟩ := V_slice hv; refine ⟨_, rfl, ?_⟩; have HVR := zA (V_mono hv (ok' := fun k_ => ((P0_1_ k_ ∨ P1_1_ k_) ∨ w.heap.size ≤ k_) ∧ k_ ≠ gBR) (fun k_ hk => by { have h1 := LT.out; have h3 := GBR.out; rcases hk with hk | hk; (exact ⟨.inl hk.1, by have h4 := hk.2; omega⟩); (exact ⟨.inr (by have h5 := SZ.out; omega), by omega⟩) })); have m_BR := zA (blk_below BR.out hb); have m_HB := zA (below_step HB.out hb); clear HB hb BR; have BR := m_BR; have HB := m_HB; clear m_BR m_HB; obtain ⟨_, _, _, _, _, _⟩ := zc BR))
 refine bodyPost_ret (results_ct rfl _ _ gBR 25 #[.bool r1, .slice A7 r2.length c7, .int .i64 r3] (0, 0) _ rfl (by refine blk_put (cs := #[.bool r1, .slice A7 r2.length c7, .int .i64 0]) ?_ 2 _ rfl; refine blk_put (cs := #[.bool r1, .slice none 0 0, .int .i64 0]) ?_ 1 _ rfl; refine blk_put (cs := #[.bool false, .slice none 0 0, .int .i64 0]) ?_ 0 _ rfl; exact BR.out) Tryd.underlying25 rfl (by kernel_rfl)) rfl ?_
 exact ⟨_, rfl, V_mono (V_far (p := ⟨gBR, 2, none⟩) (V_far (p := ⟨gBR, 1, none⟩) (V_far (p := ⟨gBR, 0, none⟩) HVR.out (fun _ hk => hk.2) (.bool r1)) (fun _ hk => hk.2) (.slice A7 r2.length c7)) (fun _ hk => hk.2) (.int .i64 r3)) (fun _ hk => hk.1), below_set (below_set (below_set HB.out GBR.out) GBR.out) GBR.out⟩
def dyad_From.f (k : Nat) (a0 : Int) : Option (Bool × List Int × Int × Int) := if (wrap64 (Go.bits .and .u64 (a0 / 4503599627370496) 2047)) = 2047 then (some (false, ([] : List Int), 0, 5)) else (if (wrap64 (Go.bits .and .u64 (a0 / 4503599627370496) 2047)) = 0 then ((raw_Form.f k ((a0 / 9223372036854775808) == 1) (([Go.bits .and .u64 a0 4503599627370495] : List Int)) (1 - 1075)).bind fun bt384 => (some (bt384.1, bt384.2.1, bt384.2.2, 0))) else ((raw_Form.f k ((a0 / 9223372036854775808) == 1) (([Go.bits .or .u64 (Go.bits .and .u64 a0 4503599627370495) 4503599627370496] : List Int)) (wrap64 ((wrap64 (Go.bits .and .u64 (a0 / 4503599627370496) 2047)) - 1075))).bind fun bt392 => (some (bt392.1, bt392.2.1, bt392.2.2, 0))))
theorem dyad_From.mono : ∀ a0 k, LeO (dyad_From.f k a0) (dyad_From.f (k + 1) a0) := by
 intro a0 k
 unfold dyad_From.f
 repeat' first
   | (with_reducible exact raw_Form.mono _ _ _ _)
   | (with_reducible exact LeO.refl _)
   | (with_reducible exact LeO.none _)
   | (with_reducible refine LeO.ite ?_ ?_)
   | (with_reducible refine LeO.bind ?_ (fun _ => ?_))
   | exact raw_Form.mono _ _ _ _
   | exact LeO.none _
   | refine LeO.ite ?_ ?_
   | refine LeO.bind ?_ (fun _ => ?_)
set_option maxHeartbeats 8000000 in
set_option maxRecDepth 100000 in
theorem dyad_From.calls (k : Nat) (a0 : Int) (r1 : Bool) (r2 : List Int) (r3 : Int) (r4 : Int) (w : World) (hT : Laid w) (h : dyad_From.f k a0 = some (r1, r2, r3, r4)) :
  Calls Tryd.prog 41 #[.int .u64 a0] w fun e w' => ∃ v1_ : Value, e = .returned (.tuple #[.agg #[.bool r1, v1_, .int .i64 r3], .int .i64 r4]) ∧ Kd.V (Kd.int .u64) 43 w' w.heap.size (fun k_ => (w.heap.size ≤ k_)) v1_ r2 ∧ Below w.heap.size w w' := by
 have hu25 := Tryd.underlying25
 have HB := zA (Below.refl w.heap.size w)
 have H : (if (wrap64 (Go.bits .and .u64 (a0 / 4503599627370496) 2047)) = 2047 then (some (false, ([] : List Int), 0, 5)) else (if (wrap64 (Go.bits .and .u64 (a0 / 4503599627370496) 2047)) = 0 then ((raw_Form.f k ((a0 / 9223372036854775808) == 1) (([Go.bits .and .u64 a0 4503599627370495] : List Int)) (1 - 1075)).bind fun bt384 => (some (bt384.1, bt384.2.1, bt384.2.2, 0))) else ((raw_Form.f k ((a0 / 9223372036854775808) == 1) (([Go.bits .or .u64 (Go.bits .and .u64 a0 4503599627370495) 4503599627370496] : List Int)) (wrap64 ((wrap64 (Go.bits .and .u64 (a0 / 4503599627370496) 2047)) - 1075))).bind fun bt392 => (some (bt392.1, bt392.2.1, bt392.2.2, 0))))) = some (r1, r2, r3, r4) := h
 clear h
 by_cases c2 : (wrap64 (Go.bits .and .u64 (a0 / 4503599627370496) 2047)) = 2047
 ·rw [if_pos c2] at H
  have c2b0 := beq_iff_eq.mpr c2
  have c2b1 := bne_eq_false_iff_eq.mpr c2
  clear c2
  simp only [Option.some.injEq, Prod.mk.injEq] at H
  obtain ⟨rfl, rfl, rfl, rfl⟩ := H
  go_enter Tryd.func41, Tryd.ntmps41
  go_wp2_with (first | ((with_reducible refine zD 2 rfl ?_); refine zn (N := 2) (cs := #[.bool false, .slice none 0 0, .int .i64 0]) (t := 25) rfl rfl ?_; intro gb380 hg w3 hbox hb; have BK380 := zA (hbox); have GW380 := zw hg; replace HB := ze hb; clear hb hbox hg; obtain ⟨_, _, _, _, _, _⟩ := zc BK380))
  refine bodyPost_ret (results_ct rfl _ _ gb380 25 #[.bool false, .slice none 0 0, .int .i64 0] (0, 0) _ rfl (zy BK380) Tryd.underlying25 rfl (by kernel_rfl)) rfl ?_
  exact ⟨_, er, V_nil _ _ _ _ _, zs⟩
 rw [if_neg c2] at H
 have c2b0 := beq_eq_false_iff_ne.mpr c2
 have c2b1 := bne_iff_ne.mpr c2
 by_cases c5 : (wrap64 (Go.bits .and .u64 (a0 / 4503599627370496) 2047)) = 0
 ·rw [if_pos c5] at H
  have c5b0 := beq_iff_eq.mpr c5
  have c5b1 := bne_eq_false_iff_eq.mpr c5
  clear c5
  obtain ⟨y381, hy381⟩ : ∃ y_ : List Int, y_ = (([Go.bits .and .u64 a0 4503599627370495] : List Int)) := ⟨_, rfl⟩
  replace H : ((raw_Form.f k ((a0 / 9223372036854775808) == 1) y381 (1 - 1075)).bind fun bt384 => (some (bt384.1, bt384.2.1, bt384.2.2, 0))) = some (r1, r2, r3, r4) := zR hy381 H
  have Ny381 := zA hy381
  clear hy381
  obtain ⟨⟨t384, t385, t388⟩, A6, H⟩ := zh H
  (try dsimp only at H)
  simp only [Option.some.injEq, Prod.mk.injEq] at H
  obtain ⟨rfl, rfl, rfl, rfl⟩ := H
  go_enter Tryd.func41, Tryd.ntmps41
  go_wp2_with (first | ((with_reducible refine zD 2 rfl ?_); refine zn (N := 2) (cs := #[.bool false, .slice none 0 0, .int .i64 0]) (t := 25) rfl rfl ?_; intro gb380 hg w7 hbox hb; have BK380 := zA (hbox); have GW380 := zw hg; replace HB := ze hb; clear hb hbox hg) | ((with_reducible refine zD 24 rfl ?_); refine R_lit (Kd.int .u64) _ 43 ?hg (N := 24) ?hd (xs := ([Go.bits .and .u64 a0 4503599627370495] : List Int)) (inner := [.int .u64 (Go.bits .and .u64 a0 4503599627370495)]) (ok := fun _ => True) (okp := fun _ => True) ?hr ?hp (fun _ hk => hk) trivial (Below.refl _ _) (Nat.le_refl _) (by simp) ?_; (case hd => rfl); (case hg => rfl); (case hr => first | (go_simp; done) | (go_simp; rfl)); (case hp => exact (Reps.one (show Kd.M (Kd.int .u64) _ _ _ (Go.bits .and .u64 a0 4503599627370495) [.int .u64 (Go.bits .and .u64 a0 4503599627370495)] from rfl) (Reps.none _ _))); intro v382 w8 ho9 hb hg_ hnew_; clear hg_ hnew_; (first | rw [← Ny381.out] at ho9 | (simp only [Int.reduceToNat] at ho9; rw [← Ny381.out] at ho9)); have HO383 := zA (R_lower (R_newM (M := fun k_ => (w.heap.size ≤ k_)) ho9 (below_size zs) (fun k_ h_ => h_)) (below_size zs)); replace BK380 := zb BK380 hb; replace HB := zf hb; clear hb ho9; obtain ⟨Ao10, co10, eo10⟩ := R_slice HO383.out; subst eo10) | ((with_reducible refine zG 91 rfl ?_); refine zL (some 27) rfl rfl Tryd.func91 #[.bool ((a0 / 9223372036854775808) == 1), .slice Ao10 y381.length co10, .int .i64 (1 - 1075)] rfl ?_; (with_reducible refine (raw_Form.calls k ((a0 / 9223372036854775808) == 1) (fun k_ => some k_ = (.slice Ao10 y381.length co10 : Value).ownBlock) _ _ y381 (1 - 1075) t384 t385 t388 _ ?side1 (laid_below hT zs) A6.out).mono ?_); (case side1 => exact R_V (R_tight rfl (R_types (HO383.out) BK380.out (by decide)))); rintro e w11 ⟨v386, rfl, ho0, hb⟩; refine ⟨_, rfl, ?_⟩; have HO387 := zA (V_lower (V_mono (ok' := fun k_ => (w.heap.size ≤ k_) ∧ k_ ≠ gb380) ho0 (fun k_ hk_ => ⟨Or.elim hk_ (fun hs_ => ((R_types (HO383.out) BK380.out (by decide)).1 k_ hs_.symm).1.1) (fun hn_ => (Nat.le_trans (below_size zs) hn_)), Or.elim hk_ (fun hs_ => ((R_types (HO383.out) BK380.out (by decide)).1 k_ hs_.symm).2) (fun hn_ => (zj BK380 k_ hn_))⟩)) (below_size zs)); replace HO383 := zA (R_below (ru HO383.out) hb); replace BK380 := zb BK380 hb; replace HB := zf hb; (try clear ho0); obtain ⟨hcz12_0, hcz12_1, hcz12_2, hfz12_0, hfz12_1, hfz12_2⟩ := zc BK380; obtain ⟨Ao13, co13, eo13⟩ := V_slice HO387.out; subst eo13))
  refine bodyPost_ret (results_ct rfl _ _ gb380 25 #[.bool t384, .slice Ao13 t385.length co13, .int .i64 t388] (0, 0) _ rfl (zy BK380) Tryd.underlying25 rfl (by kernel_rfl)) rfl ?_
  exact ⟨_, er, vu (V_mono (zv gb380 (V_mono HO387.out (fun k_ hk => (⟨hk, hk.2⟩ : _ ∧ k_ ≠ gb380))) (fun _ hk => hk.2) _ _ _) (fun _ hk => hk.1.1)), zs⟩
 rw [if_neg c5] at H
 have c5b0 := beq_eq_false_iff_ne.mpr c5
 have c5b1 := bne_iff_ne.mpr c5
 obtain ⟨y389, hy389⟩ : ∃ y_ : List Int, y_ = (([Go.bits .or .u64 (Go.bits .and .u64 a0 4503599627370495) 4503599627370496] : List Int)) := ⟨_, rfl⟩
 replace H : ((raw_Form.f k ((a0 / 9223372036854775808) == 1) y389 (wrap64 ((wrap64 (Go.bits .and .u64 (a0 / 4503599627370496) 2047)) - 1075))).bind fun bt392 => (some (bt392.1, bt392.2.1, bt392.2.2, 0))) = some (r1, r2, r3, r4) := zR hy389 H
 have Ny389 := zA hy389
 clear hy389
 obtain ⟨⟨t392, t393, t396⟩, A14, H⟩ := zh H
 (try dsimp only at H)
 simp only [Option.some.injEq, Prod.mk.injEq] at H
 obtain ⟨rfl, rfl, rfl, rfl⟩ := H
 go_enter Tryd.func41, Tryd.ntmps41
 go_wp2_with (first | ((with_reducible refine zD 2 rfl ?_); refine zn (N := 2) (cs := #[.bool false, .slice none 0 0, .int .i64 0]) (t := 25) rfl rfl ?_; intro gb380 hg w15 hbox hb; have BK380 := zA (hbox); have GW380 := zw hg; replace HB := ze hb; clear hb hbox hg) | ((with_reducible refine zD 24 rfl ?_); refine R_lit (Kd.int .u64) _ 43 ?hg (N := 24) ?hd (xs := ([Go.bits .or .u64 (Go.bits .and .u64 a0 4503599627370495) 4503599627370496] : List Int)) (inner := [.int .u64 (Go.bits .or .u64 (Go.bits .and .u64 a0 4503599627370495) 4503599627370496)]) (ok := fun _ => True) (okp := fun _ => True) ?hr ?hp (fun _ hk => hk) trivial (Below.refl _ _) (Nat.le_refl _) (by simp) ?_; (case hd => rfl); (case hg => rfl); (case hr => first | (go_simp; done) | (go_simp; rfl)); (case hp => exact (Reps.one (show Kd.M (Kd.int .u64) _ _ _ (Go.bits .or .u64 (Go.bits .and .u64 a0 4503599627370495) 4503599627370496) [.int .u64 (Go.bits .or .u64 (Go.bits .and .u64 a0 4503599627370495) 4503599627370496)] from rfl) (Reps.none _ _))); intro v390 w16 ho17 hb hg_ hnew_; clear hg_ hnew_; (first | rw [← Ny389.out] at ho17 | (simp only [Int.reduceToNat] at ho17; rw [← Ny389.out] at ho17)); have HO391 := zA (R_lower (R_newM (M := fun k_ => (w.heap.size ≤ k_)) ho17 (below_size zs) (fun k_ h_ => h_)) (below_size zs)); replace BK380 := zb BK380 hb; replace HB := zf hb; clear hb ho17; obtain ⟨Ao18, co18, eo18⟩ := R_slice HO391.out; subst eo18) | ((with_reducible refine zG 91 rfl ?_); refine zL (some 27) rfl rfl Tryd.func91 #[.bool ((a0 / 9223372036854775808) == 1), .slice Ao18 y389.length co18, .int .i64 (wrap64 ((wrap64 (Go.bits .and .u64 (a0 / 4503599627370496) 2047)) - 1075))] rfl ?_; (with_reducible refine (raw_Form.calls k ((a0 / 9223372036854775808) == 1) (fun k_ => some k_ = (.slice Ao18 y389.length co18 : Value).ownBlock) _ _ y389 (wrap64 ((wrap64 (Go.bits .and .u64 (a0 / 4503599627370496) 2047)) - 1075)) t392 t393 t396 _ ?side1 (laid_below hT zs) A14.out).mono ?_); (case side1 => exact R_V (R_tight rfl (R_types (HO391.out) BK380.out (by decide)))); rintro e w19 ⟨v394, rfl, ho0, hb⟩; refine ⟨_, rfl, ?_⟩; have HO395 := zA (V_lower (V_mono (ok' := fun k_ => (w.heap.size ≤ k_) ∧ k_ ≠ gb380) ho0 (fun k_ hk_ => ⟨Or.elim hk_ (fun hs_ => ((R_types (HO391.out) BK380.out (by decide)).1 k_ hs_.symm).1.1) (fun hn_ => (Nat.le_trans (below_size zs) hn_)), Or.elim hk_ (fun hs_ => ((R_types (HO391.out) BK380.out (by decide)).1 k_ hs_.symm).2) (fun hn_ => (zj BK380 k_ hn_))⟩)) (below_size zs)); replace HO391 := zA (R_below (ru HO391.out) hb); replace BK380 := zb BK380 hb; replace HB := zf hb; (try clear ho0); obtain ⟨hcz20_0, hcz20_1, hcz20_2, hfz20_0, hfz20_1, hfz20_2⟩ := zc BK380; obtain ⟨Ao21, co21, eo21⟩ := V_slice HO395.out; subst eo21))
 refine bodyPost_ret (results_ct rfl _ _ gb380 25 #[.bool t392, .slice Ao21 t393.length co21, .int .i64 t396] (0, 0) _ rfl (zy BK380) Tryd.underlying25 rfl (by kernel_rfl)) rfl ?_
 exact ⟨_, er, vu (V_mono (zv gb380 (V_mono HO395.out (fun k_ hk => (⟨hk, hk.2⟩ : _ ∧ k_ ≠ gb380))) (fun _ hk => hk.2) _ _ _) (fun _ hk => hk.1.1)), zs⟩
def raw_Int.f (k : Nat) (a0 : Int) : Option (Bool × List Int × Int) := if a0 < 0 then ((limbs_Of.f (IntKind.u64.wrap (-(IntKind.u64.wrap (a0))))).bind fun t398 => ((raw_Form.f k (decide (a0 < 0)) t398 0).bind fun bt401 => (some (bt401.1, bt401.2.1, bt401.2.2)))) else ((limbs_Of.f (IntKind.u64.wrap (a0))).bind fun t406 => ((raw_Form.f k (decide (a0 < 0)) t406 0).bind fun bt409 => (some (bt409.1, bt409.2.1, bt409.2.2))))
theorem raw_Int.mono : ∀ a0 k, LeO (raw_Int.f k a0) (raw_Int.f (k + 1) a0) := by
 intro a0 k
 unfold raw_Int.f
 repeat' first
   | (with_reducible exact raw_Form.mono _ _ _ _)
   | (with_reducible exact LeO.refl _)
   | (with_reducible exact LeO.none _)
   | (with_reducible refine LeO.ite ?_ ?_)
   | (with_reducible refine LeO.bind ?_ (fun _ => ?_))
   | exact raw_Form.mono _ _ _ _
   | exact LeO.none _
   | refine LeO.ite ?_ ?_
   | refine LeO.bind ?_ (fun _ => ?_)
set_option maxHeartbeats 8000000 in
set_option maxRecDepth 100000 in
theorem raw_Int.calls (k : Nat) (a0 : Int) (r1 : Bool) (r2 : List Int) (r3 : Int) (w : World) (hT : Laid w) (h : raw_Int.f k a0 = some (r1, r2, r3)) :
  Calls Tryd.prog 98 #[.int .i64 a0] w fun e w' => ∃ v1_ : Value, e = .returned (.agg #[.bool r1, v1_, .int .i64 r3]) ∧ Kd.V (Kd.int .u64) 43 w' w.heap.size (fun k_ => (w.heap.size ≤ k_)) v1_ r2 ∧ Below w.heap.size w w' := by
 have hu25 := Tryd.underlying25
 have HB := zA (Below.refl w.heap.size w)
 have H : (if a0 < 0 then ((limbs_Of.f (IntKind.u64.wrap (-(IntKind.u64.wrap (a0))))).bind fun t398 => ((raw_Form.f k (decide (a0 < 0)) t398 0).bind fun bt401 => (some (bt401.1, bt401.2.1, bt401.2.2)))) else ((limbs_Of.f (IntKind.u64.wrap (a0))).bind fun t406 => ((raw_Form.f k (decide (a0 < 0)) t406 0).bind fun bt409 => (some (bt409.1, bt409.2.1, bt409.2.2))))) = some (r1, r2, r3) := h
 clear h
 by_cases c2 : a0 < 0
 ·rw [if_pos c2] at H
  have c2b0 := decide_eq_true c2
  clear c2
  obtain ⟨t398, A3, H⟩ := zh H
  obtain ⟨⟨t401, t402, t405⟩, A4, H⟩ := zh H
  (try dsimp only at H)
  simp only [Option.some.injEq, Prod.mk.injEq] at H
  obtain ⟨rfl, rfl, rfl⟩ := H
  rw [c2b0] at A4
  go_enter Tryd.func98, Tryd.ntmps98
  go_wp2_with (first | ((with_reducible refine zD 2 rfl ?_); refine zn (N := 2) (cs := #[.bool false, .slice none 0 0, .int .i64 0]) (t := 25) rfl rfl ?_; intro gb397 hg w5 hbox hb; have BK397 := zA (hbox); have GW397 := zw hg; replace HB := ze hb; clear hb hbox hg) | ((with_reducible refine zG 117 rfl ?_); refine zL (some 13) rfl rfl Tryd.func117 #[.int .u64 (IntKind.u64.wrap (-(IntKind.u64.wrap (a0))))] rfl ?_; (with_reducible refine (limbs_Of.calls (IntKind.u64.wrap (-(IntKind.u64.wrap (a0)))) t398 _ A3.out).mono ?_); rintro e w6 ⟨v399, rfl, ho0, hb⟩; refine ⟨_, rfl, ?_⟩; have HO400 := zA (R_lower (R_newM (M := fun k_ => (w.heap.size ≤ k_)) ho0 (below_size zs) (fun k_ h_ => h_)) (below_size zs)); replace BK397 := zb BK397 hb; replace HB := zf hb; (try clear ho0); obtain ⟨Ao7, co7, eo7⟩ := R_slice HO400.out; subst eo7) | ((with_reducible refine zG 91 rfl ?_); refine zL (some 14) rfl rfl Tryd.func91 #[.bool true, .slice Ao7 t398.length co7, .int .i64 0] rfl ?_; (with_reducible refine (raw_Form.calls k true (fun k_ => some k_ = (.slice Ao7 t398.length co7 : Value).ownBlock) _ _ t398 0 t401 t402 t405 _ ?side1 (laid_below hT zs) A4.out).mono ?_); (case side1 => exact R_V (R_tight rfl (R_types (HO400.out) BK397.out (by decide)))); rintro e w8 ⟨v403, rfl, ho0, hb⟩; refine ⟨_, rfl, ?_⟩; have HO404 := zA (V_lower (V_mono (ok' := fun k_ => (w.heap.size ≤ k_) ∧ k_ ≠ gb397) ho0 (fun k_ hk_ => ⟨Or.elim hk_ (fun hs_ => ((R_types (HO400.out) BK397.out (by decide)).1 k_ hs_.symm).1.1) (fun hn_ => (Nat.le_trans (below_size zs) hn_)), Or.elim hk_ (fun hs_ => ((R_types (HO400.out) BK397.out (by decide)).1 k_ hs_.symm).2) (fun hn_ => (zj BK397 k_ hn_))⟩)) (below_size zs)); replace HO400 := zA (R_below (ru HO400.out) hb); replace BK397 := zb BK397 hb; replace HB := zf hb; (try clear ho0); obtain ⟨hcz9_0, hcz9_1, hcz9_2, hfz9_0, hfz9_1, hfz9_2⟩ := zc BK397; obtain ⟨Ao10, co10, eo10⟩ := V_slice HO404.out; subst eo10))
  refine bodyPost_ret (results_cell_row rfl _ _ gb397 25 #[.bool t401, .slice Ao10 t402.length co10, .int .i64 t405] (0, 0) _ rfl (zy BK397) Tryd.underlying25 rfl (by kernel_rfl)) rfl ?_
  exact ⟨_, er, vu (V_mono (zv gb397 (V_mono HO404.out (fun k_ hk => (⟨hk, hk.2⟩ : _ ∧ k_ ≠ gb397))) (fun _ hk => hk.2) _ _ _) (fun _ hk => hk.1.1)), zs⟩
 rw [if_neg c2] at H
 have c2b0 := decide_eq_false c2
 clear c2
 obtain ⟨t406, A11, H⟩ := zh H
 obtain ⟨⟨t409, t410, t413⟩, A12, H⟩ := zh H
 (try dsimp only at H)
 simp only [Option.some.injEq, Prod.mk.injEq] at H
 obtain ⟨rfl, rfl, rfl⟩ := H
 rw [c2b0] at A12
 go_enter Tryd.func98, Tryd.ntmps98
 go_wp2_with (first | ((with_reducible refine zD 2 rfl ?_); refine zn (N := 2) (cs := #[.bool false, .slice none 0 0, .int .i64 0]) (t := 25) rfl rfl ?_; intro gb397 hg w13 hbox hb; have BK397 := zA (hbox); have GW397 := zw hg; replace HB := ze hb; clear hb hbox hg) | ((with_reducible refine zG 117 rfl ?_); refine zL (some 13) rfl rfl Tryd.func117 #[.int .u64 (IntKind.u64.wrap (a0))] rfl ?_; (with_reducible refine (limbs_Of.calls (IntKind.u64.wrap (a0)) t406 _ A11.out).mono ?_); rintro e w14 ⟨v407, rfl, ho0, hb⟩; refine ⟨_, rfl, ?_⟩; have HO408 := zA (R_lower (R_newM (M := fun k_ => (w.heap.size ≤ k_)) ho0 (below_size zs) (fun k_ h_ => h_)) (below_size zs)); replace BK397 := zb BK397 hb; replace HB := zf hb; (try clear ho0); obtain ⟨Ao15, co15, eo15⟩ := R_slice HO408.out; subst eo15) | ((with_reducible refine zG 91 rfl ?_); refine zL (some 14) rfl rfl Tryd.func91 #[.bool false, .slice Ao15 t406.length co15, .int .i64 0] rfl ?_; (with_reducible refine (raw_Form.calls k false (fun k_ => some k_ = (.slice Ao15 t406.length co15 : Value).ownBlock) _ _ t406 0 t409 t410 t413 _ ?side1 (laid_below hT zs) A12.out).mono ?_); (case side1 => exact R_V (R_tight rfl (R_types (HO408.out) BK397.out (by decide)))); rintro e w16 ⟨v411, rfl, ho0, hb⟩; refine ⟨_, rfl, ?_⟩; have HO412 := zA (V_lower (V_mono (ok' := fun k_ => (w.heap.size ≤ k_) ∧ k_ ≠ gb397) ho0 (fun k_ hk_ => ⟨Or.elim hk_ (fun hs_ => ((R_types (HO408.out) BK397.out (by decide)).1 k_ hs_.symm).1.1) (fun hn_ => (Nat.le_trans (below_size zs) hn_)), Or.elim hk_ (fun hs_ => ((R_types (HO408.out) BK397.out (by decide)).1 k_ hs_.symm).2) (fun hn_ => (zj BK397 k_ hn_))⟩)) (below_size zs)); replace HO408 := zA (R_below (ru HO408.out) hb); replace BK397 := zb BK397 hb; replace HB := zf hb; (try clear ho0); obtain ⟨hcz17_0, hcz17_1, hcz17_2, hfz17_0, hfz17_1, hfz17_2⟩ := zc BK397; obtain ⟨Ao18, co18, eo18⟩ := V_slice HO412.out; subst eo18))
 refine bodyPost_ret (results_cell_row rfl _ _ gb397 25 #[.bool t409, .slice Ao18 t410.length co18, .int .i64 t413] (0, 0) _ rfl (zy BK397) Tryd.underlying25 rfl (by kernel_rfl)) rfl ?_
 exact ⟨_, er, vu (V_mono (zv gb397 (V_mono HO412.out (fun k_ hk => (⟨hk, hk.2⟩ : _ ∧ k_ ≠ gb397))) (fun _ hk => hk.2) _ _ _) (fun _ hk => hk.1.1)), zs⟩
def dyad_Int.f (k : Nat) (a0 : Int) : Option (Bool × List Int × Int) := (raw_Int.f k a0).bind fun bt415 => (some (bt415.1, bt415.2.1, bt415.2.2))
theorem dyad_Int.mono : ∀ a0 k, LeO (dyad_Int.f k a0) (dyad_Int.f (k + 1) a0) := by
 intro a0 k
 unfold dyad_Int.f
 repeat' first
   | (with_reducible exact raw_Int.mono _ _)
   | (with_reducible exact LeO.refl _)
   | (with_reducible exact LeO.none _)
   | (with_reducible refine LeO.ite ?_ ?_)
   | (with_reducible refine LeO.bind ?_ (fun _ => ?_))
   | exact raw_Int.mono _ _
   | exact LeO.none _
   | refine LeO.ite ?_ ?_
   | refine LeO.bind ?_ (fun _ => ?_)
set_option maxHeartbeats 8000000 in
set_option maxRecDepth 100000 in
theorem dyad_Int.calls (k : Nat) (a0 : Int) (r1 : Bool) (r2 : List Int) (r3 : Int) (w : World) (hT : Laid w) (h : dyad_Int.f k a0 = some (r1, r2, r3)) :
  Calls Tryd.prog 45 #[.int .i64 a0] w fun e w' => ∃ v1_ : Value, e = .returned (.agg #[.bool r1, v1_, .int .i64 r3]) ∧ Kd.V (Kd.int .u64) 43 w' w.heap.size (fun k_ => (w.heap.size ≤ k_)) v1_ r2 ∧ Below w.heap.size w w' := by
 have hu25 := Tryd.underlying25
 have HB := zA (Below.refl w.heap.size w)
 have H : ((raw_Int.f k a0).bind fun bt415 => (some (bt415.1, bt415.2.1, bt415.2.2))) = some (r1, r2, r3) := h
 clear h
 obtain ⟨⟨t415, t416, t419⟩, A2, H⟩ := zh H
 (try dsimp only at H)
 simp only [Option.some.injEq, Prod.mk.injEq] at H
 obtain ⟨rfl, rfl, rfl⟩ := H
 go_enter Tryd.func45, Tryd.ntmps45
 go_wp2_with (first | ((with_reducible refine zD 2 rfl ?_); refine zn (N := 2) (cs := #[.bool false, .slice none 0 0, .int .i64 0]) (t := 25) rfl rfl ?_; intro gb414 hg w3 hbox hb; have BK414 := zA (hbox); have GW414 := zw hg; replace HB := ze hb; clear hb hbox hg) | ((with_reducible refine zG 98 rfl ?_); refine zL (some 4) rfl rfl Tryd.func98 #[.int .i64 a0] rfl ?_; (with_reducible refine (raw_Int.calls k a0 t415 t416 t419 _ (laid_below hT zs) A2.out).mono ?_); rintro e w4 ⟨v417, rfl, ho0, hb⟩; refine ⟨_, rfl, ?_⟩; have HO418 := zA (V_lower (V_mono (ok' := fun k_ => (w.heap.size ≤ k_) ∧ k_ ≠ gb414) ho0 (fun k_ hk_ => ⟨(Nat.le_trans (below_size zs) hk_), (zj BK414 k_ hk_)⟩)) (below_size zs)); replace BK414 := zb BK414 hb; replace HB := zf hb; (try clear ho0); obtain ⟨hcz5_0, hcz5_1, hcz5_2, hfz5_0, hfz5_1, hfz5_2⟩ := zc BK414; obtain ⟨Ao6, co6, eo6⟩ := V_slice HO418.out; subst eo6))
 refine bodyPost_ret (results_cell_row rfl _ _ gb414 25 #[.bool t415, .slice Ao6 t416.length co6, .int .i64 t419] (0, 0) _ rfl (zy BK414) Tryd.underlying25 rfl (by kernel_rfl)) rfl ?_
 exact ⟨_, er, vu (V_mono (zv gb414 (V_mono HO418.out (fun k_ hk => (⟨hk, hk.2⟩ : _ ∧ k_ ≠ gb414))) (fun _ hk => hk.2) _ _ _) (fun _ hk => hk.1.1)), zs⟩
end Go.Proofs.YtemfckibdojbbaaDoor.PAll
