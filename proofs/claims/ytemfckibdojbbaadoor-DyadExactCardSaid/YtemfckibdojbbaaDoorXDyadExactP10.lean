/- Printed functions, merged by a program of this session. -/
import Derived.Test.YtemfckibdojbbaaDoorXDyadExactP7
import Derived.Test.YtemfckibdojbbaaDoorXDyadExactP0
import Derived.Test.YtemfckibdojbbaaDoorXDyadExactP9
import Derived.Test.YtemfckibdojbbaaDoorXDyadExactP6
import Derived.Laws.StructEq
import Derived.Test.YtemfckibdojbbaaDoorXDyadExactSh
namespace Go.Proofs.YtemfckibdojbbaaDoor.PAll
open Go.RowKit Go.Proofs.YtemfckibdojbbaaDoorW.PrintWords Go.Proofs.YtemfckibdojbbaaDoorW.PrintLast Go.Proofs.YtemfckibdojbbaaDoorW.PrintMore Go.Proofs.YtemfckibdojbbaaDoorW.PrintWords.Kd
attribute [local go_sem] max2_int min2_int max_two min_two max_three min_three max_four min_four   -- for this text's walks alone
set_option linter.unusedVariables false
set_option linter.unusedSimpArgs false
attribute [local go_sem] ext135 ext136
def dyad_Add.f (k : Nat) (a0_0 : Bool) (l0_1 : List Int) (a0_2 : Int) (a1_0 : Bool) (l1_1 : List Int) (a1_2 : Int) : Option (Bool × List Int × Int × Int) := (dyad_number_right.f k a0_0 l0_1 a0_2).bind fun t279 => (if t279 = true then ((dyad_number_right.f k a1_0 l1_1 a1_2).bind fun t280 => (if t280 = true then ((raw_Add.f k a0_0 l0_1 a0_2 a1_0 l1_1 a1_2).bind fun bt281 => ((dyad_room.f k bt281.1 bt281.2.1 bt281.2.2).bind fun bt286 => (some (bt286.1, bt286.2.1, bt286.2.2.1, bt286.2.2.2)))) else (some (false, ([] : List Int), 0, 2)))) else (some (false, ([] : List Int), 0, 2)))
theorem dyad_Add.mono : ∀ a0 a1 a2 a3 a4 a5 k, LeO (dyad_Add.f k a0 a1 a2 a3 a4 a5) (dyad_Add.f (k + 1) a0 a1 a2 a3 a4 a5) := by
 intro a0 a1 a2 a3 a4 a5 k
 unfold dyad_Add.f
 repeat' first
   | (with_reducible exact dyad_number_right.mono _ _ _ _)
   | (with_reducible exact dyad_room.mono _ _ _ _)
   | (with_reducible exact raw_Add.mono _ _ _ _ _ _ _)
   | (with_reducible exact LeO.refl _)
   | (with_reducible exact LeO.none _)
   | (with_reducible refine LeO.ite ?_ ?_)
   | (with_reducible refine LeO.bind ?_ (fun _ => ?_))
   | exact dyad_number_right.mono _ _ _ _
   | exact dyad_room.mono _ _ _ _
   | exact raw_Add.mono _ _ _ _ _ _ _
   | exact LeO.none _
   | refine LeO.ite ?_ ?_
   | refine LeO.bind ?_ (fun _ => ?_)
set_option maxRecDepth 100000 in
theorem hand_Add_lit (k : Nat) (g0 : Nat) (s0 : Bool) (A0 : Option Addr) (c0 : Nat) (l0 : List Int) (e0 : Int) (g1 : Nat) (s1 : Bool) (A1 : Option Addr) (c1 : Nat) (l1 : List Int) (e1 : Int) (ok : Nat → Prop) (r1 : Bool) (r2 : List Int) (r3 : Int) (w : World) (hb0 : w.heap[g0]? = some (.cells #[.bool s0, .slice A0 l0.length c0, .int .i64 e0] 25 (0, 0))) (hv0 : Kd.V (Kd.int .u64) 43 w w.heap.size (ok) (.slice A0 l0.length c0) l0) (hb1 : w.heap[g1]? = some (.cells #[.bool s1, .slice A1 l1.length c1, .int .i64 e1] 25 (0, 0))) (hv1 : Kd.V (Kd.int .u64) 43 w w.heap.size (ok) (.slice A1 l1.length c1) l1) (hok : ∀ k_, ok k_ → k_ < w.heap.size) (hT : Laid w) (h : raw_Add.f k s0 l0 e0 s1 l1 e1 = some (r1, r2, r3)) :
  Calls Tryd.prog 61 #[.pointer (some ⟨g0, 0, none⟩), .pointer (some ⟨g1, 0, none⟩)] w fun x w' => ∃ v1_ : Value, x = .returned (.agg #[.bool r1, v1_, .int .i64 r3]) ∧ Kd.V (Kd.int .u64) 43 w' w.heap.size (fun k_ => ok k_ ∨ w.heap.size ≤ k_) (v1_) r2 ∧ Below w.heap.size w w' := by
 have hu25 := Tryd.underlying25
 have HB := zA (Below.refl w.heap.size w)
 have HV0 := zA hv0
 have B0 := zA hb0
 have HV1 := zA hv1
 have B1 := zA hb1
 have HT := zA hT
 have HH := zA h
 have Hok := zA hok
 clear hT h hok hv0 hb0 hv1 hb1 
 go_enter Tryd.func61, Tryd.ntmps61
 go_wp2_with (first | ((with_reducible refine zD 2 rfl ?_); refine zn (N := 2) (cs := #[.bool false, .slice none 0 0, .int .i64 0]) (t := 25) rfl rfl ?_; intro gBR hg w1 hbox hb; have GBR := zA (hg ▸ below_size HB.out : w.heap.size ≤ gBR); have m_HV0 := zA (V_below HV0.out hb); have m_HV1 := zA (V_below HV1.out hb); have m_B0 := zA (blk_below B0.out hb); have m_B1 := zA (blk_below B1.out hb); have m_HB := zA (below_step HB.out hb); clear HB hb HV0 HV1 B0 B1; have HV0 := m_HV0; have HV1 := m_HV1; have B0 := m_B0; have B1 := m_B1; have HB := m_HB; clear m_HV0 m_HV1 m_B0 m_B1 m_HB; have BR := zA hbox; clear hbox hg; have LT := zA (blk_lt BR.out); obtain ⟨_, _, _, _, _, _⟩ := zc B0; obtain ⟨_, _, _, _, _, _⟩ := zc B1; obtain ⟨_, _, _, _, _, _⟩ := zc BR) | ((with_reducible refine zG 62 rfl ?_); refine goesL_ (some 5) rfl rfl Tryd.func62 (by kernel_rfl) rfl #[.agg #[.bool s0, .slice A0 l0.length c0, .int .i64 e0], .agg #[.bool s1, .slice A1 l1.length c1, .int .i64 e1]] rfl (by (try simp only [List.map_toArray, List.map_cons, List.map_nil]); first | done | rfl) ?_; refine (raw_Add.calls k s0 ok _ _ l0 e0 s1 ok _ _ l1 e1 r1 r2 r3 _ HV0.out HV1.out (laid_below HT.out HB.out) HH.out).mono ?_; rintro e w7 ⟨v7, rfl, hv, hb⟩; obtain ⟨A7, c7, rfl⟩ := V_slice hv; refine ⟨_, rfl, ?_⟩; have HVR := zA (V_mono hv (ok' := fun k_ => (ok k_ ∨ w.heap.size ≤ k_) ∧ k_ ≠ gBR) (fun k_ hk => by { have h1 := LT.out; have h3 := GBR.out; rcases hk with (hk | hk) | hk; (exact ⟨.inl hk, fun e => by { subst e; exact absurd (Hok.out _ hk) (Nat.not_lt.mpr h3) }⟩); (exact ⟨.inl hk, fun e => by { subst e; exact absurd (Hok.out _ hk) (Nat.not_lt.mpr h3) }⟩); (exact ⟨.inr (by omega), by omega⟩) })); have m_BR := zA (blk_below BR.out hb); have m_HB := zA (below_step HB.out hb); clear HB hb BR; have BR := m_BR; have HB := m_HB; clear m_BR m_HB; obtain ⟨_, _, _, _, _, _⟩ := zc BR))
 refine bodyPost_ret (results_cell_row rfl _ _ gBR 25 #[.bool r1, .slice A7 r2.length c7, .int .i64 r3] (0, 0) _ rfl (by refine blk_put (cs := #[.bool r1, .slice A7 r2.length c7, .int .i64 0]) ?_ 2 _ rfl; refine blk_put (cs := #[.bool r1, .slice none 0 0, .int .i64 0]) ?_ 1 _ rfl; refine blk_put (cs := #[.bool false, .slice none 0 0, .int .i64 0]) ?_ 0 _ rfl; exact BR.out) Tryd.underlying25 rfl (by kernel_rfl)) rfl ?_
 exact ⟨_, rfl, V_mono (V_far (p := ⟨gBR, 2, none⟩) (V_far (p := ⟨gBR, 1, none⟩) (V_far (p := ⟨gBR, 0, none⟩) HVR.out (fun _ hk => hk.2) (.bool r1)) (fun _ hk => hk.2) (.slice A7 r2.length c7)) (fun _ hk => hk.2) (.int .i64 r3)) (fun _ hk => hk.1), below_set (below_set (below_set HB.out GBR.out) GBR.out) GBR.out⟩
theorem hand_Add_key (k : Nat) (a0_0 : Bool) (l0_1 : List Int) (a0_2 : Int) (a1_0 : Bool) (l1_1 : List Int) (a1_2 : Int) (r1 : Bool) (r2 : List Int) (r3 r4 : Int) (h : dyad_Add.f k a0_0 l0_1 a0_2 a1_0 l1_1 a1_2 = some (r1, r2, r3, r4)) :
  ∃ ra rb s1 l1 e1, dyad_number_right.f k a0_0 l0_1 a0_2 = some ra ∧ (ra = true → dyad_number_right.f k a1_0 l1_1 a1_2 = some rb) ∧ ((ra && rb) = true → raw_Add.f k a0_0 l0_1 a0_2 a1_0 l1_1 a1_2 = some (s1, l1, e1)) ∧ ((ra && rb) = true → dyad_room.f k s1 l1 e1 = some (r1, r2, r3, r4)) ∧ ((ra && rb) = false → (r1, r2, r3, r4) = (false, ([] : List Int), (0 : Int), (2 : Int))) := by
 unfold dyad_Add.f at h
 cases hA : dyad_number_right.f k a0_0 l0_1 a0_2 with
 | none => rw [hA] at h; cases h
 | some ra =>
 rw [hA] at h
 replace h : (if ra = true then _ else _) = _ := h
 cases ra with
 | false => rw [if_neg (by decide)] at h; injection h with h; exact ⟨false, false, false, [], 0, rfl, (fun q => by cases q), (fun q => by cases q), (fun q => by cases q), fun _ => h.symm⟩
 | true =>
 rw [if_pos rfl] at h
 cases hB : dyad_number_right.f k a1_0 l1_1 a1_2 with
 | none => rw [hB] at h; cases h
 | some rb =>
 rw [hB] at h
 replace h : (if rb = true then _ else _) = _ := h
 cases rb with
 | false => rw [if_neg (by decide)] at h; injection h with h; exact ⟨true, false, false, [], 0, rfl, fun _ => rfl, (fun q => by cases q), (fun q => by cases q), fun _ => h.symm⟩
 | true =>
 rw [if_pos rfl] at h
 cases hC : raw_Add.f k a0_0 l0_1 a0_2 a1_0 l1_1 a1_2 with
 | none => rw [hC] at h; cases h
 | some t =>
 obtain ⟨s1, l1, e1⟩ := t
 rw [hC] at h
 replace h : (dyad_room.f k s1 l1 e1).bind _ = _ := h
 cases hD : dyad_room.f k s1 l1 e1 with
 | none => rw [hD] at h; cases h
 | some q =>
 obtain ⟨q1, q2, q3, q4⟩ := q
 rw [hD] at h
 injection h with h
 exact ⟨true, true, s1, l1, e1, rfl, fun _ => rfl, fun _ => rfl, fun _ => hD.trans (congrArg some h), fun q => by cases q⟩
set_option maxHeartbeats 8000000 in
set_option maxRecDepth 100000 in
theorem dyad_Add.calls (k : Nat) (a0_0 : Bool) (P0_1_ : Nat → Prop) (A0_1 : Option Addr) (c0_1 : Nat) (l0_1 : List Int) (a0_2 : Int) (a1_0 : Bool) (P1_1_ : Nat → Prop) (A1_1 : Option Addr) (c1_1 : Nat) (l1_1 : List Int) (a1_2 : Int) (r1 : Bool) (r2 : List Int) (r3 : Int) (r4 : Int) (w : World) (hs0_1 : Kd.V (Kd.int .u64) 43 w w.heap.size (fun k_ => P0_1_ k_) (.slice A0_1 l0_1.length c0_1) l0_1) (hs1_1 : Kd.V (Kd.int .u64) 43 w w.heap.size (fun k_ => P1_1_ k_) (.slice A1_1 l1_1.length c1_1) l1_1) (hT : Laid w) (h : dyad_Add.f k a0_0 l0_1 a0_2 a1_0 l1_1 a1_2 = some (r1, r2, r3, r4)) :
  Calls Tryd.prog 17 #[.agg #[.bool a0_0, .slice A0_1 l0_1.length c0_1, .int .i64 a0_2], .agg #[.bool a1_0, .slice A1_1 l1_1.length c1_1, .int .i64 a1_2]] w fun e w' => ∃ v1_ : Value, e = .returned (.tuple #[.agg #[.bool r1, v1_, .int .i64 r3], .int .i64 r4]) ∧ Kd.V (Kd.int .u64) 43 w' w.heap.size (fun k_ => ((P0_1_ k_ ∨ P1_1_ k_) ∨ w.heap.size ≤ k_)) v1_ r2 ∧ Below w.heap.size w w' := by
 have hu25 := Tryd.underlying25
 have hmf : ∀ (fn : Fn) (first cap : Array Value) (w : World), (Instr.makeFunc fn first cap).run Tryd.prog w = .ok (.func fn first cap) w := fun _ _ _ _ => rfl
 have HB := zA (Below.refl w.heap.size w)
 have HT := zA hT
 have HV0 := zA (V_mono (ok' := fun k_ => (P0_1_ k_ ∨ P1_1_ k_) ∧ k_ < w.heap.size) (V_bound hs0_1) (fun k_ hk => ⟨.inl hk.1, hk.2⟩))
 have HV1 := zA (V_mono (ok' := fun k_ => (P0_1_ k_ ∨ P1_1_ k_) ∧ k_ < w.heap.size) (V_bound hs1_1) (fun k_ hk => ⟨.inr hk.1, hk.2⟩))
 have HK := zA (hand_Add_key k a0_0 l0_1 a0_2 a1_0 l1_1 a1_2 r1 r2 r3 r4 h)
 clear hT h hs0_1 hs1_1
 go_enter Tryd.func17, Tryd.ntmps17
 have HK0 := HK.out
 clear HK
 obtain ⟨ra, rb, s1, l1, e1, hA, hB2, hC, hD, hE⟩ := HK0
 replace hA := zA hA
 replace hB2 := zA hB2
 replace hC := zA hC
 replace hD := zA hD
 replace hE := zA hE
 go_wp2_with (first | ((with_reducible refine zD 2 rfl ?_); refine zn (N := 2) (cs := #[.bool a0_0, .slice A0_1 l0_1.length c0_1, .int .i64 a0_2]) (t := 25) rfl rfl ?_; intro gB0 hg w1 hbox hb; have GB0 := zA (hg ▸ below_size HB.out : w.heap.size ≤ gB0); have m_HV0 := zA (V_below HV0.out hb); have m_HV1 := zA (V_below HV1.out hb); have m_HB := zA (below_step HB.out hb); clear HB hb HV0 HV1; have HV0 := m_HV0; have HV1 := m_HV1; have HB := m_HB; clear m_HV0 m_HV1 m_HB; have B0 := zA hbox; clear hbox hg) | ((with_reducible refine zD 3 rfl ?_); refine zn (N := 3) (cs := #[.bool a1_0, .slice A1_1 l1_1.length c1_1, .int .i64 a1_2]) (t := 25) rfl rfl ?_; intro gB1 hg w1 hbox hb; have GB1 := zA (hg ▸ below_size HB.out : w.heap.size ≤ gB1); have m_HV0 := zA (V_below HV0.out hb); have m_HV1 := zA (V_below HV1.out hb); have m_B0 := zA (blk_below B0.out hb); have m_HB := zA (below_step HB.out hb); clear HB hb HV0 HV1 B0; have HV0 := m_HV0; have HV1 := m_HV1; have B0 := m_B0; have HB := m_HB; clear m_HV0 m_HV1 m_B0 m_HB; have B1 := zA hbox; clear hbox hg) | ((with_reducible refine zD 4 rfl ?_); refine zn (N := 4) (cs := #[.bool false, .slice none 0 0, .int .i64 0]) (t := 25) rfl rfl ?_; intro gBR hg w1 hbox hb; have GBR := zA (hg ▸ below_size HB.out : w.heap.size ≤ gBR); have m_HV0 := zA (V_below HV0.out hb); have m_HV1 := zA (V_below HV1.out hb); have m_B0 := zA (blk_below B0.out hb); have m_B1 := zA (blk_below B1.out hb); have m_HB := zA (below_step HB.out hb); clear HB hb HV0 HV1 B0 B1; have HV0 := m_HV0; have HV1 := m_HV1; have B0 := m_B0; have B1 := m_B1; have HB := m_HB; clear m_HV0 m_HV1 m_B0 m_B1 m_HB; have BR := zA hbox; clear hbox hg; obtain ⟨_, _, _, _, _, _⟩ := zc B0; obtain ⟨_, _, _, _, _, _⟩ := zc B1; obtain ⟨_, _, _, _, _, _⟩ := zc BR) | ((with_reducible refine zD 9 rfl ?_); refine hand_slice_event (n := 2) ?hg (N := 9) ?hd (cs := #[.bool a0_0, .slice A0_1 l0_1.length c0_1, .int .i64 a0_2, .bool a1_0, .slice A1_1 l1_1.length c1_1, .int .i64 a1_2]) (t := 25) ?hr ?_; (case hd => rfl); (case hg => rfl); (case hr => first | (go_simp; done) | (go_simp; rfl)); intro gBS hg w1 hbox hb; have GBS := zA (hg ▸ below_size HB.out : w.heap.size ≤ gBS); have m_HV0 := zA (V_below HV0.out hb); have m_HV1 := zA (V_below HV1.out hb); have m_B0 := zA (blk_below B0.out hb); have m_B1 := zA (blk_below B1.out hb); have m_BR := zA (blk_below BR.out hb); have m_HB := zA (below_step HB.out hb); clear HB hb HV0 HV1 B0 B1 BR; have HV0 := m_HV0; have HV1 := m_HV1; have B0 := m_B0; have B1 := m_B1; have BR := m_BR; have HB := m_HB; clear m_HV0 m_HV1 m_B0 m_B1 m_BR m_HB; have BS := zA hbox; clear hbox hg; have LT := zA (blk_lt BR.out); have SZ := zA (below_size HB.out)) | ((with_reducible refine zG 60 rfl ?_); refine goesL_ (some 10) rfl rfl Tryd.func60 (by kernel_rfl) rfl #[.func (.func 61) #[] #[.pointer (some ⟨gB0, 0, none⟩), .pointer (some ⟨gB1, 0, none⟩)], .slice (some ⟨gBS, 0, none⟩) 2 2] rfl (by (try simp only [List.map_toArray, List.map_cons, List.map_nil]); first | done | rfl) ?_; refine (hand_of k _ (ra && rb) 61 _ #[] #[.pointer (some ⟨gB0, 0, none⟩), .pointer (some ⟨gB1, 0, none⟩)] Tryd.func61 (by kernel_rfl) rfl s1 l1 e1 r1 r2 r3 r4 (fun k_ => (P0_1_ k_ ∨ P1_1_ k_) ∧ k_ < w.heap.size) _ (fun w1 hb => (hand_contains _ _ w1 (hand_index2 k gBS a0_0 _ _ l0_1 a0_2 a1_0 _ _ l1_1 a1_2 ra rb w1 (blk_below BS.out hb) (V_reads' (V_below HV0.out hb)).2.2 (V_reads' HV0.out).2.1 (V_reads' (V_below HV1.out hb)).2.2 (V_reads' HV1.out).2.1 hA.out hB2.out)).mono (by rintro x w2 ⟨rfl, hb2⟩; exact ⟨by cases ra <;> cases rb <;> rfl, hb2⟩)) (fun hr w1 hb => calls_of_args (args' := #[.pointer (some ⟨gB0, 0, none⟩), .pointer (some ⟨gB1, 0, none⟩)]) (by simp) (hand_Add_lit k gB0 a0_0 _ _ l0_1 a0_2 gB1 a1_0 _ _ l1_1 a1_2 (fun k_ => (P0_1_ k_ ∨ P1_1_ k_) ∧ k_ < w.heap.size) s1 l1 e1 w1 (blk_below B0.out hb) (V_below HV0.out hb) (blk_below B1.out hb) (V_below HV1.out hb) (fun k_ hk => Nat.lt_of_lt_of_le hk.2 (Nat.le_trans SZ.out hb.size)) (laid_below HT.out (below_step HB.out hb)) (hC.out hr))) hD.out (fun k_ hk => Nat.lt_of_lt_of_le hk.2 SZ.out) hE.out).mono ?_; rintro e w7 ⟨v7, rfl, hv, hb⟩; obtain ⟨A7, c7, rfl⟩ := V_slice hv; refine ⟨_, rfl, ?_⟩; have HVR := zA (V_mono hv (ok' := fun k_ => ((P0_1_ k_ ∨ P1_1_ k_) ∨ w.heap.size ≤ k_) ∧ k_ ≠ gBR) (fun k_ hk => by { have h1 := LT.out; have h3 := GBR.out; rcases hk with hk | hk; (exact ⟨.inl hk.1, by have h4 := hk.2; omega⟩); (exact ⟨.inr (by have h5 := SZ.out; omega), by omega⟩) })); have m_BR := zA (blk_below BR.out hb); have m_HB := zA (below_step HB.out hb); clear HB hb BR; have BR := m_BR; have HB := m_HB; clear m_BR m_HB; obtain ⟨_, _, _, _, _, _⟩ := zc BR))
 refine bodyPost_ret (results_ct rfl _ _ gBR 25 #[.bool r1, .slice A7 r2.length c7, .int .i64 r3] (0, 0) _ rfl (by refine blk_put (cs := #[.bool r1, .slice A7 r2.length c7, .int .i64 0]) ?_ 2 _ rfl; refine blk_put (cs := #[.bool r1, .slice none 0 0, .int .i64 0]) ?_ 1 _ rfl; refine blk_put (cs := #[.bool false, .slice none 0 0, .int .i64 0]) ?_ 0 _ rfl; exact BR.out) Tryd.underlying25 rfl (by kernel_rfl)) rfl ?_
 exact ⟨_, rfl, V_mono (V_far (p := ⟨gBR, 2, none⟩) (V_far (p := ⟨gBR, 1, none⟩) (V_far (p := ⟨gBR, 0, none⟩) HVR.out (fun _ hk => hk.2) (.bool r1)) (fun _ hk => hk.2) (.slice A7 r2.length c7)) (fun _ hk => hk.2) (.int .i64 r3)) (fun _ hk => hk.1), below_set (below_set (below_set HB.out GBR.out) GBR.out) GBR.out⟩
def limbs_Of.f (a0 : Int) : Option (List Int) := if a0 = 0 then (some ([] : List Int)) else (some (([a0] : List Int)))
set_option maxHeartbeats 8000000 in
set_option maxRecDepth 100000 in
theorem limbs_Of.calls (a0 : Int) (r : List Int) (w : World) (h : limbs_Of.f a0 = some r) :
  Calls Tryd.prog 117 #[.int .u64 a0] w fun e w' => ∃ v0_ : Value, e = .returned (v0_) ∧ Kd.R (Kd.int .u64) 43 w' w.heap.size (fun _ => True) v0_ r ∧ Below w.heap.size w w' := by
 have HB := zA (Below.refl w.heap.size w)
 have H : (if a0 = 0 then (some ([] : List Int)) else (some (([a0] : List Int)))) = some r := h
 clear h
 by_cases c2 : a0 = 0
 ·rw [if_pos c2] at H
  have c2b0 := beq_iff_eq.mpr c2
  have c2b1 := bne_eq_false_iff_eq.mpr c2
  clear c2
  obtain rfl := Option.some.inj H
  go_enter Tryd.func117, Tryd.ntmps117
  go_wp2
  go_ret
  exact ⟨_, er, by first | exact R_nil _ _ _ _ _ | exact Kd.N_nil _ _ _ _ _ | exact V_nil _ _ _ _ _ | exact Kd.Q_nil _ _ _ _ _ | exact Kd.S_nil _ _ _ _ _, bq⟩
 rw [if_neg c2] at H
 have c2b0 := beq_eq_false_iff_ne.mpr c2
 have c2b1 := bne_iff_ne.mpr c2
 obtain ⟨y297, hy297⟩ : ∃ y_ : List Int, y_ = (([a0] : List Int)) := ⟨_, rfl⟩
 replace H : (some y297) = some r := zR hy297 H
 have Ny297 := zA hy297
 clear hy297
 obtain rfl := Option.some.inj H
 go_enter Tryd.func117, Tryd.ntmps117
 go_wp2_with (first | ((with_reducible refine zD 6 rfl ?_); refine R_lit (Kd.int .u64) _ 43 ?hg (N := 6) ?hd (xs := ([a0] : List Int)) (inner := [.int .u64 a0]) (ok := fun _ => True) (okp := fun _ => True) ?hr ?hp (fun _ hk => hk) trivial (Below.refl _ _) (Nat.le_refl _) (by simp) ?_; (case hd => rfl); (case hg => rfl); (case hr => first | (go_simp; done) | (go_simp; rfl)); (case hp => exact (Reps.one (show Kd.M (Kd.int .u64) _ _ _ a0 [.int .u64 a0] from rfl) (Reps.none _ _))); intro v298 w3 ho4 hb hg_ hnew_; clear hg_ hnew_; (first | rw [← Ny297.out] at ho4 | (simp only [Int.reduceToNat] at ho4; rw [← Ny297.out] at ho4)); have HO299 := zA (R_lower ho4 (below_size bq)); replace HB := ze hb; clear hb ho4))
 go_ret
 exact ⟨_, er, ru HO299.out, bq⟩
end Go.Proofs.YtemfckibdojbbaaDoor.PAll
