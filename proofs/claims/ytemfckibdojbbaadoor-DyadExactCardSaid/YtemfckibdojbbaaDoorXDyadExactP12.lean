/- Printed functions, merged by a program of this session. -/
import Derived.Test.YtemfckibdojbbaaDoorXDyadExactP7
import Derived.Test.YtemfckibdojbbaaDoorXDyadExactP0
import Derived.Test.YtemfckibdojbbaaDoorXDyadExactP6
import Derived.Test.YtemfckibdojbbaaDoorXDyadExactP11
import Derived.Test.YtemfckibdojbbaaDoorXDyadExactP1
import Derived.Test.YtemfckibdojbbaaDoorXDyadExactP10
import Derived.Laws.StructEq
import Derived.Test.YtemfckibdojbbaaDoorXDyadExactSh
namespace Go.Proofs.YtemfckibdojbbaaDoor.PAll
open Go.RowKit Go.Proofs.YtemfckibdojbbaaDoorW.PrintWords Go.Proofs.YtemfckibdojbbaaDoorW.PrintLast Go.Proofs.YtemfckibdojbbaaDoorW.PrintMore Go.Proofs.YtemfckibdojbbaaDoorW.PrintWords.Kd
attribute [local go_sem] max2_int min2_int max_two min_two max_three min_three max_four min_four   -- for this text's walks alone
set_option linter.unusedVariables false
set_option linter.unusedSimpArgs false
attribute [local go_sem] ext135 ext136
def dyad_Cut.f (k : Nat) (a0_0 : Bool) (l0_1 : List Int) (a0_2 : Int) (a1 : Int) (a2 : Bool) : Option (Bool × List Int × Int × Int) := if a1 < 1 then (some (false, ([] : List Int), 0, 2)) else ((dyad_number_right.f k a0_0 l0_1 a0_2).bind fun t330 => (if t330 = true then ((raw_Cut.f k a0_0 l0_1 a0_2 a1 a2).bind fun bt331 => ((dyad_room.f k bt331.1 bt331.2.1 bt331.2.2).bind fun bt336 => (some (bt336.1, bt336.2.1, bt336.2.2.1, bt336.2.2.2)))) else (some (false, ([] : List Int), 0, 2))))
theorem dyad_Cut.mono : ∀ a0 a1 a2 a3 a4 k, LeO (dyad_Cut.f k a0 a1 a2 a3 a4) (dyad_Cut.f (k + 1) a0 a1 a2 a3 a4) := by
 intro a0 a1 a2 a3 a4 k
 unfold dyad_Cut.f
 repeat' first
   | (with_reducible exact dyad_number_right.mono _ _ _ _)
   | (with_reducible exact dyad_room.mono _ _ _ _)
   | (with_reducible exact raw_Cut.mono _ _ _ _ _ _)
   | (with_reducible exact LeO.refl _)
   | (with_reducible exact LeO.none _)
   | (with_reducible refine LeO.ite ?_ ?_)
   | (with_reducible refine LeO.bind ?_ (fun _ => ?_))
   | exact dyad_number_right.mono _ _ _ _
   | exact dyad_room.mono _ _ _ _
   | exact raw_Cut.mono _ _ _ _ _ _
   | exact LeO.none _
   | refine LeO.ite ?_ ?_
   | refine LeO.bind ?_ (fun _ => ?_)
set_option maxRecDepth 100000 in
theorem hand_Cut_lit (k : Nat) (g0 : Nat) (s0 : Bool) (A0 : Option Addr) (c0 : Nat) (l0 : List Int) (e0 : Int) (gx0 : Nat) (x0 : Int) (gx1 : Nat) (x1 : Bool) (ok : Nat → Prop) (r1 : Bool) (r2 : List Int) (r3 : Int) (w : World) (hb0 : w.heap[g0]? = some (.cells #[.bool s0, .slice A0 l0.length c0, .int .i64 e0] 25 (0, 0))) (hv0 : Kd.V (Kd.int .u64) 43 w w.heap.size (ok) (.slice A0 l0.length c0) l0) (hbx0 : w.heap[gx0]? = some (.cells #[.int .i64 x0] 3 (0, 0))) (hbx1 : w.heap[gx1]? = some (.cells #[.bool x1] 4 (0, 0))) (hok : ∀ k_, ok k_ → k_ < w.heap.size) (hT : Laid w) (h : raw_Cut.f k s0 l0 e0 x0 x1 = some (r1, r2, r3)) :
  Calls Tryd.prog 63 #[.pointer (some ⟨g0, 0, none⟩), .pointer (some ⟨gx0, 0, none⟩), .pointer (some ⟨gx1, 0, none⟩)] w fun x w' => ∃ v1_ : Value, x = .returned (.agg #[.bool r1, v1_, .int .i64 r3]) ∧ Kd.V (Kd.int .u64) 43 w' w.heap.size (fun k_ => ok k_ ∨ w.heap.size ≤ k_) (v1_) r2 ∧ Below w.heap.size w w' := by
 have hu25 := Tryd.underlying25
 have HB := zA (Below.refl w.heap.size w)
 have HV0 := zA hv0
 have B0 := zA hb0
 have BX0 := zA hbx0
 have BX1 := zA hbx1
 have HT := zA hT
 have HH := zA h
 have Hok := zA hok
 clear hT h hok hv0 hb0 hbx0 hbx1
 go_enter Tryd.func63, Tryd.ntmps63
 go_wp2_with (first | ((with_reducible refine zD 3 rfl ?_); refine zn (N := 3) (cs := #[.bool false, .slice none 0 0, .int .i64 0]) (t := 25) rfl rfl ?_; intro gBR hg w1 hbox hb; have GBR := zA (hg ▸ below_size HB.out : w.heap.size ≤ gBR); have m_HV0 := zA (V_below HV0.out hb); have m_B0 := zA (blk_below B0.out hb); have m_BX0 := zA (blk_below BX0.out hb); have m_BX1 := zA (blk_below BX1.out hb); have m_HB := zA (below_step HB.out hb); clear HB hb HV0 B0 BX0 BX1; have HV0 := m_HV0; have B0 := m_B0; have BX0 := m_BX0; have BX1 := m_BX1; have HB := m_HB; clear m_HV0 m_B0 m_BX0 m_BX1 m_HB; have BR := zA hbox; clear hbox hg; have LT := zA (blk_lt BR.out); obtain ⟨_, _, _, _, _, _⟩ := zc B0; have hcBX00 := (blk_cell BX0.out 0).trans rfl; have hfBX00 := blk_frozen BX0.out 0; have hcBX10 := (blk_cell BX1.out 0).trans rfl; have hfBX10 := blk_frozen BX1.out 0; obtain ⟨_, _, _, _, _, _⟩ := zc BR) | ((with_reducible refine zG 64 rfl ?_); refine goesL_ (some 7) rfl rfl Tryd.func64 (by kernel_rfl) rfl #[.agg #[.bool s0, .slice A0 l0.length c0, .int .i64 e0], .int .i64 x0, .bool x1] rfl (by (try simp only [List.map_toArray, List.map_cons, List.map_nil]); first | done | rfl) ?_; refine (raw_Cut.calls k s0 ok _ _ l0 e0 x0 x1 r1 r2 r3 _ HV0.out (laid_below HT.out HB.out) HH.out).mono ?_; rintro e w7 ⟨v7, rfl, hv, hb⟩; obtain ⟨A7, c7, rfl⟩ := V_slice hv; refine ⟨_, rfl, ?_⟩; have HVR := zA (V_mono hv (ok' := fun k_ => (ok k_ ∨ w.heap.size ≤ k_) ∧ k_ ≠ gBR) (fun k_ hk => by { have h1 := LT.out; have h3 := GBR.out; rcases hk with hk | hk; (exact ⟨.inl hk, fun e => by { subst e; exact absurd (Hok.out _ hk) (Nat.not_lt.mpr h3) }⟩); (exact ⟨.inr (by omega), by omega⟩) })); have m_BR := zA (blk_below BR.out hb); have m_HB := zA (below_step HB.out hb); clear HB hb BR; have BR := m_BR; have HB := m_HB; clear m_BR m_HB; obtain ⟨_, _, _, _, _, _⟩ := zc BR))
 refine bodyPost_ret (results_cell_row rfl _ _ gBR 25 #[.bool r1, .slice A7 r2.length c7, .int .i64 r3] (0, 0) _ rfl (by refine blk_put (cs := #[.bool r1, .slice A7 r2.length c7, .int .i64 0]) ?_ 2 _ rfl; refine blk_put (cs := #[.bool r1, .slice none 0 0, .int .i64 0]) ?_ 1 _ rfl; refine blk_put (cs := #[.bool false, .slice none 0 0, .int .i64 0]) ?_ 0 _ rfl; exact BR.out) Tryd.underlying25 rfl (by kernel_rfl)) rfl ?_
 exact ⟨_, rfl, V_mono (V_far (p := ⟨gBR, 2, none⟩) (V_far (p := ⟨gBR, 1, none⟩) (V_far (p := ⟨gBR, 0, none⟩) HVR.out (fun _ hk => hk.2) (.bool r1)) (fun _ hk => hk.2) (.slice A7 r2.length c7)) (fun _ hk => hk.2) (.int .i64 r3)) (fun _ hk => hk.1), below_set (below_set (below_set HB.out GBR.out) GBR.out) GBR.out⟩
theorem hand_Cut_key (k : Nat) (a0_0 : Bool) (l0_1 : List Int) (a0_2 : Int) (a1 : Int) (a2 : Bool) (r1 : Bool) (r2 : List Int) (r3 r4 : Int) (h : dyad_Cut.f k a0_0 l0_1 a0_2 a1 a2 = some (r1, r2, r3, r4)) :
  (a1 < 1 ∧ (r1, r2, r3, r4) = (false, ([] : List Int), (0 : Int), (2 : Int))) ∨ (¬ a1 < 1 ∧ ∃ ra s1 l1 e1, dyad_number_right.f k a0_0 l0_1 a0_2 = some ra ∧ ((ra) = true → raw_Cut.f k a0_0 l0_1 a0_2 a1 a2 = some (s1, l1, e1)) ∧ ((ra) = true → dyad_room.f k s1 l1 e1 = some (r1, r2, r3, r4)) ∧ ((ra) = false → (r1, r2, r3, r4) = (false, ([] : List Int), (0 : Int), (2 : Int)))) := by
 unfold dyad_Cut.f at h
 by_cases q1 : a1 < 1
 ·rw [if_pos q1] at h; injection h with h; exact .inl ⟨q1, h.symm⟩
 rw [if_neg q1] at h
 refine .inr ⟨q1, ?_⟩
 cases hA : dyad_number_right.f k a0_0 l0_1 a0_2 with
 | none => rw [hA] at h; cases h
 | some ra =>
 rw [hA] at h
 replace h : (if ra = true then _ else _) = _ := h
 cases ra with
 | false => rw [if_neg (by decide)] at h; injection h with h; exact ⟨false, false, [], 0, rfl, (fun q => by cases q), (fun q => by cases q), fun _ => h.symm⟩
 | true =>
 rw [if_pos rfl] at h
 cases hC : raw_Cut.f k a0_0 l0_1 a0_2 a1 a2 with
 | none => rw [hC] at h; cases h
 | some t =>
 obtain ⟨s1, l1, e1⟩ := t
 rw [hC] at h
 replace h : (dyad_room.f k s1 l1 e1).bind _ = _ := h
 cases hD : dyad_room.f k s1 l1 e1 with
 | none => rw [hD] at h; cases h
 | some q =>
 obtain ⟨q1, q2, q3, q4⟩ := q
 rw [hD] at h
 injection h with h
 exact ⟨true, s1, l1, e1, rfl, fun _ => rfl, fun _ => hD.trans (congrArg some h), fun q => by cases q⟩
set_option maxHeartbeats 8000000 in
set_option maxRecDepth 100000 in
theorem dyad_Cut.calls (k : Nat) (a0_0 : Bool) (P0_1_ : Nat → Prop) (A0_1 : Option Addr) (c0_1 : Nat) (l0_1 : List Int) (a0_2 : Int) (a1 : Int) (a2 : Bool) (r1 : Bool) (r2 : List Int) (r3 : Int) (r4 : Int) (w : World) (hs0_1 : Kd.V (Kd.int .u64) 43 w w.heap.size (fun k_ => P0_1_ k_) (.slice A0_1 l0_1.length c0_1) l0_1) (hT : Laid w) (h : dyad_Cut.f k a0_0 l0_1 a0_2 a1 a2 = some (r1, r2, r3, r4)) :
  Calls Tryd.prog 18 #[.agg #[.bool a0_0, .slice A0_1 l0_1.length c0_1, .int .i64 a0_2], .int .i64 a1, .bool a2] w fun e w' => ∃ v1_ : Value, e = .returned (.tuple #[.agg #[.bool r1, v1_, .int .i64 r3], .int .i64 r4]) ∧ Kd.V (Kd.int .u64) 43 w' w.heap.size (fun k_ => (P0_1_ k_ ∨ w.heap.size ≤ k_)) v1_ r2 ∧ Below w.heap.size w w' := by
 have hu25 := Tryd.underlying25
 have hmf : ∀ (fn : Fn) (first cap : Array Value) (w : World), (Instr.makeFunc fn first cap).run Tryd.prog w = .ok (.func fn first cap) w := fun _ _ _ _ => rfl
 have HB := zA (Below.refl w.heap.size w)
 have HT := zA hT
 have HV0 := zA (V_mono (ok' := fun k_ => (P0_1_ k_) ∧ k_ < w.heap.size) (V_bound hs0_1) (fun k_ hk => ⟨hk.1, hk.2⟩))
 have HK := zA (hand_Cut_key k a0_0 l0_1 a0_2 a1 a2 r1 r2 r3 r4 h)
 clear hT h hs0_1
 go_enter Tryd.func18, Tryd.ntmps18
 rcases HK.out with ⟨q, hq⟩ | ⟨q, HK0⟩
 ·clear HK
  simp only [Prod.mk.injEq] at hq
  obtain ⟨rfl, rfl, rfl, rfl⟩ := hq
  go_wp2_with (first | ((with_reducible refine zD 3 rfl ?_); refine zn (N := 3) (cs := #[.bool a0_0, .slice A0_1 l0_1.length c0_1, .int .i64 a0_2]) (t := 25) rfl rfl ?_; intro gB0 hg w1 hbox hb; have GB0 := zA (hg ▸ below_size HB.out : w.heap.size ≤ gB0); have m_HV0 := zA (V_below HV0.out hb); have m_HB := zA (below_step HB.out hb); clear HB hb HV0; have HV0 := m_HV0; have HB := m_HB; clear m_HV0 m_HB; have B0 := zA hbox; clear hbox hg) | ((with_reducible refine zD 4 rfl ?_); refine zn (N := 4) (cs := #[.int .i64 a1]) (t := 3) rfl rfl ?_; intro gBX0 hg w1 hbox hb; have GBX0 := zA (hg ▸ below_size HB.out : w.heap.size ≤ gBX0); have m_HV0 := zA (V_below HV0.out hb); have m_B0 := zA (blk_below B0.out hb); have m_HB := zA (below_step HB.out hb); clear HB hb HV0 B0; have HV0 := m_HV0; have B0 := m_B0; have HB := m_HB; clear m_HV0 m_B0 m_HB; have BX0 := zA hbox; clear hbox hg) | ((with_reducible refine zD 5 rfl ?_); refine zn (N := 5) (cs := #[.bool a2]) (t := 4) rfl rfl ?_; intro gBX1 hg w1 hbox hb; have GBX1 := zA (hg ▸ below_size HB.out : w.heap.size ≤ gBX1); have m_HV0 := zA (V_below HV0.out hb); have m_B0 := zA (blk_below B0.out hb); have m_BX0 := zA (blk_below BX0.out hb); have m_HB := zA (below_step HB.out hb); clear HB hb HV0 B0 BX0; have HV0 := m_HV0; have B0 := m_B0; have BX0 := m_BX0; have HB := m_HB; clear m_HV0 m_B0 m_BX0 m_HB; have BX1 := zA hbox; clear hbox hg) | ((with_reducible refine zD 6 rfl ?_); refine zn (N := 6) (cs := #[.bool false, .slice none 0 0, .int .i64 0]) (t := 25) rfl rfl ?_; intro gBR hg w1 hbox hb; have GBR := zA (hg ▸ below_size HB.out : w.heap.size ≤ gBR); have m_HV0 := zA (V_below HV0.out hb); have m_B0 := zA (blk_below B0.out hb); have m_BX0 := zA (blk_below BX0.out hb); have m_BX1 := zA (blk_below BX1.out hb); have m_HB := zA (below_step HB.out hb); clear HB hb HV0 B0 BX0 BX1; have HV0 := m_HV0; have B0 := m_B0; have BX0 := m_BX0; have BX1 := m_BX1; have HB := m_HB; clear m_HV0 m_B0 m_BX0 m_BX1 m_HB; have BR := zA hbox; clear hbox hg; obtain ⟨_, _, _, _, _, _⟩ := zc B0; have hcBX00 := (blk_cell BX0.out 0).trans rfl; have hfBX00 := blk_frozen BX0.out 0; have hcBX10 := (blk_cell BX1.out 0).trans rfl; have hfBX10 := blk_frozen BX1.out 0; obtain ⟨_, _, _, _, _, _⟩ := zc BR))
  refine bodyPost_ret (results_ct rfl _ _ gBR 25 #[.bool false, .slice none 0 0, .int .i64 0] (0, 0) _ rfl (by refine blk_put (cs := #[.bool false, .slice none 0 0, .int .i64 0]) ?_ 2 _ rfl; refine blk_put (cs := #[.bool false, .slice none 0 0, .int .i64 0]) ?_ 1 _ rfl; refine blk_put (cs := #[.bool false, .slice none 0 0, .int .i64 0]) ?_ 0 _ rfl; exact BR.out) Tryd.underlying25 rfl (by kernel_rfl)) rfl ?_
  exact ⟨_, rfl, V_nil _ _ _ _ _, below_set (below_set (below_set HB.out GBR.out) GBR.out) GBR.out⟩
 clear HK
 obtain ⟨ra, s1, l1, e1, hA, hC, hD, hE⟩ := HK0
 replace hA := zA hA
 replace hC := zA hC
 replace hD := zA hD
 replace hE := zA hE
 go_wp2_with (first | ((with_reducible refine zD 3 rfl ?_); refine zn (N := 3) (cs := #[.bool a0_0, .slice A0_1 l0_1.length c0_1, .int .i64 a0_2]) (t := 25) rfl rfl ?_; intro gB0 hg w1 hbox hb; have GB0 := zA (hg ▸ below_size HB.out : w.heap.size ≤ gB0); have m_HV0 := zA (V_below HV0.out hb); have m_HB := zA (below_step HB.out hb); clear HB hb HV0; have HV0 := m_HV0; have HB := m_HB; clear m_HV0 m_HB; have B0 := zA hbox; clear hbox hg) | ((with_reducible refine zD 4 rfl ?_); refine zn (N := 4) (cs := #[.int .i64 a1]) (t := 3) rfl rfl ?_; intro gBX0 hg w1 hbox hb; have GBX0 := zA (hg ▸ below_size HB.out : w.heap.size ≤ gBX0); have m_HV0 := zA (V_below HV0.out hb); have m_B0 := zA (blk_below B0.out hb); have m_HB := zA (below_step HB.out hb); clear HB hb HV0 B0; have HV0 := m_HV0; have B0 := m_B0; have HB := m_HB; clear m_HV0 m_B0 m_HB; have BX0 := zA hbox; clear hbox hg) | ((with_reducible refine zD 5 rfl ?_); refine zn (N := 5) (cs := #[.bool a2]) (t := 4) rfl rfl ?_; intro gBX1 hg w1 hbox hb; have GBX1 := zA (hg ▸ below_size HB.out : w.heap.size ≤ gBX1); have m_HV0 := zA (V_below HV0.out hb); have m_B0 := zA (blk_below B0.out hb); have m_BX0 := zA (blk_below BX0.out hb); have m_HB := zA (below_step HB.out hb); clear HB hb HV0 B0 BX0; have HV0 := m_HV0; have B0 := m_B0; have BX0 := m_BX0; have HB := m_HB; clear m_HV0 m_B0 m_BX0 m_HB; have BX1 := zA hbox; clear hbox hg) | ((with_reducible refine zD 6 rfl ?_); refine zn (N := 6) (cs := #[.bool false, .slice none 0 0, .int .i64 0]) (t := 25) rfl rfl ?_; intro gBR hg w1 hbox hb; have GBR := zA (hg ▸ below_size HB.out : w.heap.size ≤ gBR); have m_HV0 := zA (V_below HV0.out hb); have m_B0 := zA (blk_below B0.out hb); have m_BX0 := zA (blk_below BX0.out hb); have m_BX1 := zA (blk_below BX1.out hb); have m_HB := zA (below_step HB.out hb); clear HB hb HV0 B0 BX0 BX1; have HV0 := m_HV0; have B0 := m_B0; have BX0 := m_BX0; have BX1 := m_BX1; have HB := m_HB; clear m_HV0 m_B0 m_BX0 m_BX1 m_HB; have BR := zA hbox; clear hbox hg; obtain ⟨_, _, _, _, _, _⟩ := zc B0; have hcBX00 := (blk_cell BX0.out 0).trans rfl; have hfBX00 := blk_frozen BX0.out 0; have hcBX10 := (blk_cell BX1.out 0).trans rfl; have hfBX10 := blk_frozen BX1.out 0; obtain ⟨_, _, _, _, _, _⟩ := zc BR) | ((with_reducible refine zD 13 rfl ?_); refine hand_slice_event (n := 1) ?hg (N := 13) ?hd (cs := #[.bool a0_0, .slice A0_1 l0_1.length c0_1, .int .i64 a0_2]) (t := 25) ?hr ?_; (case hd => rfl); (case hg => rfl); (case hr => first | (go_simp; done) | (go_simp; rfl)); intro gBS hg w1 hbox hb; have GBS := zA (hg ▸ below_size HB.out : w.heap.size ≤ gBS); have m_HV0 := zA (V_below HV0.out hb); have m_B0 := zA (blk_below B0.out hb); have m_BX0 := zA (blk_below BX0.out hb); have m_BX1 := zA (blk_below BX1.out hb); have m_BR := zA (blk_below BR.out hb); have m_HB := zA (below_step HB.out hb); clear HB hb HV0 B0 BX0 BX1 BR; have HV0 := m_HV0; have B0 := m_B0; have BX0 := m_BX0; have BX1 := m_BX1; have BR := m_BR; have HB := m_HB; clear m_HV0 m_B0 m_BX0 m_BX1 m_BR m_HB; have BS := zA hbox; clear hbox hg; have LT := zA (blk_lt BR.out); have SZ := zA (below_size HB.out)) | ((with_reducible refine zG 60 rfl ?_); refine goesL_ (some 14) rfl rfl Tryd.func60 (by kernel_rfl) rfl #[.func (.func 63) #[] #[.pointer (some ⟨gB0, 0, none⟩), .pointer (some ⟨gBX0, 0, none⟩), .pointer (some ⟨gBX1, 0, none⟩)], .slice (some ⟨gBS, 0, none⟩) 1 1] rfl (by (try simp only [List.map_toArray, List.map_cons, List.map_nil]); first | done | rfl) ?_; refine (hand_of k _ (ra) 63 _ #[] #[.pointer (some ⟨gB0, 0, none⟩), .pointer (some ⟨gBX0, 0, none⟩), .pointer (some ⟨gBX1, 0, none⟩)] Tryd.func63 (by kernel_rfl) rfl s1 l1 e1 r1 r2 r3 r4 (fun k_ => (P0_1_ k_) ∧ k_ < w.heap.size) _ (fun w1 hb => (hand_contains _ _ w1 (hand_index1 k gBS a0_0 _ _ l0_1 a0_2 ra w1 (blk_below BS.out hb) (V_reads' (V_below HV0.out hb)).2.2 (V_reads' HV0.out).2.1 hA.out)).mono (by rintro x w2 ⟨rfl, hb2⟩; exact ⟨by cases ra <;> rfl, hb2⟩)) (fun hr w1 hb => calls_of_args (args' := #[.pointer (some ⟨gB0, 0, none⟩), .pointer (some ⟨gBX0, 0, none⟩), .pointer (some ⟨gBX1, 0, none⟩)]) (by simp) (hand_Cut_lit k gB0 a0_0 _ _ l0_1 a0_2 gBX0 a1 gBX1 a2 (fun k_ => (P0_1_ k_) ∧ k_ < w.heap.size) s1 l1 e1 w1 (blk_below B0.out hb) (V_below HV0.out hb) (blk_below BX0.out hb) (blk_below BX1.out hb) (fun k_ hk => Nat.lt_of_lt_of_le hk.2 (Nat.le_trans SZ.out hb.size)) (laid_below HT.out (below_step HB.out hb)) (hC.out hr))) hD.out (fun k_ hk => Nat.lt_of_lt_of_le hk.2 SZ.out) hE.out).mono ?_; rintro e w7 ⟨v7, rfl, hv, hb⟩; obtain ⟨A7, c7, rfl⟩ := V_slice hv; refine ⟨_, rfl, ?_⟩; have HVR := zA (V_mono hv (ok' := fun k_ => ((P0_1_ k_) ∨ w.heap.size ≤ k_) ∧ k_ ≠ gBR) (fun k_ hk => by { have h1 := LT.out; have h3 := GBR.out; rcases hk with hk | hk; (exact ⟨.inl hk.1, by have h4 := hk.2; omega⟩); (exact ⟨.inr (by have h5 := SZ.out; omega), by omega⟩) })); have m_BR := zA (blk_below BR.out hb); have m_HB := zA (below_step HB.out hb); clear HB hb BR; have BR := m_BR; have HB := m_HB; clear m_BR m_HB; obtain ⟨_, _, _, _, _, _⟩ := zc BR))
 refine bodyPost_ret (results_ct rfl _ _ gBR 25 #[.bool r1, .slice A7 r2.length c7, .int .i64 r3] (0, 0) _ rfl (by refine blk_put (cs := #[.bool r1, .slice A7 r2.length c7, .int .i64 0]) ?_ 2 _ rfl; refine blk_put (cs := #[.bool r1, .slice none 0 0, .int .i64 0]) ?_ 1 _ rfl; refine blk_put (cs := #[.bool false, .slice none 0 0, .int .i64 0]) ?_ 0 _ rfl; exact BR.out) Tryd.underlying25 rfl (by kernel_rfl)) rfl ?_
 exact ⟨_, rfl, V_mono (V_far (p := ⟨gBR, 2, none⟩) (V_far (p := ⟨gBR, 1, none⟩) (V_far (p := ⟨gBR, 0, none⟩) HVR.out (fun _ hk => hk.2) (.bool r1)) (fun _ hk => hk.2) (.slice A7 r2.length c7)) (fun _ hk => hk.2) (.int .i64 r3)) (fun _ hk => hk.1), below_set (below_set (below_set HB.out GBR.out) GBR.out) GBR.out⟩
def ulpref03_Same.l0 : Nat → List Int → List Int → Int → Int → Option (Bool)
 | 0, _, _, _, _ => none
 | k + 1, x0, x1, x12, x13 => if x13 < x12 then (if 0 ≤ x13 then (if x13 < (x0.length : Int) then (if x13 < (x1.length : Int) then (if (rd x0 x13) = (rd x1 x13) then (ulpref03_Same.l0 k x0 x1 x12 (wrap64 (x13 + 1))) else (some false)) else (none)) else (none)) else (none)) else (some true)
def ulpref03_Same.f (k : Nat) (l0 : List Int) (l1 : List Int) : Option (Bool) := if (l0.length : Int) = (l1.length : Int) then (ulpref03_Same.l0 k l0 l1 (l0.length : Int) 0) else (some false)
theorem ulpref03_Same.mono_l : ∀ k, (∀ y0 y1 y2 y3, LeO (ulpref03_Same.l0 k y0 y1 y2 y3) (ulpref03_Same.l0 (k + 1) y0 y1 y2 y3))
 | 0 => fun _ _ _ _ r h => by simp [ulpref03_Same.l0] at h
 | k + 1 => by
  have ih0 := ulpref03_Same.mono_l k
  intro y0 y1 y2 y3
  unfold ulpref03_Same.l0
  repeat' first
  | (with_reducible exact ih0 _ _ _ _)
  | (with_reducible exact LeO.refl _)
  | (with_reducible exact LeO.none _)
  | (with_reducible refine LeO.ite ?_ ?_)
  | (with_reducible refine LeO.bind ?_ (fun _ => ?_))
  | exact ih0 _ _ _ _
  | exact LeO.none _
  | refine LeO.ite ?_ ?_
  | refine LeO.bind ?_ (fun _ => ?_)
theorem ulpref03_Same.mono : ∀ a0 a1 k, LeO (ulpref03_Same.f k a0 a1) (ulpref03_Same.f (k + 1) a0 a1) := by
 intro a0 a1 k
 have ih0 := ulpref03_Same.mono_l k
 unfold ulpref03_Same.f
 repeat' first
   | (with_reducible exact ih0 _ _ _ _)
   | (with_reducible exact LeO.refl _)
   | (with_reducible exact LeO.none _)
   | (with_reducible refine LeO.ite ?_ ?_)
   | (with_reducible refine LeO.bind ?_ (fun _ => ?_))
   | exact ih0 _ _ _ _
   | exact LeO.none _
   | refine LeO.ite ?_ ?_
   | refine LeO.bind ?_ (fun _ => ?_)
set_option maxHeartbeats 8000000 in
set_option maxRecDepth 100000 in
theorem ulpref03_Same.calls (k : Nat) (A0 : Option Addr) (c0 : Nat) (l0 : List Int) (A1 : Option Addr) (c1 : Nat) (l1 : List Int) (r : Bool) (w : World) (hr0 : Kd.C (Kd.int .u64) w A0 l0.length l0) (hc0 : l0.length ≤ c0) (hr1 : Kd.C (Kd.int .u64) w A1 l1.length l1) (hc1 : l1.length ≤ c1) (h : ulpref03_Same.f k l0 l1 = some r) :
  Calls Tryd.prog 70 #[.slice A0 l0.length c0, .slice A1 l1.length c1] w fun e w' => e = .returned (.bool r) ∧ Drawn0 w w' := by
 have HR0 := zA hr0
 have HC0 := zA hc0
 clear hr0 hc0
 have HR1 := zA hr1
 have HC1 := zA hc1
 clear hr1 hc1
 have H : (if (l0.length : Int) = (l1.length : Int) then (ulpref03_Same.l0 k l0 l1 (l0.length : Int) 0) else (some false)) = some r := h
 clear h
 by_cases c3 : (l0.length : Int) = (l1.length : Int)
 ·rw [if_pos c3] at H
  have c3b0 := beq_iff_eq.mpr c3
  have c3b1 := bne_eq_false_iff_eq.mpr c3
  have c3b2 : (l0.length == l1.length) = true := by first | simpa using c3 | (simp at c3 ⊢; omega)
  clear c3
  have H' := zA H
  clear H
  go_enter Tryd.func70, Tryd.ntmps70
  go_wp2
  repeat (go_quiet (fail); try go_wp2)
  go_loopg [13] k (fun kq v13 w' => ∃ (x13_1 : Int), v13 = .int .i64 x13_1 ∧ Aside0 (ulpref03_Same.l0 kq l0 l1 (l0.length : Int) x13_1 = some r) ∧ Aside0 (kq ≤ k) ∧ Drawn0 w w')
  case atStart => exact ⟨(0), zi, H', ⟨Nat.le_refl _⟩, by repeat (first | exact Drawn0.refl _ | apply Drawn0.step)⟩
  case round =>
   clear H'
   try clear c1
   try clear c3
   try clear c3b0
   try clear c3b1
   try clear c3b2
   obtain ⟨x13_1, rfl, HA, HK1, ⟨m1, rfl⟩⟩ := hrel
   cases gk with
   | zero => exact absurd HA.out (by simp [ulpref03_Same.l0])
   | succ k1 =>
    have H := HA.out
    clear HA
    simp only [ulpref03_Same.l0] at H
    by_cases c4 : x13_1 < (l0.length : Int)
    ·rw [if_pos c4] at H
     have c4b0 := decide_eq_true c4
     clear c4
     replace H := dn H
     obtain ⟨c5, H⟩ := H
     have c5b0 := decide_eq_true c5
     clear c5
     replace H := dn H
     obtain ⟨c6, H⟩ := H
     have c6b0 := decide_eq_true c6
     clear c6
     replace H := dn H
     obtain ⟨c7, H⟩ := H
     have c7b0 := decide_eq_true c7
     clear c7
     by_cases c8 : (rd l0 x13_1) = (rd l1 x13_1)
     ·rw [if_pos c8] at H
      have c8b0 := beq_iff_eq.mpr c8
      have c8b1 := bne_eq_false_iff_eq.mpr c8
      clear c8
      have H' := zA H
      clear H
      have p342 : 0 ≤ (x13_1 : Int) := od
      have q342 : x13_1 < (l0.length : Int) := od
      obtain ⟨ad342, e342, hx342_0⟩ := Kd.at_int HR0.out x13_1 p342 q342
      cases e342
      replace p342 := eq_true p342
      replace q342 := eq_true q342
      have p343 : 0 ≤ (x13_1 : Int) := od
      have q343 : x13_1 < (l1.length : Int) := od
      obtain ⟨ad343, e343, hx343_0⟩ := Kd.at_int HR1.out x13_1 p343 q343
      cases e343
      replace p343 := eq_true p343
      replace q343 := eq_true q343
      go_wp2
      repeat (go_quiet (fail); try go_wp2)
      go_roundg k1
      case measure => have := HK1.out; omega
      case rel => exact ⟨(wrap64 (x13_1 + 1)), zi, H', ⟨by have := HK1.out; omega⟩, by repeat (first | exact Drawn0.refl _ | apply Drawn0.step)⟩
     rw [if_neg c8] at H
     have c8b0 := beq_eq_false_iff_ne.mpr c8
     have c8b1 := bne_iff_ne.mpr c8
     obtain rfl := Option.some.inj H
     have p342 : 0 ≤ (x13_1 : Int) := od
     have q342 : x13_1 < (l0.length : Int) := od
     obtain ⟨ad342, e342, hx342_0⟩ := Kd.at_int HR0.out x13_1 p342 q342
     cases e342
     replace p342 := eq_true p342
     replace q342 := eq_true q342
     have p343 : 0 ≤ (x13_1 : Int) := od
     have q343 : x13_1 < (l1.length : Int) := od
     obtain ⟨ad343, e343, hx343_0⟩ := Kd.at_int HR1.out x13_1 p343 q343
     cases e343
     replace p343 := eq_true p343
     replace q343 := eq_true q343
     go_wp2
     repeat (go_quiet (fail); try go_wp2)
     go_ret
     exact ⟨by first | rfl | (simp; done) | (simp [*]; done), by repeat (first | exact Drawn0.refl _ | apply Drawn0.step)⟩
    rw [if_neg c4] at H
    have c4b0 := decide_eq_false c4
    clear c4
    obtain rfl := Option.some.inj H
    go_wp2
    repeat (go_quiet (fail); try go_wp2)
    go_ret
    exact ⟨by first | rfl | (simp; done) | (simp [*]; done), by repeat (first | exact Drawn0.refl _ | apply Drawn0.step)⟩
 rw [if_neg c3] at H
 have c3b0 := beq_eq_false_iff_ne.mpr c3
 have c3b1 := bne_iff_ne.mpr c3
 have c3b2 : (l0.length == l1.length) = false := by first | simpa using c3 | (simp at c3 ⊢; omega)
 obtain rfl := Option.some.inj H
 go_enter Tryd.func70, Tryd.ntmps70
 go_wp2
 repeat (go_quiet (fail); try go_wp2)
 go_ret
 exact ⟨by first | rfl | (simp; done) | (simp [*]; done), by repeat (first | exact Drawn0.refl _ | apply Drawn0.step)⟩
def ulpref04_Same.f (k : Nat) (a0_0 : Bool) (l0_1 : List Int) (a0_2 : Int) (a1_0 : Bool) (l1_1 : List Int) (a1_2 : Int) : Option (Bool) := if (a0_0 == a1_0) = true then (if a0_2 = a1_2 then ((ulpref03_Same.f k l0_1 l1_1).bind fun t346 => (some t346)) else (some false)) else (some false)
theorem ulpref04_Same.mono : ∀ a0 a1 a2 a3 a4 a5 k, LeO (ulpref04_Same.f k a0 a1 a2 a3 a4 a5) (ulpref04_Same.f (k + 1) a0 a1 a2 a3 a4 a5) := by
 intro a0 a1 a2 a3 a4 a5 k
 unfold ulpref04_Same.f
 repeat' first
   | (with_reducible exact ulpref03_Same.mono _ _ _)
   | (with_reducible exact LeO.refl _)
   | (with_reducible exact LeO.none _)
   | (with_reducible refine LeO.ite ?_ ?_)
   | (with_reducible refine LeO.bind ?_ (fun _ => ?_))
   | exact ulpref03_Same.mono _ _ _
   | exact LeO.none _
   | refine LeO.ite ?_ ?_
   | refine LeO.bind ?_ (fun _ => ?_)
set_option maxHeartbeats 8000000 in
set_option maxRecDepth 100000 in
theorem ulpref04_Same.calls (k : Nat) (a0_0 : Bool) (A0_1 : Option Addr) (c0_1 : Nat) (l0_1 : List Int) (a0_2 : Int) (a1_0 : Bool) (A1_1 : Option Addr) (c1_1 : Nat) (l1_1 : List Int) (a1_2 : Int) (r : Bool) (w : World) (hr0_1 : Kd.C (Kd.int .u64) w A0_1 l0_1.length l0_1) (hc0_1 : l0_1.length ≤ c0_1) (hr1_1 : Kd.C (Kd.int .u64) w A1_1 l1_1.length l1_1) (hc1_1 : l1_1.length ≤ c1_1) (h : ulpref04_Same.f k a0_0 l0_1 a0_2 a1_0 l1_1 a1_2 = some r) :
  Calls Tryd.prog 23 #[.agg #[.bool a0_0, .slice A0_1 l0_1.length c0_1, .int .i64 a0_2], .agg #[.bool a1_0, .slice A1_1 l1_1.length c1_1, .int .i64 a1_2]] w fun e w' => e = .returned (.bool r) ∧ Below w.heap.size w w' := by
 have hu25 := Tryd.underlying25
 have HR0_1 := zA hr0_1
 have HC0_1 := zA hc0_1
 clear hr0_1 hc0_1
 have HR1_1 := zA hr1_1
 have HC1_1 := zA hc1_1
 clear hr1_1 hc1_1
 have HB := zA (Below.refl w.heap.size w)
 have H : (if (a0_0 == a1_0) = true then (if a0_2 = a1_2 then ((ulpref03_Same.f k l0_1 l1_1).bind fun t346 => (some t346)) else (some false)) else (some false)) = some r := h
 clear h
 by_cases c3 : (a0_0 == a1_0) = true
 ·rw [if_pos c3] at H
  have c3b0 : (a0_0 == a1_0) = true := c3
  (try (have c3b1 : decide (a0_0 = a1_0) = true := by simpa using c3))
  (try (have c3b2 : (a0_0 == a1_0) = true := by simpa using c3))
  clear c3
  by_cases c4 : a0_2 = a1_2
  ·rw [if_pos c4] at H
   have c4b0 := beq_iff_eq.mpr c4
   have c4b1 := bne_eq_false_iff_eq.mpr c4
   clear c4
   obtain ⟨t346, A5, H⟩ := zh H
   obtain rfl := Option.some.inj H
   go_enter Tryd.func23, Tryd.ntmps23
   go_wp2_with (first | ((with_reducible refine zD 2 rfl ?_); refine zn (N := 2) (cs := #[.bool a0_0, .slice A0_1 l0_1.length c0_1, .int .i64 a0_2]) (t := 25) rfl rfl ?_; intro gb344 hg w6 hbox hb; have BK344 := zA (hbox); have GW344 := zw hg; replace HB := ze hb; clear hb hbox hg) | ((with_reducible refine zD 3 rfl ?_); refine zn (N := 3) (cs := #[.bool a1_0, .slice A1_1 l1_1.length c1_1, .int .i64 a1_2]) (t := 25) rfl rfl ?_; intro gb345 hg w7 hbox hb; have BK345 := zA (hbox); have GW345 := zx hg; replace HB := zf hb; have NB344_345 := zl BK344 hg; have NB345_344 := zg BK344 hg; replace BK344 := zb BK344 hb; clear hb hbox hg; have hnb8 := NB344_345.out; have hnc8 := NB345_344.out; obtain ⟨hcz9_0, hcz9_1, hcz9_2, hfz9_0, hfz9_1, hfz9_2⟩ := zc BK344; obtain ⟨_, _, _, _, _, _⟩ := zc BK345) | (go_at_call 70; (with_reducible refine (ulpref03_Same.calls k _ _ l0_1 _ _ l1_1 t346 _ ?side1 ?side2 ?side3 ?side4 A5.out).mono ?_); (case side1 => exact zk (C_below HR0_1.out HB.out)); (case side2 => exact HC0_1.out); (case side3 => exact zk (C_below HR1_1.out HB.out)); (case side4 => exact HC1_1.out); rintro e w' ⟨rfl, ⟨nd, rfl⟩⟩))
   go_ret
   exact ⟨er, zs⟩
  rw [if_neg c4] at H
  have c4b0 := beq_eq_false_iff_ne.mpr c4
  have c4b1 := bne_iff_ne.mpr c4
  obtain rfl := Option.some.inj H
  go_enter Tryd.func23, Tryd.ntmps23
  go_wp2_with (first | ((with_reducible refine zD 2 rfl ?_); refine zn (N := 2) (cs := #[.bool a0_0, .slice A0_1 l0_1.length c0_1, .int .i64 a0_2]) (t := 25) rfl rfl ?_; intro gb344 hg w11 hbox hb; have BK344 := zA (hbox); have GW344 := zw hg; replace HB := ze hb; clear hb hbox hg) | ((with_reducible refine zD 3 rfl ?_); refine zn (N := 3) (cs := #[.bool a1_0, .slice A1_1 l1_1.length c1_1, .int .i64 a1_2]) (t := 25) rfl rfl ?_; intro gb345 hg w12 hbox hb; have BK345 := zA (hbox); have GW345 := zx hg; replace HB := zf hb; have NB344_345 := zl BK344 hg; have NB345_344 := zg BK344 hg; replace BK344 := zb BK344 hb; clear hb hbox hg; have hnb13 := NB344_345.out; have hnc13 := NB345_344.out; obtain ⟨_, _, _, _, _, _⟩ := zc BK344; obtain ⟨_, _, _, _, _, _⟩ := zc BK345))
  go_ret
  exact ⟨er, zs⟩
 rw [if_neg c3] at H
 have c3b0 : (a0_0 == a1_0) = false := by simpa using c3
 (try (have c3b1 : decide (a0_0 = a1_0) = false := by simpa using c3))
 (try (have c3b2 : (a0_0 == a1_0) = false := by simpa using c3))
 (try (have c3b3 : ¬ (a0_0 = a1_0) := by simpa using c3))
 clear c3
 obtain rfl := Option.some.inj H
 go_enter Tryd.func23, Tryd.ntmps23
 go_wp2_with (first | ((with_reducible refine zD 2 rfl ?_); refine zn (N := 2) (cs := #[.bool a0_0, .slice A0_1 l0_1.length c0_1, .int .i64 a0_2]) (t := 25) rfl rfl ?_; intro gb344 hg w16 hbox hb; have BK344 := zA (hbox); have GW344 := zw hg; replace HB := ze hb; clear hb hbox hg) | ((with_reducible refine zD 3 rfl ?_); refine zn (N := 3) (cs := #[.bool a1_0, .slice A1_1 l1_1.length c1_1, .int .i64 a1_2]) (t := 25) rfl rfl ?_; intro gb345 hg w17 hbox hb; have BK345 := zA (hbox); have GW345 := zx hg; replace HB := zf hb; have NB344_345 := zl BK344 hg; have NB345_344 := zg BK344 hg; replace BK344 := zb BK344 hb; clear hb hbox hg; have hnb18 := NB344_345.out; have hnc18 := NB345_344.out; obtain ⟨_, _, _, _, _, _⟩ := zc BK344; obtain ⟨_, _, _, _, _, _⟩ := zc BK345))
 go_ret
 exact ⟨er, zs⟩
def raw_Int.f (k : Nat) (a0 : Int) : Option (Bool × List Int × Int) := if a0 < 0 then ((limbs_Of.f (IntKind.u64.wrap (-(IntKind.u64.wrap (a0))))).bind fun t398 => ((raw_Form.f k (decide (a0 < 0)) t398 0).bind fun bt401 => (some (bt401.1, bt401.2.1, bt401.2.2)))) else ((limbs_Of.f (IntKind.u64.wrap (a0))).bind fun t406 => ((raw_Form.f k (decide (a0 < 0)) t406 0).bind fun bt409 => (some (bt409.1, bt409.2.1, bt409.2.2))))
theorem raw_Int.mono : ∀ a0 k, LeO (raw_Int.f k a0) (raw_Int.f (k + 1) a0) := by
 intro a0 k
 unfold raw_Int.f
 repeat' first
   | (with_reducible exact raw_Form.mono _ _ _ _)
   | (with_reducible exact LeO.refl _)
   | (with_reducible exact LeO.none _)
   | (with_reducible refine LeO.ite ?_ ?_)
   | (with_reducible refine LeO.bind ?_ (fun _ => ?_))
   | exact raw_Form.mono _ _ _ _
   | exact LeO.none _
   | refine LeO.ite ?_ ?_
   | refine LeO.bind ?_ (fun _ => ?_)
set_option maxHeartbeats 8000000 in
set_option maxRecDepth 100000 in
theorem raw_Int.calls (k : Nat) (a0 : Int) (r1 : Bool) (r2 : List Int) (r3 : Int) (w : World) (hT : Laid w) (h : raw_Int.f k a0 = some (r1, r2, r3)) :
  Calls Tryd.prog 98 #[.int .i64 a0] w fun e w' => ∃ v1_ : Value, e = .returned (.agg #[.bool r1, v1_, .int .i64 r3]) ∧ Kd.V (Kd.int .u64) 43 w' w.heap.size (fun k_ => (w.heap.size ≤ k_)) v1_ r2 ∧ Below w.heap.size w w' := by
 have hu25 := Tryd.underlying25
 have HB := zA (Below.refl w.heap.size w)
 have H : (if a0 < 0 then ((limbs_Of.f (IntKind.u64.wrap (-(IntKind.u64.wrap (a0))))).bind fun t398 => ((raw_Form.f k (decide (a0 < 0)) t398 0).bind fun bt401 => (some (bt401.1, bt401.2.1, bt401.2.2)))) else ((limbs_Of.f (IntKind.u64.wrap (a0))).bind fun t406 => ((raw_Form.f k (decide (a0 < 0)) t406 0).bind fun bt409 => (some (bt409.1, bt409.2.1, bt409.2.2))))) = some (r1, r2, r3) := h
 clear h
 by_cases c2 : a0 < 0
 ·rw [if_pos c2] at H
  have c2b0 := decide_eq_true c2
  clear c2
  obtain ⟨t398, A3, H⟩ := zh H
  obtain ⟨⟨t401, t402, t405⟩, A4, H⟩ := zh H
  (try dsimp only at H)
  simp only [Option.some.injEq, Prod.mk.injEq] at H
  obtain ⟨rfl, rfl, rfl⟩ := H
  rw [c2b0] at A4
  go_enter Tryd.func98, Tryd.ntmps98
  go_wp2_with (first | ((with_reducible refine zD 2 rfl ?_); refine zn (N := 2) (cs := #[.bool false, .slice none 0 0, .int .i64 0]) (t := 25) rfl rfl ?_; intro gb397 hg w5 hbox hb; have BK397 := zA (hbox); have GW397 := zw hg; replace HB := ze hb; clear hb hbox hg) | ((with_reducible refine zG 117 rfl ?_); refine zL (some 13) rfl rfl Tryd.func117 #[.int .u64 (IntKind.u64.wrap (-(IntKind.u64.wrap (a0))))] rfl ?_; (with_reducible refine (limbs_Of.calls (IntKind.u64.wrap (-(IntKind.u64.wrap (a0)))) t398 _ A3.out).mono ?_); rintro e w6 ⟨v399, rfl, ho0, hb⟩; refine ⟨_, rfl, ?_⟩; have HO400 := zA (R_lower (R_newM (M := fun k_ => (w.heap.size ≤ k_)) ho0 (below_size zs) (fun k_ h_ => h_)) (below_size zs)); replace BK397 := zb BK397 hb; replace HB := zf hb; (try clear ho0); obtain ⟨Ao7, co7, eo7⟩ := R_slice HO400.out; subst eo7) | ((with_reducible refine zG 91 rfl ?_); refine zL (some 14) rfl rfl Tryd.func91 #[.bool true, .slice Ao7 t398.length co7, .int .i64 0] rfl ?_; (with_reducible refine (raw_Form.calls k true (fun k_ => some k_ = (.slice Ao7 t398.length co7 : Value).ownBlock) _ _ t398 0 t401 t402 t405 _ ?side1 (laid_below hT zs) A4.out).mono ?_); (case side1 => exact R_V (R_tight rfl (R_types (HO400.out) BK397.out (by decide)))); rintro e w8 ⟨v403, rfl, ho0, hb⟩; refine ⟨_, rfl, ?_⟩; have HO404 := zA (V_lower (V_mono (ok' := fun k_ => (w.heap.size ≤ k_) ∧ k_ ≠ gb397) ho0 (fun k_ hk_ => ⟨Or.elim hk_ (fun hs_ => ((R_types (HO400.out) BK397.out (by decide)).1 k_ hs_.symm).1.1) (fun hn_ => (Nat.le_trans (below_size zs) hn_)), Or.elim hk_ (fun hs_ => ((R_types (HO400.out) BK397.out (by decide)).1 k_ hs_.symm).2) (fun hn_ => (zj BK397 k_ hn_))⟩)) (below_size zs)); replace HO400 := zA (R_below (ru HO400.out) hb); replace BK397 := zb BK397 hb; replace HB := zf hb; (try clear ho0); obtain ⟨hcz9_0, hcz9_1, hcz9_2, hfz9_0, hfz9_1, hfz9_2⟩ := zc BK397; obtain ⟨Ao10, co10, eo10⟩ := V_slice HO404.out; subst eo10))
  refine bodyPost_ret (results_cell_row rfl _ _ gb397 25 #[.bool t401, .slice Ao10 t402.length co10, .int .i64 t405] (0, 0) _ rfl (zy BK397) Tryd.underlying25 rfl (by kernel_rfl)) rfl ?_
  exact ⟨_, er, vu (V_mono (zv gb397 (V_mono HO404.out (fun k_ hk => (⟨hk, hk.2⟩ : _ ∧ k_ ≠ gb397))) (fun _ hk => hk.2) _ _ _) (fun _ hk => hk.1.1)), zs⟩
 rw [if_neg c2] at H
 have c2b0 := decide_eq_false c2
 clear c2
 obtain ⟨t406, A11, H⟩ := zh H
 obtain ⟨⟨t409, t410, t413⟩, A12, H⟩ := zh H
 (try dsimp only at H)
 simp only [Option.some.injEq, Prod.mk.injEq] at H
 obtain ⟨rfl, rfl, rfl⟩ := H
 rw [c2b0] at A12
 go_enter Tryd.func98, Tryd.ntmps98
 go_wp2_with (first | ((with_reducible refine zD 2 rfl ?_); refine zn (N := 2) (cs := #[.bool false, .slice none 0 0, .int .i64 0]) (t := 25) rfl rfl ?_; intro gb397 hg w13 hbox hb; have BK397 := zA (hbox); have GW397 := zw hg; replace HB := ze hb; clear hb hbox hg) | ((with_reducible refine zG 117 rfl ?_); refine zL (some 13) rfl rfl Tryd.func117 #[.int .u64 (IntKind.u64.wrap (a0))] rfl ?_; (with_reducible refine (limbs_Of.calls (IntKind.u64.wrap (a0)) t406 _ A11.out).mono ?_); rintro e w14 ⟨v407, rfl, ho0, hb⟩; refine ⟨_, rfl, ?_⟩; have HO408 := zA (R_lower (R_newM (M := fun k_ => (w.heap.size ≤ k_)) ho0 (below_size zs) (fun k_ h_ => h_)) (below_size zs)); replace BK397 := zb BK397 hb; replace HB := zf hb; (try clear ho0); obtain ⟨Ao15, co15, eo15⟩ := R_slice HO408.out; subst eo15) | ((with_reducible refine zG 91 rfl ?_); refine zL (some 14) rfl rfl Tryd.func91 #[.bool false, .slice Ao15 t406.length co15, .int .i64 0] rfl ?_; (with_reducible refine (raw_Form.calls k false (fun k_ => some k_ = (.slice Ao15 t406.length co15 : Value).ownBlock) _ _ t406 0 t409 t410 t413 _ ?side1 (laid_below hT zs) A12.out).mono ?_); (case side1 => exact R_V (R_tight rfl (R_types (HO408.out) BK397.out (by decide)))); rintro e w16 ⟨v411, rfl, ho0, hb⟩; refine ⟨_, rfl, ?_⟩; have HO412 := zA (V_lower (V_mono (ok' := fun k_ => (w.heap.size ≤ k_) ∧ k_ ≠ gb397) ho0 (fun k_ hk_ => ⟨Or.elim hk_ (fun hs_ => ((R_types (HO408.out) BK397.out (by decide)).1 k_ hs_.symm).1.1) (fun hn_ => (Nat.le_trans (below_size zs) hn_)), Or.elim hk_ (fun hs_ => ((R_types (HO408.out) BK397.out (by decide)).1 k_ hs_.symm).2) (fun hn_ => (zj BK397 k_ hn_))⟩)) (below_size zs)); replace HO408 := zA (R_below (ru HO408.out) hb); replace BK397 := zb BK397 hb; replace HB := zf hb; (try clear ho0); obtain ⟨hcz17_0, hcz17_1, hcz17_2, hfz17_0, hfz17_1, hfz17_2⟩ := zc BK397; obtain ⟨Ao18, co18, eo18⟩ := V_slice HO412.out; subst eo18))
 refine bodyPost_ret (results_cell_row rfl _ _ gb397 25 #[.bool t409, .slice Ao18 t410.length co18, .int .i64 t413] (0, 0) _ rfl (zy BK397) Tryd.underlying25 rfl (by kernel_rfl)) rfl ?_
 exact ⟨_, er, vu (V_mono (zv gb397 (V_mono HO412.out (fun k_ hk => (⟨hk, hk.2⟩ : _ ∧ k_ ≠ gb397))) (fun _ hk => hk.2) _ _ _) (fun _ hk => hk.1.1)), zs⟩
def dyad_Int.f (k : Nat) (a0 : Int) : Option (Bool × List Int × Int) := (raw_Int.f k a0).bind fun bt415 => (some (bt415.1, bt415.2.1, bt415.2.2))
theorem dyad_Int.mono : ∀ a0 k, LeO (dyad_Int.f k a0) (dyad_Int.f (k + 1) a0) := by
 intro a0 k
 unfold dyad_Int.f
 repeat' first
   | (with_reducible exact raw_Int.mono _ _)
   | (with_reducible exact LeO.refl _)
   | (with_reducible exact LeO.none _)
   | (with_reducible refine LeO.ite ?_ ?_)
   | (with_reducible refine LeO.bind ?_ (fun _ => ?_))
   | exact raw_Int.mono _ _
   | exact LeO.none _
   | refine LeO.ite ?_ ?_
   | refine LeO.bind ?_ (fun _ => ?_)
set_option maxHeartbeats 8000000 in
set_option maxRecDepth 100000 in
theorem dyad_Int.calls (k : Nat) (a0 : Int) (r1 : Bool) (r2 : List Int) (r3 : Int) (w : World) (hT : Laid w) (h : dyad_Int.f k a0 = some (r1, r2, r3)) :
  Calls Tryd.prog 45 #[.int .i64 a0] w fun e w' => ∃ v1_ : Value, e = .returned (.agg #[.bool r1, v1_, .int .i64 r3]) ∧ Kd.V (Kd.int .u64) 43 w' w.heap.size (fun k_ => (w.heap.size ≤ k_)) v1_ r2 ∧ Below w.heap.size w w' := by
 have hu25 := Tryd.underlying25
 have HB := zA (Below.refl w.heap.size w)
 have H : ((raw_Int.f k a0).bind fun bt415 => (some (bt415.1, bt415.2.1, bt415.2.2))) = some (r1, r2, r3) := h
 clear h
 obtain ⟨⟨t415, t416, t419⟩, A2, H⟩ := zh H
 (try dsimp only at H)
 simp only [Option.some.injEq, Prod.mk.injEq] at H
 obtain ⟨rfl, rfl, rfl⟩ := H
 go_enter Tryd.func45, Tryd.ntmps45
 go_wp2_with (first | ((with_reducible refine zD 2 rfl ?_); refine zn (N := 2) (cs := #[.bool false, .slice none 0 0, .int .i64 0]) (t := 25) rfl rfl ?_; intro gb414 hg w3 hbox hb; have BK414 := zA (hbox); have GW414 := zw hg; replace HB := ze hb; clear hb hbox hg) | ((with_reducible refine zG 98 rfl ?_); refine zL (some 4) rfl rfl Tryd.func98 #[.int .i64 a0] rfl ?_; (with_reducible refine (raw_Int.calls k a0 t415 t416 t419 _ (laid_below hT zs) A2.out).mono ?_); rintro e w4 ⟨v417, rfl, ho0, hb⟩; refine ⟨_, rfl, ?_⟩; have HO418 := zA (V_lower (V_mono (ok' := fun k_ => (w.heap.size ≤ k_) ∧ k_ ≠ gb414) ho0 (fun k_ hk_ => ⟨(Nat.le_trans (below_size zs) hk_), (zj BK414 k_ hk_)⟩)) (below_size zs)); replace BK414 := zb BK414 hb; replace HB := zf hb; (try clear ho0); obtain ⟨hcz5_0, hcz5_1, hcz5_2, hfz5_0, hfz5_1, hfz5_2⟩ := zc BK414; obtain ⟨Ao6, co6, eo6⟩ := V_slice HO418.out; subst eo6))
 refine bodyPost_ret (results_cell_row rfl _ _ gb414 25 #[.bool t415, .slice Ao6 t416.length co6, .int .i64 t419] (0, 0) _ rfl (zy BK414) Tryd.underlying25 rfl (by kernel_rfl)) rfl ?_
 exact ⟨_, er, vu (V_mono (zv gb414 (V_mono HO418.out (fun k_ hk => (⟨hk, hk.2⟩ : _ ∧ k_ ≠ gb414))) (fun _ hk => hk.2) _ _ _) (fun _ hk => hk.1.1)), zs⟩
end Go.Proofs.YtemfckibdojbbaaDoor.PAll
