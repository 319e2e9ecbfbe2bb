/- Printed functions, merged by a program of this session. -/
import Derived.Test.YtemfckibdojbbaaDoorXDyadFloatsP3
import Derived.Test.YtemfckibdojbbaaDoorXDyadFloatsP0
import Derived.Test.YtemfckibdojbbaaDoorXDyadFloatsP2
import Derived.Test.YtemfckibdojbbaaDoorXDyadFloatsP9
import Derived.Test.YtemfckibdojbbaaDoorXDyadFloatsP8
import Derived.Laws.StructEq
import Derived.Test.YtemfckibdojbbaaDoorXDyadFloatsSh
namespace Go.Proofs.YtemfckibdojbbaaDoor.PAll
open Go.RowKit Go.Proofs.YtemfckibdojbbaaDoorW.PrintWords Go.Proofs.YtemfckibdojbbaaDoorW.PrintLast Go.Proofs.YtemfckibdojbbaaDoorW.PrintMore Go.Proofs.YtemfckibdojbbaaDoorW.PrintWords.Kd
attribute [local go_sem] max2_int min2_int max_two min_two max_three min_three max_four min_four   -- for this text's walks alone
set_option linter.unusedVariables false
set_option linter.unusedSimpArgs false
attribute [local go_sem] ext135 ext136
def dyad_Cut.f (k : Nat) (a0_0 : Bool) (l0_1 : List Int) (a0_2 : Int) (a1 : Int) (a2 : Bool) : Option (Bool × List Int × Int × Int) := if a1 < 1 then (some (false, ([] : List Int), 0, 2)) else ((dyad_number_right.f k a0_0 l0_1 a0_2).bind fun t330 => (if t330 = true then ((raw_Cut.f k a0_0 l0_1 a0_2 a1 a2).bind fun bt331 => ((dyad_room.f k bt331.1 bt331.2.1 bt331.2.2).bind fun bt336 => (some (bt336.1, bt336.2.1, bt336.2.2.1, bt336.2.2.2)))) else (some (false, ([] : List Int), 0, 2))))
theorem dyad_Cut.mono : ∀ a0 a1 a2 a3 a4 k, LeO (dyad_Cut.f k a0 a1 a2 a3 a4) (dyad_Cut.f (k + 1) a0 a1 a2 a3 a4) := by
 intro a0 a1 a2 a3 a4 k
 unfold dyad_Cut.f
 repeat' first
   | (with_reducible exact dyad_number_right.mono _ _ _ _)
   | (with_reducible exact dyad_room.mono _ _ _ _)
   | (with_reducible exact raw_Cut.mono _ _ _ _ _ _)
   | (with_reducible exact LeO.refl _)
   | (with_reducible exact LeO.none _)
   | (with_reducible refine LeO.ite ?_ ?_)
   | (with_reducible refine LeO.bind ?_ (fun _ => ?_))
   | exact dyad_number_right.mono _ _ _ _
   | exact dyad_room.mono _ _ _ _
   | exact raw_Cut.mono _ _ _ _ _ _
   | exact LeO.none _
   | refine LeO.ite ?_ ?_
   | refine LeO.bind ?_ (fun _ => ?_)
set_option maxRecDepth 100000 in
theorem hand_Cut_lit (k : Nat) (g0 : Nat) (s0 : Bool) (A0 : Option Addr) (c0 : Nat) (l0 : List Int) (e0 : Int) (gx0 : Nat) (x0 : Int) (gx1 : Nat) (x1 : Bool) (ok : Nat → Prop) (r1 : Bool) (r2 : List Int) (r3 : Int) (w : World) (hb0 : w.heap[g0]? = some (.cells #[.bool s0, .slice A0 l0.length c0, .int .i64 e0] 25 (0, 0))) (hv0 : Kd.V (Kd.int .u64) 43 w w.heap.size (ok) (.slice A0 l0.length c0) l0) (hbx0 : w.heap[gx0]? = some (.cells #[.int .i64 x0] 3 (0, 0))) (hbx1 : w.heap[gx1]? = some (.cells #[.bool x1] 4 (0, 0))) (hok : ∀ k_, ok k_ → k_ < w.heap.size) (hT : Laid w) (h : raw_Cut.f k s0 l0 e0 x0 x1 = some (r1, r2, r3)) :
  Calls Tryd.prog 63 #[.pointer (some ⟨g0, 0, none⟩), .pointer (some ⟨gx0, 0, none⟩), .pointer (some ⟨gx1, 0, none⟩)] w fun x w' => ∃ v1_ : Value, x = .returned (.agg #[.bool r1, v1_, .int .i64 r3]) ∧ Kd.V (Kd.int .u64) 43 w' w.heap.size (fun k_ => ok k_ ∨ w.heap.size ≤ k_) (v1_) r2 ∧ Below w.heap.size w w' := by
 have hu25 := Tryd.underlying25
 have HB := zA (Below.refl w.heap.size w)
 have HV0 := zA hv0
 have B0 := zA hb0
 have BX0 := zA hbx0
 have BX1 := zA hbx1
 have HT := zA hT
 have HH := zA h
 have Hok := zA hok
 clear hT h hok hv0 hb0 hbx0 hbx1
 go_enter Tryd.func63, Tryd.ntmps63
 go_wp2_with (first | ((with_reducible refine zD 3 rfl ?_); refine zn (N := 3) (cs := #[.bool false, .slice none 0 0, .int .i64 0]) (t := 25) rfl rfl ?_; intro gBR hg w1 hbox hb; have GBR := zA (hg ▸ below_size HB.out : w.heap.size ≤ gBR); have m_HV0 := zA (V_below HV0.out hb); have m_B0 := zA (blk_below B0.out hb); have m_BX0 := zA (blk_below BX0.out hb); have m_BX1 := zA (blk_below BX1.out hb); have m_HB := zA (below_step HB.out hb); clear HB hb HV0 B0 BX0 BX1; have HV0 := m_HV0; have B0 := m_B0; have BX0 := m_BX0; have BX1 := m_BX1; have HB := m_HB; clear m_HV0 m_B0 m_BX0 m_BX1 m_HB; have BR := zA hbox; clear hbox hg; have LT := zA (blk_lt BR.out); obtain ⟨_, _, _, _, _, _⟩ := zc B0; have hcBX00 := (blk_cell BX0.out 0).trans rfl; have hfBX00 := blk_frozen BX0.out 0; have hcBX10 := (blk_cell BX1.out 0).trans rfl; have hfBX10 := blk_frozen BX1.out 0; obtain ⟨_, _, _, _, _, _⟩ := zc BR) | ((with_reducible refine zG 64 rfl ?_); refine goesL_ (some 7) rfl rfl Tryd.func64 (by kernel_rfl) rfl #[.agg #[.bool s0, .slice A0 l0.length c0, .int .i64 e0], .int .i64 x0, .bool x1] rfl (by (try simp only [List.map_toArray, List.map_cons, List.map_nil]); first | done | rfl) ?_; refine (raw_Cut.calls k s0 ok _ _ l0 e0 x0 x1 r1 r2 r3 _ HV0.out (laid_below HT.out HB.out) HH.out).mono ?_; rintro e w7 ⟨v7, rfl, hv, hb⟩; obtain ⟨A7, c7, rfl⟩ := V_slice hv; refine ⟨_, rfl, ?_⟩; have HVR := zA (V_mono hv (ok' := fun k_ => (ok k_ ∨ w.heap.size ≤ k_) ∧ k_ ≠ gBR) (fun k_ hk => by { have h1 := LT.out; have h3 := GBR.out; rcases hk with hk | hk; (exact ⟨.inl hk, fun e => by { subst e; exact absurd (Hok.out _ hk) (Nat.not_lt.mpr h3) }⟩); (exact ⟨.inr (by omega), by omega⟩) })); have m_BR := zA (blk_below BR.out hb); have m_HB := zA (below_step HB.out hb); clear HB hb BR; have BR := m_BR; have HB := m_HB; clear m_BR m_HB; obtain ⟨_, _, _, _, _, _⟩ := zc BR))
 refine bodyPost_ret (results_cell_row rfl _ _ gBR 25 #[.bool r1, .slice A7 r2.length c7, .int .i64 r3] (0, 0) _ rfl (by refine blk_put (cs := #[.bool r1, .slice A7 r2.length c7, .int .i64 0]) ?_ 2 _ rfl; refine blk_put (cs := #[.bool r1, .slice none 0 0, .int .i64 0]) ?_ 1 _ rfl; refine blk_put (cs := #[.bool false, .slice none 0 0, .int .i64 0]) ?_ 0 _ rfl; exact BR.out) Tryd.underlying25 rfl (by kernel_rfl)) rfl ?_
 exact ⟨_, rfl, V_mono (V_far (p := ⟨gBR, 2, none⟩) (V_far (p := ⟨gBR, 1, none⟩) (V_far (p := ⟨gBR, 0, none⟩) HVR.out (fun _ hk => hk.2) (.bool r1)) (fun _ hk => hk.2) (.slice A7 r2.length c7)) (fun _ hk => hk.2) (.int .i64 r3)) (fun _ hk => hk.1), below_set (below_set (below_set HB.out GBR.out) GBR.out) GBR.out⟩
theorem hand_Cut_key (k : Nat) (a0_0 : Bool) (l0_1 : List Int) (a0_2 : Int) (a1 : Int) (a2 : Bool) (r1 : Bool) (r2 : List Int) (r3 r4 : Int) (h : dyad_Cut.f k a0_0 l0_1 a0_2 a1 a2 = some (r1, r2, r3, r4)) :
  (a1 < 1 ∧ (r1, r2, r3, r4) = (false, ([] : List Int), (0 : Int), (2 : Int))) ∨ (¬ a1 < 1 ∧ ∃ ra s1 l1 e1, dyad_number_right.f k a0_0 l0_1 a0_2 = some ra ∧ ((ra) = true → raw_Cut.f k a0_0 l0_1 a0_2 a1 a2 = some (s1, l1, e1)) ∧ ((ra) = true → dyad_room.f k s1 l1 e1 = some (r1, r2, r3, r4)) ∧ ((ra) = false → (r1, r2, r3, r4) = (false, ([] : List Int), (0 : Int), (2 : Int)))) := by
 unfold dyad_Cut.f at h
 by_cases q1 : a1 < 1
 ·rw [if_pos q1] at h; injection h with h; exact .inl ⟨q1, h.symm⟩
 rw [if_neg q1] at h
 refine .inr ⟨q1, ?_⟩
 cases hA : dyad_number_right.f k a0_0 l0_1 a0_2 with
 | none => rw [hA] at h; cases h
 | some ra =>
 rw [hA] at h
 replace h : (if ra = true then _ else _) = _ := h
 cases ra with
 | false => rw [if_neg (by decide)] at h; injection h with h; exact ⟨false, false, [], 0, rfl, (fun q => by cases q), (fun q => by cases q), fun _ => h.symm⟩
 | true =>
 rw [if_pos rfl] at h
 cases hC : raw_Cut.f k a0_0 l0_1 a0_2 a1 a2 with
 | none => rw [hC] at h; cases h
 | some t =>
 obtain ⟨s1, l1, e1⟩ := t
 rw [hC] at h
 replace h : (dyad_room.f k s1 l1 e1).bind _ = _ := h
 cases hD : dyad_room.f k s1 l1 e1 with
 | none => rw [hD] at h; cases h
 | some q =>
 obtain ⟨q1, q2, q3, q4⟩ := q
 rw [hD] at h
 injection h with h
 exact ⟨true, s1, l1, e1, rfl, fun _ => rfl, fun _ => hD.trans (congrArg some h), fun q => by cases q⟩
set_option maxHeartbeats 8000000 in
set_option maxRecDepth 100000 in
theorem dyad_Cut.calls (k : Nat) (a0_0 : Bool) (P0_1_ : Nat → Prop) (A0_1 : Option Addr) (c0_1 : Nat) (l0_1 : List Int) (a0_2 : Int) (a1 : Int) (a2 : Bool) (r1 : Bool) (r2 : List Int) (r3 : Int) (r4 : Int) (w : World) (hs0_1 : Kd.V (Kd.int .u64) 43 w w.heap.size (fun k_ => P0_1_ k_) (.slice A0_1 l0_1.length c0_1) l0_1) (hT : Laid w) (h : dyad_Cut.f k a0_0 l0_1 a0_2 a1 a2 = some (r1, r2, r3, r4)) :
  Calls Tryd.prog 18 #[.agg #[.bool a0_0, .slice A0_1 l0_1.length c0_1, .int .i64 a0_2], .int .i64 a1, .bool a2] w fun e w' => ∃ v1_ : Value, e = .returned (.tuple #[.agg #[.bool r1, v1_, .int .i64 r3], .int .i64 r4]) ∧ Kd.V (Kd.int .u64) 43 w' w.heap.size (fun k_ => (P0_1_ k_ ∨ w.heap.size ≤ k_)) v1_ r2 ∧ Below w.heap.size w w' := by
 have hu25 := Tryd.underlying25
 have hmf : ∀ (fn : Fn) (first cap : Array Value) (w : World), (Instr.makeFunc fn first cap).run Tryd.prog w = .ok (.func fn first cap) w := fun _ _ _ _ => rfl
 have HB := zA (Below.refl w.heap.size w)
 have HT := zA hT
 have HV0 := zA (V_mono (ok' := fun k_ => (P0_1_ k_) ∧ k_ < w.heap.size) (V_bound hs0_1) (fun k_ hk => ⟨hk.1, hk.2⟩))
 have HK := zA (hand_Cut_key k a0_0 l0_1 a0_2 a1 a2 r1 r2 r3 r4 h)
 clear hT h hs0_1
 go_enter Tryd.func18, Tryd.ntmps18
 rcases HK.out with ⟨q, hq⟩ | ⟨q, HK0⟩
 ·clear HK
  simp only [Prod.mk.injEq] at hq
  obtain ⟨rfl, rfl, rfl, rfl⟩ := hq
  go_wp2_with (first | ((with_reducible refine zD 3 rfl ?_); refine zn (N := 3) (cs := #[.bool a0_0, .slice A0_1 l0_1.length c0_1, .int .i64 a0_2]) (t := 25) rfl rfl ?_; intro gB0 hg w1 hbox hb; have GB0 := zA (hg ▸ below_size HB.out : w.heap.size ≤ gB0); have m_HV0 := zA (V_below HV0.out hb); have m_HB := zA (below_step HB.out hb); clear HB hb HV0; have HV0 := m_HV0; have HB := m_HB; clear m_HV0 m_HB; have B0 := zA hbox; clear hbox hg) | ((with_reducible refine zD 4 rfl ?_); refine zn (N := 4) (cs := #[.int .i64 a1]) (t := 3) rfl rfl ?_; intro gBX0 hg w1 hbox hb; have GBX0 := zA (hg ▸ below_size HB.out : w.heap.size ≤ gBX0); have m_HV0 := zA (V_below HV0.out hb); have m_B0 := zA (blk_below B0.out hb); have m_HB := zA (below_step HB.out hb); clear HB hb HV0 B0; have HV0 := m_HV0; have B0 := m_B0; have HB := m_HB; clear m_HV0 m_B0 m_HB; have BX0 := zA hbox; clear hbox hg) | ((with_reducible refine zD 5 rfl ?_); refine zn (N := 5) (cs := #[.bool a2]) (t := 4) rfl rfl ?_; intro gBX1 hg w1 hbox hb; have GBX1 := zA (hg ▸ below_size HB.out : w.heap.size ≤ gBX1); have m_HV0 := zA (V_below HV0.out hb); have m_B0 := zA (blk_below B0.out hb); have m_BX0 := zA (blk_below BX0.out hb); have m_HB := zA (below_step HB.out hb); clear HB hb HV0 B0 BX0; have HV0 := m_HV0; have B0 := m_B0; have BX0 := m_BX0; have HB := m_HB; clear m_HV0 m_B0 m_BX0 m_HB; have BX1 := zA hbox; clear hbox hg) | ((with_reducible refine zD 6 rfl ?_); refine zn (N := 6) (cs := #[.bool false, .slice none 0 0, .int .i64 0]) (t := 25) rfl rfl ?_; intro gBR hg w1 hbox hb; have GBR := zA (hg ▸ below_size HB.out : w.heap.size ≤ gBR); have m_HV0 := zA (V_below HV0.out hb); have m_B0 := zA (blk_below B0.out hb); have m_BX0 := zA (blk_below BX0.out hb); have m_BX1 := zA (blk_below BX1.out hb); have m_HB := zA (below_step HB.out hb); clear HB hb HV0 B0 BX0 BX1; have HV0 := m_HV0; have B0 := m_B0; have BX0 := m_BX0; have BX1 := m_BX1; have HB := m_HB; clear m_HV0 m_B0 m_BX0 m_BX1 m_HB; have BR := zA hbox; clear hbox hg; obtain ⟨_, _, _, _, _, _⟩ := zc B0; have hcBX00 := (blk_cell BX0.out 0).trans rfl; have hfBX00 := blk_frozen BX0.out 0; have hcBX10 := (blk_cell BX1.out 0).trans rfl; have hfBX10 := blk_frozen BX1.out 0; obtain ⟨_, _, _, _, _, _⟩ := zc BR))
  refine bodyPost_ret (results_ct rfl _ _ gBR 25 #[.bool false, .slice none 0 0, .int .i64 0] (0, 0) _ rfl (by refine blk_put (cs := #[.bool false, .slice none 0 0, .int .i64 0]) ?_ 2 _ rfl; refine blk_put (cs := #[.bool false, .slice none 0 0, .int .i64 0]) ?_ 1 _ rfl; refine blk_put (cs := #[.bool false, .slice none 0 0, .int .i64 0]) ?_ 0 _ rfl; exact BR.out) Tryd.underlying25 rfl (by kernel_rfl)) rfl ?_
  exact ⟨_, rfl, V_nil _ _ _ _ _, below_set (below_set (below_set HB.out GBR.out) GBR.out) GBR.out⟩
 clear HK
 obtain ⟨ra, s1, l1, e1, hA, hC, hD, hE⟩ := HK0
 replace hA := zA hA
 replace hC := zA hC
 replace hD := zA hD
 replace hE := zA hE
 go_wp2_with (first | ((with_reducible refine zD 3 rfl ?_); refine zn (N := 3) (cs := #[.bool a0_0, .slice A0_1 l0_1.length c0_1, .int .i64 a0_2]) (t := 25) rfl rfl ?_; intro gB0 hg w1 hbox hb; have GB0 := zA (hg ▸ below_size HB.out : w.heap.size ≤ gB0); have m_HV0 := zA (V_below HV0.out hb); have m_HB := zA (below_step HB.out hb); clear HB hb HV0; have HV0 := m_HV0; have HB := m_HB; clear m_HV0 m_HB; have B0 := zA hbox; clear hbox hg) | ((with_reducible refine zD 4 rfl ?_); refine zn (N := 4) (cs := #[.int .i64 a1]) (t := 3) rfl rfl ?_; intro gBX0 hg w1 hbox hb; have GBX0 := zA (hg ▸ below_size HB.out : w.heap.size ≤ gBX0); have m_HV0 := zA (V_below HV0.out hb); have m_B0 := zA (blk_below B0.out hb); have m_HB := zA (below_step HB.out hb); clear HB hb HV0 B0; have HV0 := m_HV0; have B0 := m_B0; have HB := m_HB; clear m_HV0 m_B0 m_HB; have BX0 := zA hbox; clear hbox hg) | ((with_reducible refine zD 5 rfl ?_); refine zn (N := 5) (cs := #[.bool a2]) (t := 4) rfl rfl ?_; intro gBX1 hg w1 hbox hb; have GBX1 := zA (hg ▸ below_size HB.out : w.heap.size ≤ gBX1); have m_HV0 := zA (V_below HV0.out hb); have m_B0 := zA (blk_below B0.out hb); have m_BX0 := zA (blk_below BX0.out hb); have m_HB := zA (below_step HB.out hb); clear HB hb HV0 B0 BX0; have HV0 := m_HV0; have B0 := m_B0; have BX0 := m_BX0; have HB := m_HB; clear m_HV0 m_B0 m_BX0 m_HB; have BX1 := zA hbox; clear hbox hg) | ((with_reducible refine zD 6 rfl ?_); refine zn (N := 6) (cs := #[.bool false, .slice none 0 0, .int .i64 0]) (t := 25) rfl rfl ?_; intro gBR hg w1 hbox hb; have GBR := zA (hg ▸ below_size HB.out : w.heap.size ≤ gBR); have m_HV0 := zA (V_below HV0.out hb); have m_B0 := zA (blk_below B0.out hb); have m_BX0 := zA (blk_below BX0.out hb); have m_BX1 := zA (blk_below BX1.out hb); have m_HB := zA (below_step HB.out hb); clear HB hb HV0 B0 BX0 BX1; have HV0 := m_HV0; have B0 := m_B0; have BX0 := m_BX0; have BX1 := m_BX1; have HB := m_HB; clear m_HV0 m_B0 m_BX0 m_BX1 m_HB; have BR := zA hbox; clear hbox hg; obtain ⟨_, _, _, _, _, _⟩ := zc B0; have hcBX00 := (blk_cell BX0.out 0).trans rfl; have hfBX00 := blk_frozen BX0.out 0; have hcBX10 := (blk_cell BX1.out 0).trans rfl; have hfBX10 := blk_frozen BX1.out 0; obtain ⟨_, _, _, _, _, _⟩ := zc BR) | ((with_reducible refine zD 13 rfl ?_); refine hand_slice_event (n := 1) ?hg (N := 13) ?hd (cs := #[.bool a0_0, .slice A0_1 l0_1.length c0_1, .int .i64 a0_2]) (t := 25) ?hr ?_; (case hd => rfl); (case hg => rfl); (case hr => first | (go_simp; done) | (go_simp; rfl)); intro gBS hg w1 hbox hb; have GBS := zA (hg ▸ below_size HB.out : w.heap.size ≤ gBS); have m_HV0 := zA (V_below HV0.out hb); have m_B0 := zA (blk_below B0.out hb); have m_BX0 := zA (blk_below BX0.out hb); have m_BX1 := zA (blk_below BX1.out hb); have m_BR := zA (blk_below BR.out hb); have m_HB := zA (below_step HB.out hb); clear HB hb HV0 B0 BX0 BX1 BR; have HV0 := m_HV0; have B0 := m_B0; have BX0 := m_BX0; have BX1 := m_BX1; have BR := m_BR; have HB := m_HB; clear m_HV0 m_B0 m_BX0 m_BX1 m_BR m_HB; have BS := zA hbox; clear hbox hg; have LT := zA (blk_lt BR.out); have SZ := zA (below_size HB.out)) | ((with_reducible refine zG 60 rfl ?_); refine goesL_ (some 14) rfl rfl Tryd.func60 (by kernel_rfl) rfl #[.func (.func 63) #[] #[.pointer (some ⟨gB0, 0, none⟩), .pointer (some ⟨gBX0, 0, none⟩), .pointer (some ⟨gBX1, 0, none⟩)], .slice (some ⟨gBS, 0, none⟩) 1 1] rfl (by (try simp only [List.map_toArray, List.map_cons, List.map_nil]); first | done | rfl) ?_; refine (hand_of k _ (ra) 63 _ #[] #[.pointer (some ⟨gB0, 0, none⟩), .pointer (some ⟨gBX0, 0, none⟩), .pointer (some ⟨gBX1, 0, none⟩)] Tryd.func63 (by kernel_rfl) rfl s1 l1 e1 r1 r2 r3 r4 (fun k_ => (P0_1_ k_) ∧ k_ < w.heap.size) _ (fun w1 hb => (hand_contains _ _ w1 (hand_index1 k gBS a0_0 _ _ l0_1 a0_2 ra w1 (blk_below BS.out hb) (V_reads' (V_below HV0.out hb)).2.2 (V_reads' HV0.out).2.1 hA.out)).mono (by rintro x w2 ⟨rfl, hb2⟩; exact ⟨by cases ra <;> rfl, hb2⟩)) (fun hr w1 hb => calls_of_args (args' := #[.pointer (some ⟨gB0, 0, none⟩), .pointer (some ⟨gBX0, 0, none⟩), .pointer (some ⟨gBX1, 0, none⟩)]) (by simp) (hand_Cut_lit k gB0 a0_0 _ _ l0_1 a0_2 gBX0 a1 gBX1 a2 (fun k_ => (P0_1_ k_) ∧ k_ < w.heap.size) s1 l1 e1 w1 (blk_below B0.out hb) (V_below HV0.out hb) (blk_below BX0.out hb) (blk_below BX1.out hb) (fun k_ hk => Nat.lt_of_lt_of_le hk.2 (Nat.le_trans SZ.out hb.size)) (laid_below HT.out (below_step HB.out hb)) (hC.out hr))) hD.out (fun k_ hk => Nat.lt_of_lt_of_le hk.2 SZ.out) hE.out).mono ?_; rintro e w7 ⟨v7, rfl, hv, hb⟩; obtain ⟨A7, c7, rfl⟩ := V_slice hv; refine ⟨_, rfl, ?_⟩; have HVR := zA (V_mono hv (ok' := fun k_ => ((P0_1_ k_) ∨ w.heap.size ≤ k_) ∧ k_ ≠ gBR) (fun k_ hk => by { have h1 := LT.out; have h3 := GBR.out; rcases hk with hk | hk; (exact ⟨.inl hk.1, by have h4 := hk.2; omega⟩); (exact ⟨.inr (by have h5 := SZ.out; omega), by omega⟩) })); have m_BR := zA (blk_below BR.out hb); have m_HB := zA (below_step HB.out hb); clear HB hb BR; have BR := m_BR; have HB := m_HB; clear m_BR m_HB; obtain ⟨_, _, _, _, _, _⟩ := zc BR))
 refine bodyPost_ret (results_ct rfl _ _ gBR 25 #[.bool r1, .slice A7 r2.length c7, .int .i64 r3] (0, 0) _ rfl (by refine blk_put (cs := #[.bool r1, .slice A7 r2.length c7, .int .i64 0]) ?_ 2 _ rfl; refine blk_put (cs := #[.bool r1, .slice none 0 0, .int .i64 0]) ?_ 1 _ rfl; refine blk_put (cs := #[.bool false, .slice none 0 0, .int .i64 0]) ?_ 0 _ rfl; exact BR.out) Tryd.underlying25 rfl (by kernel_rfl)) rfl ?_
 exact ⟨_, rfl, V_mono (V_far (p := ⟨gBR, 2, none⟩) (V_far (p := ⟨gBR, 1, none⟩) (V_far (p := ⟨gBR, 0, none⟩) HVR.out (fun _ hk => hk.2) (.bool r1)) (fun _ hk => hk.2) (.slice A7 r2.length c7)) (fun _ hk => hk.2) (.int .i64 r3)) (fun _ hk => hk.1), below_set (below_set (below_set HB.out GBR.out) GBR.out) GBR.out⟩
def raw_Top.f (k : Nat) (a0_0 : Bool) (l0_1 : List Int) (a0_2 : Int) : Option (Int) := (limbs_Len.f k l0_1).bind fun t348 => (some (wrap64 ((wrap64 (a0_2 + t348)) - 1)))
theorem raw_Top.mono : ∀ a0 a1 a2 k, LeO (raw_Top.f k a0 a1 a2) (raw_Top.f (k + 1) a0 a1 a2) := by
 intro a0 a1 a2 k
 unfold raw_Top.f
 repeat' first
   | (with_reducible exact limbs_Len.mono _ _)
   | (with_reducible exact LeO.refl _)
   | (with_reducible exact LeO.none _)
   | (with_reducible refine LeO.ite ?_ ?_)
   | (with_reducible refine LeO.bind ?_ (fun _ => ?_))
   | exact limbs_Len.mono _ _
   | exact LeO.none _
   | refine LeO.ite ?_ ?_
   | refine LeO.bind ?_ (fun _ => ?_)
def raw_Top.T1 : Bool × List (List Nat × List Nat) := (true, [([], []), ([0], [0]), ([], []), ([2], [2]), ([3], [3]), ([1, 4], [1, 4]), ([5], [5]), ([6, 4, 0, 1, 2, 3, 4, 5, 6], [6])])
def raw_Top.B1 : List Nat := [0, 1, 0, 4, 12, 31, 63, 127]
theorem raw_Top.tab1 : rtab .any (opsOf Tryd.f87 1) = raw_Top.T1 := by kernel_rfl
theorem raw_Top.bits1 : waitsOk raw_Top.T1.2 raw_Top.B1 = true := by kernel_rfl
set_option maxHeartbeats 8000000 in
set_option maxRecDepth 100000 in
theorem raw_Top.calls (k : Nat) (a0_0 : Bool) (A0_1 : Option Addr) (c0_1 : Nat) (l0_1 : List Int) (a0_2 : Int) (r : Int) (w : World) (hr0_1 : Kd.C (Kd.int .u64) w A0_1 l0_1.length l0_1) (hc0_1 : l0_1.length ≤ c0_1) (h : raw_Top.f k a0_0 l0_1 a0_2 = some r) :
  Calls Tryd.prog 87 #[.agg #[.bool a0_0, .slice A0_1 l0_1.length c0_1, .int .i64 a0_2]] w fun e w' => e = .returned (.int .i64 r) ∧ Below w.heap.size w w' := by
 have hu25 := Tryd.underlying25
 have HR0_1 := zA hr0_1
 have HC0_1 := zA hc0_1
 clear hr0_1 hc0_1
 have HB := zA (Below.refl w.heap.size w)
 have H : ((limbs_Len.f k l0_1).bind fun t348 => (some (wrap64 ((wrap64 (a0_2 + t348)) - 1)))) = some r := h
 clear h
 obtain ⟨t348, A2, H⟩ := zh H
 obtain rfl := Option.some.inj H
 go_enter Tryd.func87, Tryd.ntmps87
 try go_wp2_with (first | ((with_reducible refine zD 1 rfl ?_); refine zn (N := 1) (cs := #[.bool a0_0, .slice A0_1 l0_1.length c0_1, .int .i64 a0_2]) (t := 25) rfl rfl ?_; intro gb347 hg w3 hbox hb; have BK347 := zA (hbox); have GW347 := zw hg; replace HB := ze hb; clear hb hbox hg))
 replace BK347 := zA (blk_drew BK347.out)
 replace HB := zA (below_drew1 HB.out)
 refine start_ (n := 8) (S := fun w' => z3 w' gb347 (.bool a0_0) (.slice A0_1 l0_1.length c0_1) (.int .i64 a0_2)) (ds := []) #[false, false, false, false, false, false, false, false] (by kernel_rfl) rfl rfl (zz BK347) (fun hHeld => ?_); refine with_tabW raw_Top.tab1 raw_Top.bits1 (fun HT_ HW_ => ?_)
 generalize w3.drew = w4 at BK347 HB hHeld ⊢
 refine pure_ (i := 0) (N := some 3) (v := ?_) (a' := ?_) #[true, false, false, false, false, false, false, false] rfl rfl (any_of HT_.out (by kernel_rfl)) (fun _ _ _ h => h) (Or.inl ⟨by rfl, ?_⟩) ?_ ?_
 rotate_left
 ·intro w'
  go_simp
  with_reducible rfl
 rotate_left
 ·exact zq
 refine pure_ (i := 2) (N := some 5) (v := ?_) (a' := ?_) #[true, false, true, false, false, false, false, false] rfl rfl (any_of HT_.out (by kernel_rfl)) (fun _ _ _ h => h) (Or.inl ⟨by rfl, ?_⟩) ?_ ?_
 rotate_left
 ·intro w'
  go_simp
  with_reducible rfl
 rotate_left
 ·exact zq
 refine take_ (i := 1) (N := some 4) (v := ?_) (a' := ?_) #[true, true, true, false, false, false, false, false] rfl rfl (take_ofW HT_.out HW_.out (by kernel_rfl)) (fun _ _ _ h => h) (Or.inl ⟨by rfl, ?_⟩) hHeld ?_ ?_
 rotate_left
 ·rintro w' ⟨s0, s1, s2⟩
  go_simp
  with_reducible rfl
 rotate_left
 ·exact zq
 refine take_ (i := 3) (N := some 6) (v := ?_) (a' := ?_) #[true, true, true, true, false, false, false, false] rfl rfl (take_ofW HT_.out HW_.out (by kernel_rfl)) (fun _ _ _ h => h) (Or.inl ⟨by rfl, ?_⟩) hHeld ?_ ?_
 rotate_left
 ·rintro w' ⟨s0, s1, s2⟩
  go_simp
  with_reducible rfl
 rotate_left
 ·exact zq
 refine one_ (i := 4) (N := some 7) #[true, true, true, true, true, false, false, false] rfl rfl (one_of HT_.out (by kernel_rfl)) (by decide) (fun K hK => ?_)
 refine goes_ Tryd.func84 (by kernel_rfl) rfl #[.slice A0_1 l0_1.length c0_1] (by rfl) rfl rfl ga ?_
 with_reducible refine (limbs_Len.calls k _ _ l0_1 t348 _ ?side1 ?side2 A2.out).mono ?_
 (case side1 => exact zk (C_below HR0_1.out HB.out))
 (case side2 => exact HC0_1.out)
 rintro e w5 ⟨rfl, hb⟩
 refine ⟨_, rfl, ?_⟩
 replace BK347 := zb BK347 hb
 replace HB := zf hb
 (try clear hb)
 (try clear hb2)
 (try clear hk)
 (try clear hi)
 refine hK.out _ _ (zz BK347) (fun hHeld => ?_)
 clear hK K
 refine norm_ (a' := ?_) ?_ ?_
 rotate_left
 ·show Act.put _ (some 7) _ = _
  simp only [Act.put, List.setIfInBounds_toArray, List.set_cons_zero, List.set_cons_succ, i64_w, i32_w]
  rfl
 refine pure_ (i := 5) (N := some 8) (v := ?_) (a' := ?_) #[true, true, true, true, true, true, false, false] rfl rfl (any_of HT_.out (by kernel_rfl)) (fun _ _ _ h => h) (Or.inl ⟨by rfl, ?_⟩) ?_ ?_
 rotate_left
 ·intro w'
  go_simp
  with_reducible rfl
 rotate_left
 ·exact zq
 refine pure_ (i := 6) (N := some 9) (v := ?_) (a' := ?_) #[true, true, true, true, true, true, true, false] rfl rfl (any_of HT_.out (by kernel_rfl)) (fun _ _ _ h => h) (Or.inl ⟨by rfl, ?_⟩) ?_ ?_
 rotate_left
 ·intro w'
  go_simp
  with_reducible rfl
 rotate_left
 ·exact zq
 refine pure_ (i := 7) (N := some 2) (v := ?_) (a' := ?_) #[true, true, true, true, true, true, true, true] rfl rfl (any_of HT_.out (by kernel_rfl)) (fun _ _ _ h => h) (Or.inl ⟨by rfl, ?_⟩) ?_ ?_
 rotate_left
 ·intro w'
  go_simp
  with_reducible rfl
 rotate_left
 ·exact zq
 refine done_ (done_of HT_.out (by kernel_rfl)) ?_
 try go_wp2
 go_ret
 exact ⟨er, zs⟩
def raw_Sign.f (k : Nat) (a0_0 : Bool) (l0_1 : List Int) (a0_2 : Int) : Option (Int) := (raw_Zero.f k a0_0 l0_1 a0_2).bind fun t350 => (if t350 = true then (some 0) else (if a0_0 = true then (some (-1)) else (some 1)))
theorem raw_Sign.mono : ∀ a0 a1 a2 k, LeO (raw_Sign.f k a0 a1 a2) (raw_Sign.f (k + 1) a0 a1 a2) := by
 intro a0 a1 a2 k
 unfold raw_Sign.f
 repeat' first
   | (with_reducible exact raw_Zero.mono _ _ _ _)
   | (with_reducible exact LeO.refl _)
   | (with_reducible exact LeO.none _)
   | (with_reducible refine LeO.ite ?_ ?_)
   | (with_reducible refine LeO.bind ?_ (fun _ => ?_))
   | exact raw_Zero.mono _ _ _ _
   | exact LeO.none _
   | refine LeO.ite ?_ ?_
   | refine LeO.bind ?_ (fun _ => ?_)
set_option maxHeartbeats 8000000 in
set_option maxRecDepth 100000 in
theorem raw_Sign.calls (k : Nat) (a0_0 : Bool) (A0_1 : Option Addr) (c0_1 : Nat) (l0_1 : List Int) (a0_2 : Int) (r : Int) (w : World) (hr0_1 : Kd.C (Kd.int .u64) w A0_1 l0_1.length l0_1) (hc0_1 : l0_1.length ≤ c0_1) (h : raw_Sign.f k a0_0 l0_1 a0_2 = some r) :
  Calls Tryd.prog 127 #[.agg #[.bool a0_0, .slice A0_1 l0_1.length c0_1, .int .i64 a0_2]] w fun e w' => e = .returned (.int .i64 r) ∧ Below w.heap.size w w' := by
 have hu25 := Tryd.underlying25
 have HR0_1 := zA hr0_1
 have HC0_1 := zA hc0_1
 clear hr0_1 hc0_1
 have HB := zA (Below.refl w.heap.size w)
 have H : ((raw_Zero.f k a0_0 l0_1 a0_2).bind fun t350 => (if t350 = true then (some 0) else (if a0_0 = true then (some (-1)) else (some 1)))) = some r := h
 clear h
 obtain ⟨t350, A2, H⟩ := zh H
 by_cases c3 : t350 = true
 ·subst c3
  rw [if_pos rfl] at H
  obtain rfl := Option.some.inj H
  go_enter Tryd.func127, Tryd.ntmps127
  go_wp2_with (first | ((with_reducible refine zD 1 rfl ?_); refine zn (N := 1) (cs := #[.bool a0_0, .slice A0_1 l0_1.length c0_1, .int .i64 a0_2]) (t := 25) rfl rfl ?_; intro gb349 hg w4 hbox hb; have BK349 := zA (hbox); have GW349 := zw hg; replace HB := ze hb; clear hb hbox hg; obtain ⟨_, _, _, _, _, _⟩ := zc BK349) | ((with_reducible refine zG 73 rfl ?_); refine zL (some 5) rfl rfl Tryd.func73 #[.agg #[.bool a0_0, .slice A0_1 l0_1.length c0_1, .int .i64 a0_2]] rfl ?_; (with_reducible refine (raw_Zero.calls k a0_0 _ _ l0_1 a0_2 true _ ?side1 ?side2 A2.out).mono ?_); (case side1 => exact zk (C_below HR0_1.out HB.out)); (case side2 => exact HC0_1.out); rintro e w6 ⟨rfl, hb⟩; refine ⟨_, rfl, ?_⟩; replace BK349 := zb BK349 hb; replace HB := zf hb))
  go_ret
  exact ⟨er, zs⟩
 replace c3 := Bool.eq_false_iff.mpr c3
 subst c3
 rw [if_neg (show ¬ (false = true) by decide)] at H
 by_cases c7 : a0_0 = true
 ·subst c7
  rw [if_pos rfl] at H
  obtain rfl := Option.some.inj H
  go_enter Tryd.func127, Tryd.ntmps127
  go_wp2_with (first | ((with_reducible refine zD 1 rfl ?_); refine zn (N := 1) (cs := #[.bool true, .slice A0_1 l0_1.length c0_1, .int .i64 a0_2]) (t := 25) rfl rfl ?_; intro gb349 hg w8 hbox hb; have BK349 := zA (hbox); have GW349 := zw hg; replace HB := ze hb; clear hb hbox hg; obtain ⟨_, _, _, _, _, _⟩ := zc BK349) | ((with_reducible refine zG 73 rfl ?_); refine zL (some 5) rfl rfl Tryd.func73 #[.agg #[.bool true, .slice A0_1 l0_1.length c0_1, .int .i64 a0_2]] rfl ?_; (with_reducible refine (raw_Zero.calls k true _ _ l0_1 a0_2 false _ ?side1 ?side2 A2.out).mono ?_); (case side1 => exact zk (C_below HR0_1.out HB.out)); (case side2 => exact HC0_1.out); rintro e w10 ⟨rfl, hb⟩; refine ⟨_, rfl, ?_⟩; replace BK349 := zb BK349 hb; replace HB := zf hb; obtain ⟨hcz11_0, hcz11_1, hcz11_2, hfz11_0, hfz11_1, hfz11_2⟩ := zc BK349))
  go_ret
  exact ⟨er, zs⟩
 replace c7 := Bool.eq_false_iff.mpr c7
 subst c7
 rw [if_neg (show ¬ (false = true) by decide)] at H
 obtain rfl := Option.some.inj H
 go_enter Tryd.func127, Tryd.ntmps127
 go_wp2_with (first | ((with_reducible refine zD 1 rfl ?_); refine zn (N := 1) (cs := #[.bool false, .slice A0_1 l0_1.length c0_1, .int .i64 a0_2]) (t := 25) rfl rfl ?_; intro gb349 hg w12 hbox hb; have BK349 := zA (hbox); have GW349 := zw hg; replace HB := ze hb; clear hb hbox hg; obtain ⟨_, _, _, _, _, _⟩ := zc BK349) | ((with_reducible refine zG 73 rfl ?_); refine zL (some 5) rfl rfl Tryd.func73 #[.agg #[.bool false, .slice A0_1 l0_1.length c0_1, .int .i64 a0_2]] rfl ?_; (with_reducible refine (raw_Zero.calls k false _ _ l0_1 a0_2 false _ ?side1 ?side2 A2.out).mono ?_); (case side1 => exact zk (C_below HR0_1.out HB.out)); (case side2 => exact HC0_1.out); rintro e w14 ⟨rfl, hb⟩; refine ⟨_, rfl, ?_⟩; replace BK349 := zb BK349 hb; replace HB := zf hb; obtain ⟨hcz15_0, hcz15_1, hcz15_2, hfz15_0, hfz15_1, hfz15_2⟩ := zc BK349))
 go_ret
 exact ⟨er, zs⟩
end Go.Proofs.YtemfckibdojbbaaDoor.PAll
