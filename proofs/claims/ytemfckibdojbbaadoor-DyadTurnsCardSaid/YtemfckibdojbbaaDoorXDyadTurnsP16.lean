/- Printed functions, merged by a program of this session. -/
import Derived.Test.YtemfckibdojbbaaDoorXDyadTurnsP1
import Derived.Test.YtemfckibdojbbaaDoorXDyadTurnsP0
import Derived.Test.YtemfckibdojbbaaDoorXDyadTurnsP15
import Derived.Test.YtemfckibdojbbaaDoorXDyadTurnsP14
import Derived.Test.YtemfckibdojbbaaDoorXDyadTurnsP13
import Derived.Laws.StructEq
import Derived.Test.YtemfckibdojbbaaDoorXDyadTurnsSh
namespace Go.Proofs.YtemfckibdojbbaaDoor.PAll
open Go.RowKit Go.Proofs.YtemfckibdojbbaaDoorW.PrintWords Go.Proofs.YtemfckibdojbbaaDoorW.PrintLast Go.Proofs.YtemfckibdojbbaaDoorW.PrintMore Go.Proofs.YtemfckibdojbbaaDoorW.PrintWords.Kd
attribute [local go_sem] max2_int min2_int max_two min_two max_three min_three max_four min_four   -- for this text's walks alone
set_option linter.unusedVariables false
set_option linter.unusedSimpArgs false
attribute [local go_sem] ext135 ext136
def dyad_Shift.f (k : Nat) (a0_0 : Bool) (l0_1 : List Int) (a0_2 : Int) (a1 : Int) : Option (Bool × List Int × Int × Int) := if a1 < (-65536) then (some (false, ([] : List Int), 0, 2)) else (if a1 > 65536 then (some (false, ([] : List Int), 0, 2)) else ((dyad_number_right.f k a0_0 l0_1 a0_2).bind fun t844 => (if t844 = true then ((raw_Shift.f k a0_0 l0_1 a0_2 a1).bind fun bt845 => ((dyad_room.f k bt845.1 bt845.2.1 bt845.2.2).bind fun bt850 => (some (bt850.1, bt850.2.1, bt850.2.2.1, bt850.2.2.2)))) else (some (false, ([] : List Int), 0, 2)))))
set_option maxRecDepth 100000 in
theorem hand_Shift_lit (k : Nat) (g0 : Nat) (s0 : Bool) (A0 : Option Addr) (c0 : Nat) (l0 : List Int) (e0 : Int) (gx0 : Nat) (x0 : Int) (ok : Nat → Prop) (r1 : Bool) (r2 : List Int) (r3 : Int) (w : World) (hb0 : w.heap[g0]? = some (.cells #[.bool s0, .slice A0 l0.length c0, .int .i64 e0] 25 (0, 0))) (hv0 : Kd.V (Kd.int .u64) 43 w w.heap.size (ok) (.slice A0 l0.length c0) l0) (hbx0 : w.heap[gx0]? = some (.cells #[.int .i64 x0] 3 (0, 0))) (hok : ∀ k_, ok k_ → k_ < w.heap.size) (hT : Laid w) (h : raw_Shift.f k s0 l0 e0 x0 = some (r1, r2, r3)) :
  Calls Tryd.prog 78 #[.pointer (some ⟨g0, 0, none⟩), .pointer (some ⟨gx0, 0, none⟩)] w fun x w' => ∃ v1_ : Value, x = .returned (.agg #[.bool r1, v1_, .int .i64 r3]) ∧ Kd.V (Kd.int .u64) 43 w' w.heap.size (fun k_ => ok k_ ∨ w.heap.size ≤ k_) (v1_) r2 ∧ Below w.heap.size w w' := by
 have hu25 := Tryd.underlying25
 have HB := zA (Below.refl w.heap.size w)
 have HV0 := zA hv0
 have B0 := zA hb0
 have BX0 := zA hbx0
 have HT := zA hT
 have HH := zA h
 have Hok := zA hok
 clear hT h hok hv0 hb0 hbx0
 go_enter Tryd.func78, Tryd.ntmps78
 go_wp2_with (first | ((with_reducible refine zD 2 rfl ?_); refine zn (N := 2) (cs := #[.bool false, .slice none 0 0, .int .i64 0]) (t := 25) rfl rfl ?_; intro gBR hg w1 hbox hb; have GBR := zA (hg ▸ below_size HB.out : w.heap.size ≤ gBR); have m_HV0 := zA (V_below HV0.out hb); have m_B0 := zA (blk_below B0.out hb); have m_BX0 := zA (blk_below BX0.out hb); have m_HB := zA (below_step HB.out hb); clear HB hb HV0 B0 BX0; have HV0 := m_HV0; have B0 := m_B0; have BX0 := m_BX0; have HB := m_HB; clear m_HV0 m_B0 m_BX0 m_HB; have BR := zA hbox; clear hbox hg; have LT := zA (blk_lt BR.out); obtain ⟨_, _, _, _, _, _⟩ := zc B0; have hcBX00 := (blk_cell BX0.out 0).trans rfl; have hfBX00 := blk_frozen BX0.out 0; obtain ⟨_, _, _, _, _, _⟩ := zc BR) | ((with_reducible refine zG 79 rfl ?_); refine goesL_ (some 5) rfl rfl Tryd.func79 (by kernel_rfl) rfl #[.agg #[.bool s0, .slice A0 l0.length c0, .int .i64 e0], .int .i64 x0] rfl (by (try simp only [List.map_toArray, List.map_cons, List.map_nil]); first | done | rfl) ?_; refine (raw_Shift.calls k s0 ok _ _ l0 e0 x0 r1 r2 r3 _ HV0.out (laid_below HT.out HB.out) HH.out).mono ?_; rintro e w7 ⟨v7, rfl, hv, hb⟩; obtain ⟨A7, c7, rfl⟩ := V_slice hv; refine ⟨_, rfl, ?_⟩; have HVR := zA (V_mono hv (ok' := fun k_ => (ok k_ ∨ w.heap.size ≤ k_) ∧ k_ ≠ gBR) (fun k_ hk => by { have h1 := LT.out; have h3 := GBR.out; rcases hk with hk | hk; (exact ⟨.inl hk, fun e => by { subst e; exact absurd (Hok.out _ hk) (Nat.not_lt.mpr h3) }⟩); (exact ⟨.inr (by omega), by omega⟩) })); have m_BR := zA (blk_below BR.out hb); have m_HB := zA (below_step HB.out hb); clear HB hb BR; have BR := m_BR; have HB := m_HB; clear m_BR m_HB; obtain ⟨_, _, _, _, _, _⟩ := zc BR))
 refine bodyPost_ret (results_cell_row rfl _ _ gBR 25 #[.bool r1, .slice A7 r2.length c7, .int .i64 r3] (0, 0) _ rfl (by refine blk_put (cs := #[.bool r1, .slice A7 r2.length c7, .int .i64 0]) ?_ 2 _ rfl; refine blk_put (cs := #[.bool r1, .slice none 0 0, .int .i64 0]) ?_ 1 _ rfl; refine blk_put (cs := #[.bool false, .slice none 0 0, .int .i64 0]) ?_ 0 _ rfl; exact BR.out) Tryd.underlying25 rfl (by kernel_rfl)) rfl ?_
 exact ⟨_, rfl, V_mono (V_far (p := ⟨gBR, 2, none⟩) (V_far (p := ⟨gBR, 1, none⟩) (V_far (p := ⟨gBR, 0, none⟩) HVR.out (fun _ hk => hk.2) (.bool r1)) (fun _ hk => hk.2) (.slice A7 r2.length c7)) (fun _ hk => hk.2) (.int .i64 r3)) (fun _ hk => hk.1), below_set (below_set (below_set HB.out GBR.out) GBR.out) GBR.out⟩
theorem hand_Shift_key (k : Nat) (a0_0 : Bool) (l0_1 : List Int) (a0_2 : Int) (a1 : Int) (r1 : Bool) (r2 : List Int) (r3 r4 : Int) (h : dyad_Shift.f k a0_0 l0_1 a0_2 a1 = some (r1, r2, r3, r4)) :
  ((a1 < (-65536) ∨ a1 > 65536) ∧ (r1, r2, r3, r4) = (false, ([] : List Int), (0 : Int), (2 : Int))) ∨ (¬ (a1 < (-65536) ∨ a1 > 65536) ∧ ∃ ra s1 l1 e1, dyad_number_right.f k a0_0 l0_1 a0_2 = some ra ∧ ((ra) = true → raw_Shift.f k a0_0 l0_1 a0_2 a1 = some (s1, l1, e1)) ∧ ((ra) = true → dyad_room.f k s1 l1 e1 = some (r1, r2, r3, r4)) ∧ ((ra) = false → (r1, r2, r3, r4) = (false, ([] : List Int), (0 : Int), (2 : Int)))) := by
 unfold dyad_Shift.f at h
 by_cases q1 : a1 < (-65536)
 ·rw [if_pos q1] at h; injection h with h; exact .inl ⟨.inl q1, h.symm⟩
 rw [if_neg q1] at h
 by_cases q2 : a1 > 65536
 ·rw [if_pos q2] at h; injection h with h; exact .inl ⟨.inr q2, h.symm⟩
 rw [if_neg q2] at h
 refine .inr ⟨fun q => q.elim q1 q2, ?_⟩
 cases hA : dyad_number_right.f k a0_0 l0_1 a0_2 with
 | none => rw [hA] at h; cases h
 | some ra =>
 rw [hA] at h
 replace h : (if ra = true then _ else _) = _ := h
 cases ra with
 | false => rw [if_neg (by decide)] at h; injection h with h; exact ⟨false, false, [], 0, rfl, (fun q => by cases q), (fun q => by cases q), fun _ => h.symm⟩
 | true =>
 rw [if_pos rfl] at h
 cases hC : raw_Shift.f k a0_0 l0_1 a0_2 a1 with
 | none => rw [hC] at h; cases h
 | some t =>
 obtain ⟨s1, l1, e1⟩ := t
 rw [hC] at h
 replace h : (dyad_room.f k s1 l1 e1).bind _ = _ := h
 cases hD : dyad_room.f k s1 l1 e1 with
 | none => rw [hD] at h; cases h
 | some q =>
 obtain ⟨q1, q2, q3, q4⟩ := q
 rw [hD] at h
 injection h with h
 exact ⟨true, s1, l1, e1, rfl, fun _ => rfl, fun _ => hD.trans (congrArg some h), fun q => by cases q⟩
set_option maxHeartbeats 8000000 in
set_option maxRecDepth 100000 in
theorem dyad_Shift.calls (k : Nat) (a0_0 : Bool) (P0_1_ : Nat → Prop) (A0_1 : Option Addr) (c0_1 : Nat) (l0_1 : List Int) (a0_2 : Int) (a1 : Int) (r1 : Bool) (r2 : List Int) (r3 : Int) (r4 : Int) (w : World) (hs0_1 : Kd.V (Kd.int .u64) 43 w w.heap.size (fun k_ => P0_1_ k_) (.slice A0_1 l0_1.length c0_1) l0_1) (hT : Laid w) (h : dyad_Shift.f k a0_0 l0_1 a0_2 a1 = some (r1, r2, r3, r4)) :
  Calls Tryd.prog 31 #[.agg #[.bool a0_0, .slice A0_1 l0_1.length c0_1, .int .i64 a0_2], .int .i64 a1] w fun e w' => ∃ v1_ : Value, e = .returned (.tuple #[.agg #[.bool r1, v1_, .int .i64 r3], .int .i64 r4]) ∧ Kd.V (Kd.int .u64) 43 w' w.heap.size (fun k_ => (P0_1_ k_ ∨ w.heap.size ≤ k_)) v1_ r2 ∧ Below w.heap.size w w' := by
 have hu25 := Tryd.underlying25
 have hmf : ∀ (fn : Fn) (first cap : Array Value) (w : World), (Instr.makeFunc fn first cap).run Tryd.prog w = .ok (.func fn first cap) w := fun _ _ _ _ => rfl
 have HB := zA (Below.refl w.heap.size w)
 have HT := zA hT
 have HV0 := zA (V_mono (ok' := fun k_ => (P0_1_ k_) ∧ k_ < w.heap.size) (V_bound hs0_1) (fun k_ hk => ⟨hk.1, hk.2⟩))
 have HK := zA (hand_Shift_key k a0_0 l0_1 a0_2 a1 r1 r2 r3 r4 h)
 clear hT h hs0_1
 go_enter Tryd.func31, Tryd.ntmps31
 rcases HK.out with ⟨q, hq⟩ | ⟨q, HK0⟩
 ·clear HK
  simp only [Prod.mk.injEq] at hq
  obtain ⟨rfl, rfl, rfl, rfl⟩ := hq
  rcases q with q | q
  ·go_wp2_with (first | ((with_reducible refine zD 2 rfl ?_); refine zn (N := 2) (cs := #[.bool a0_0, .slice A0_1 l0_1.length c0_1, .int .i64 a0_2]) (t := 25) rfl rfl ?_; intro gB0 hg w1 hbox hb; have GB0 := zA (hg ▸ below_size HB.out : w.heap.size ≤ gB0); have m_HV0 := zA (V_below HV0.out hb); have m_HB := zA (below_step HB.out hb); clear HB hb HV0; have HV0 := m_HV0; have HB := m_HB; clear m_HV0 m_HB; have B0 := zA hbox; clear hbox hg) | ((with_reducible refine zD 3 rfl ?_); refine zn (N := 3) (cs := #[.int .i64 a1]) (t := 3) rfl rfl ?_; intro gBX0 hg w1 hbox hb; have GBX0 := zA (hg ▸ below_size HB.out : w.heap.size ≤ gBX0); have m_HV0 := zA (V_below HV0.out hb); have m_B0 := zA (blk_below B0.out hb); have m_HB := zA (below_step HB.out hb); clear HB hb HV0 B0; have HV0 := m_HV0; have B0 := m_B0; have HB := m_HB; clear m_HV0 m_B0 m_HB; have BX0 := zA hbox; clear hbox hg) | ((with_reducible refine zD 4 rfl ?_); refine zn (N := 4) (cs := #[.bool false, .slice none 0 0, .int .i64 0]) (t := 25) rfl rfl ?_; intro gBR hg w1 hbox hb; have GBR := zA (hg ▸ below_size HB.out : w.heap.size ≤ gBR); have m_HV0 := zA (V_below HV0.out hb); have m_B0 := zA (blk_below B0.out hb); have m_BX0 := zA (blk_below BX0.out hb); have m_HB := zA (below_step HB.out hb); clear HB hb HV0 B0 BX0; have HV0 := m_HV0; have B0 := m_B0; have BX0 := m_BX0; have HB := m_HB; clear m_HV0 m_B0 m_BX0 m_HB; have BR := zA hbox; clear hbox hg; obtain ⟨_, _, _, _, _, _⟩ := zc B0; have hcBX00 := (blk_cell BX0.out 0).trans rfl; have hfBX00 := blk_frozen BX0.out 0; obtain ⟨_, _, _, _, _, _⟩ := zc BR))
   refine bodyPost_ret (results_ct rfl _ _ gBR 25 #[.bool false, .slice none 0 0, .int .i64 0] (0, 0) _ rfl (by refine blk_put (cs := #[.bool false, .slice none 0 0, .int .i64 0]) ?_ 2 _ rfl; refine blk_put (cs := #[.bool false, .slice none 0 0, .int .i64 0]) ?_ 1 _ rfl; refine blk_put (cs := #[.bool false, .slice none 0 0, .int .i64 0]) ?_ 0 _ rfl; exact BR.out) Tryd.underlying25 rfl (by kernel_rfl)) rfl ?_
   exact ⟨_, rfl, V_nil _ _ _ _ _, below_set (below_set (below_set HB.out GBR.out) GBR.out) GBR.out⟩
  go_wp2_with (first | ((with_reducible refine zD 2 rfl ?_); refine zn (N := 2) (cs := #[.bool a0_0, .slice A0_1 l0_1.length c0_1, .int .i64 a0_2]) (t := 25) rfl rfl ?_; intro gB0 hg w1 hbox hb; have GB0 := zA (hg ▸ below_size HB.out : w.heap.size ≤ gB0); have m_HV0 := zA (V_below HV0.out hb); have m_HB := zA (below_step HB.out hb); clear HB hb HV0; have HV0 := m_HV0; have HB := m_HB; clear m_HV0 m_HB; have B0 := zA hbox; clear hbox hg) | ((with_reducible refine zD 3 rfl ?_); refine zn (N := 3) (cs := #[.int .i64 a1]) (t := 3) rfl rfl ?_; intro gBX0 hg w1 hbox hb; have GBX0 := zA (hg ▸ below_size HB.out : w.heap.size ≤ gBX0); have m_HV0 := zA (V_below HV0.out hb); have m_B0 := zA (blk_below B0.out hb); have m_HB := zA (below_step HB.out hb); clear HB hb HV0 B0; have HV0 := m_HV0; have B0 := m_B0; have HB := m_HB; clear m_HV0 m_B0 m_HB; have BX0 := zA hbox; clear hbox hg) | ((with_reducible refine zD 4 rfl ?_); refine zn (N := 4) (cs := #[.bool false, .slice none 0 0, .int .i64 0]) (t := 25) rfl rfl ?_; intro gBR hg w1 hbox hb; have GBR := zA (hg ▸ below_size HB.out : w.heap.size ≤ gBR); have m_HV0 := zA (V_below HV0.out hb); have m_B0 := zA (blk_below B0.out hb); have m_BX0 := zA (blk_below BX0.out hb); have m_HB := zA (below_step HB.out hb); clear HB hb HV0 B0 BX0; have HV0 := m_HV0; have B0 := m_B0; have BX0 := m_BX0; have HB := m_HB; clear m_HV0 m_B0 m_BX0 m_HB; have BR := zA hbox; clear hbox hg; obtain ⟨_, _, _, _, _, _⟩ := zc B0; have hcBX00 := (blk_cell BX0.out 0).trans rfl; have hfBX00 := blk_frozen BX0.out 0; obtain ⟨_, _, _, _, _, _⟩ := zc BR))
  refine bodyPost_ret (results_ct rfl _ _ gBR 25 #[.bool false, .slice none 0 0, .int .i64 0] (0, 0) _ rfl (by refine blk_put (cs := #[.bool false, .slice none 0 0, .int .i64 0]) ?_ 2 _ rfl; refine blk_put (cs := #[.bool false, .slice none 0 0, .int .i64 0]) ?_ 1 _ rfl; refine blk_put (cs := #[.bool false, .slice none 0 0, .int .i64 0]) ?_ 0 _ rfl; exact BR.out) Tryd.underlying25 rfl (by kernel_rfl)) rfl ?_
  exact ⟨_, rfl, V_nil _ _ _ _ _, below_set (below_set (below_set HB.out GBR.out) GBR.out) GBR.out⟩
 clear HK
 obtain ⟨ra, s1, l1, e1, hA, hC, hD, hE⟩ := HK0
 replace hA := zA hA
 replace hC := zA hC
 replace hD := zA hD
 replace hE := zA hE
 have q1 : ¬ a1 < (-65536) := fun e => q (.inl e)
 have q2 : ¬ a1 > 65536 := fun e => q (.inr e)
 clear q
 go_wp2_with (first | ((with_reducible refine zD 2 rfl ?_); refine zn (N := 2) (cs := #[.bool a0_0, .slice A0_1 l0_1.length c0_1, .int .i64 a0_2]) (t := 25) rfl rfl ?_; intro gB0 hg w1 hbox hb; have GB0 := zA (hg ▸ below_size HB.out : w.heap.size ≤ gB0); have m_HV0 := zA (V_below HV0.out hb); have m_HB := zA (below_step HB.out hb); clear HB hb HV0; have HV0 := m_HV0; have HB := m_HB; clear m_HV0 m_HB; have B0 := zA hbox; clear hbox hg) | ((with_reducible refine zD 3 rfl ?_); refine zn (N := 3) (cs := #[.int .i64 a1]) (t := 3) rfl rfl ?_; intro gBX0 hg w1 hbox hb; have GBX0 := zA (hg ▸ below_size HB.out : w.heap.size ≤ gBX0); have m_HV0 := zA (V_below HV0.out hb); have m_B0 := zA (blk_below B0.out hb); have m_HB := zA (below_step HB.out hb); clear HB hb HV0 B0; have HV0 := m_HV0; have B0 := m_B0; have HB := m_HB; clear m_HV0 m_B0 m_HB; have BX0 := zA hbox; clear hbox hg) | ((with_reducible refine zD 4 rfl ?_); refine zn (N := 4) (cs := #[.bool false, .slice none 0 0, .int .i64 0]) (t := 25) rfl rfl ?_; intro gBR hg w1 hbox hb; have GBR := zA (hg ▸ below_size HB.out : w.heap.size ≤ gBR); have m_HV0 := zA (V_below HV0.out hb); have m_B0 := zA (blk_below B0.out hb); have m_BX0 := zA (blk_below BX0.out hb); have m_HB := zA (below_step HB.out hb); clear HB hb HV0 B0 BX0; have HV0 := m_HV0; have B0 := m_B0; have BX0 := m_BX0; have HB := m_HB; clear m_HV0 m_B0 m_BX0 m_HB; have BR := zA hbox; clear hbox hg; obtain ⟨_, _, _, _, _, _⟩ := zc B0; have hcBX00 := (blk_cell BX0.out 0).trans rfl; have hfBX00 := blk_frozen BX0.out 0; obtain ⟨_, _, _, _, _, _⟩ := zc BR) | ((with_reducible refine zD 15 rfl ?_); refine hand_slice_event (n := 1) ?hg (N := 15) ?hd (cs := #[.bool a0_0, .slice A0_1 l0_1.length c0_1, .int .i64 a0_2]) (t := 25) ?hr ?_; (case hd => rfl); (case hg => rfl); (case hr => first | (go_simp; done) | (go_simp; rfl)); intro gBS hg w1 hbox hb; have GBS := zA (hg ▸ below_size HB.out : w.heap.size ≤ gBS); have m_HV0 := zA (V_below HV0.out hb); have m_B0 := zA (blk_below B0.out hb); have m_BX0 := zA (blk_below BX0.out hb); have m_BR := zA (blk_below BR.out hb); have m_HB := zA (below_step HB.out hb); clear HB hb HV0 B0 BX0 BR; have HV0 := m_HV0; have B0 := m_B0; have BX0 := m_BX0; have BR := m_BR; have HB := m_HB; clear m_HV0 m_B0 m_BX0 m_BR m_HB; have BS := zA hbox; clear hbox hg; have LT := zA (blk_lt BR.out); have SZ := zA (below_size HB.out)) | ((with_reducible refine zG 60 rfl ?_); refine goesL_ (some 16) rfl rfl Tryd.func60 (by kernel_rfl) rfl #[.func (.func 78) #[] #[.pointer (some ⟨gB0, 0, none⟩), .pointer (some ⟨gBX0, 0, none⟩)], .slice (some ⟨gBS, 0, none⟩) 1 1] rfl (by (try simp only [List.map_toArray, List.map_cons, List.map_nil]); first | done | rfl) ?_; refine (hand_of k _ (ra) 78 _ #[] #[.pointer (some ⟨gB0, 0, none⟩), .pointer (some ⟨gBX0, 0, none⟩)] Tryd.func78 (by kernel_rfl) rfl s1 l1 e1 r1 r2 r3 r4 (fun k_ => (P0_1_ k_) ∧ k_ < w.heap.size) _ (fun w1 hb => (hand_contains _ _ w1 (hand_index1 k gBS a0_0 _ _ l0_1 a0_2 ra w1 (blk_below BS.out hb) (V_reads' (V_below HV0.out hb)).2.2 (V_reads' HV0.out).2.1 hA.out)).mono (by rintro x w2 ⟨rfl, hb2⟩; exact ⟨by cases ra <;> rfl, hb2⟩)) (fun hr w1 hb => calls_of_args (args' := #[.pointer (some ⟨gB0, 0, none⟩), .pointer (some ⟨gBX0, 0, none⟩)]) (by simp) (hand_Shift_lit k gB0 a0_0 _ _ l0_1 a0_2 gBX0 a1 (fun k_ => (P0_1_ k_) ∧ k_ < w.heap.size) s1 l1 e1 w1 (blk_below B0.out hb) (V_below HV0.out hb) (blk_below BX0.out hb) (fun k_ hk => Nat.lt_of_lt_of_le hk.2 (Nat.le_trans SZ.out hb.size)) (laid_below HT.out (below_step HB.out hb)) (hC.out hr))) hD.out (fun k_ hk => Nat.lt_of_lt_of_le hk.2 SZ.out) hE.out).mono ?_; rintro e w7 ⟨v7, rfl, hv, hb⟩; obtain ⟨A7, c7, rfl⟩ := V_slice hv; refine ⟨_, rfl, ?_⟩; have HVR := zA (V_mono hv (ok' := fun k_ => ((P0_1_ k_) ∨ w.heap.size ≤ k_) ∧ k_ ≠ gBR) (fun k_ hk => by { have h1 := LT.out; have h3 := GBR.out; rcases hk with hk | hk; (exact ⟨.inl hk.1, by have h4 := hk.2; omega⟩); (exact ⟨.inr (by have h5 := SZ.out; omega), by omega⟩) })); have m_BR := zA (blk_below BR.out hb); have m_HB := zA (below_step HB.out hb); clear HB hb BR; have BR := m_BR; have HB := m_HB; clear m_BR m_HB; obtain ⟨_, _, _, _, _, _⟩ := zc BR))
 refine bodyPost_ret (results_ct rfl _ _ gBR 25 #[.bool r1, .slice A7 r2.length c7, .int .i64 r3] (0, 0) _ rfl (by refine blk_put (cs := #[.bool r1, .slice A7 r2.length c7, .int .i64 0]) ?_ 2 _ rfl; refine blk_put (cs := #[.bool r1, .slice none 0 0, .int .i64 0]) ?_ 1 _ rfl; refine blk_put (cs := #[.bool false, .slice none 0 0, .int .i64 0]) ?_ 0 _ rfl; exact BR.out) Tryd.underlying25 rfl (by kernel_rfl)) rfl ?_
 exact ⟨_, rfl, V_mono (V_far (p := ⟨gBR, 2, none⟩) (V_far (p := ⟨gBR, 1, none⟩) (V_far (p := ⟨gBR, 0, none⟩) HVR.out (fun _ hk => hk.2) (.bool r1)) (fun _ hk => hk.2) (.slice A7 r2.length c7)) (fun _ hk => hk.2) (.int .i64 r3)) (fun _ hk => hk.1), below_set (below_set (below_set HB.out GBR.out) GBR.out) GBR.out⟩
def ulpref04_Twice.f (k : Nat) (a0_0 : Bool) (l0_1 : List Int) (a0_2 : Int) (a1 : Int) : Option (Bool × List Int × Int) := (ulpref04_Form.f k a0_0 l0_1 (wrap64 (a0_2 + a1))).bind fun bt858 => (some (bt858.1, bt858.2.1, bt858.2.2))
set_option maxHeartbeats 8000000 in
set_option maxRecDepth 100000 in
theorem ulpref04_Twice.calls (k : Nat) (a0_0 : Bool) (A0_1 : Option Addr) (c0_1 : Nat) (l0_1 : List Int) (a0_2 : Int) (a1 : Int) (r1 : Bool) (r2 : List Int) (r3 : Int) (w : World) (hr0_1 : Kd.C (Kd.int .u64) w A0_1 l0_1.length l0_1) (hc0_1 : l0_1.length ≤ c0_1) (h : ulpref04_Twice.f k a0_0 l0_1 a0_2 a1 = some (r1, r2, r3)) :
  Calls Tryd.prog 80 #[.agg #[.bool a0_0, .slice A0_1 l0_1.length c0_1, .int .i64 a0_2], .int .i64 a1] w fun e w' => ∃ v1_ : Value, e = .returned (.agg #[.bool r1, v1_, .int .i64 r3]) ∧ Kd.R (Kd.int .u64) 43 w' w.heap.size (fun _ => True) v1_ r2 ∧ Below w.heap.size w w' := by
 have hu25 := Tryd.underlying25
 have HR0_1 := zA hr0_1
 have HC0_1 := zA hc0_1
 clear hr0_1 hc0_1
 have HB := zA (Below.refl w.heap.size w)
 have H : ((ulpref04_Form.f k a0_0 l0_1 (wrap64 (a0_2 + a1))).bind fun bt858 => (some (bt858.1, bt858.2.1, bt858.2.2))) = some (r1, r2, r3) := h
 clear h
 obtain ⟨⟨t858, t859, t862⟩, A3, H⟩ := zh H
 (try dsimp only at H)
 simp only [Option.some.injEq, Prod.mk.injEq] at H
 obtain ⟨rfl, rfl, rfl⟩ := H
 go_enter Tryd.func80, Tryd.ntmps80
 go_wp2_with (first | ((with_reducible refine zD 2 rfl ?_); refine zn (N := 2) (cs := #[.bool a0_0, .slice A0_1 l0_1.length c0_1, .int .i64 a0_2]) (t := 25) rfl rfl ?_; intro gb856 hg w4 hbox hb; have BK856 := zA (hbox); have GW856 := zw hg; replace HB := ze hb; clear hb hbox hg) | ((with_reducible refine zD 4 rfl ?_); refine zn (N := 4) (cs := #[.bool false, .slice none 0 0, .int .i64 0]) (t := 25) rfl rfl ?_; intro gb857 hg w5 hbox hb; have BK857 := zA (hbox); have GW857 := zx hg; replace HB := zf hb; have NB856_857 := zl BK856 hg; have NB857_856 := zg BK856 hg; replace BK856 := zb BK856 hb; clear hb hbox hg; have hnb6 := NB856_857.out; have hnc6 := NB857_856.out; obtain ⟨_, _, _, _, _, _⟩ := zc BK856) | ((with_reducible refine zG 76 rfl ?_); refine zL (some 13) rfl rfl Tryd.func76 #[.bool a0_0, .slice A0_1 l0_1.length c0_1, .int .i64 (wrap64 (a0_2 + a1))] rfl ?_; (with_reducible refine (ulpref04_Form.calls k a0_0 _ _ l0_1 (wrap64 (a0_2 + a1)) t858 t859 t862 _ ?side1 ?side2 A3.out).mono ?_); (case side1 => exact zk (C_below HR0_1.out HB.out)); (case side2 => exact HC0_1.out); rintro e w8 ⟨v860, rfl, ho0, hb⟩; refine ⟨_, rfl, ?_⟩; have HO861 := zA (R_lower ho0 (below_size zs)); replace BK856 := zb BK856 hb; replace BK857 := zb BK857 hb; replace HB := zf hb; (try clear ho0); obtain ⟨hcz9_0, hcz9_1, hcz9_2, hfz9_0, hfz9_1, hfz9_2⟩ := zc BK857; obtain ⟨Ao10, co10, eo10⟩ := R_slice HO861.out; subst eo10))
 refine bodyPost_ret (results_cell_row rfl _ _ gb857 25 #[.bool t858, .slice Ao10 t859.length co10, .int .i64 t862] (0, 0) _ rfl (zy BK857) Tryd.underlying25 rfl (by kernel_rfl)) rfl ?_
 exact ⟨_, er, ru (R_mono (zr gb857 (R_types HO861.out BK857.out (by decide)) (fun _ hk => hk.2) _ _ _) (fun _ hk => trivial)), zs⟩
def ulpref04_Shift.j0 : Nat → Int → Bool → Bool → List Int → Int → Option (Bool × List Int × Int × Int)
 | 0, _, _, _, _, _ => none
 | k + 1, x1, x16, x864000, x864001, x864002 => if x16 = true then (some (false, ([] : List Int), 0, 2)) else ((ulpref04_Twice.f k x864000 x864001 x864002 x1).bind fun bt866 => ((ulpref04_room.f k bt866.1 bt866.2.1 bt866.2.2).bind fun bt871 => (some (bt871.1, bt871.2.1, bt871.2.2.1, bt871.2.2.2))))
def ulpref04_Shift.f (k : Nat) (a0_0 : Bool) (l0_1 : List Int) (a0_2 : Int) (a1 : Int) : Option (Bool × List Int × Int × Int) := (ulpref04_Right.f k a0_0 l0_1 a0_2).bind fun t865 => (if t865 = true then (if a1 < (-65536) then (ulpref04_Shift.j0 k a1 true a0_0 l0_1 a0_2) else (ulpref04_Shift.j0 k a1 (decide (a1 > 65536)) a0_0 l0_1 a0_2)) else (ulpref04_Shift.j0 k a1 true a0_0 l0_1 a0_2))
set_option maxHeartbeats 8000000 in
set_option maxRecDepth 100000 in
theorem ulpref04_Shift.calls (k : Nat) (a0_0 : Bool) (A0_1 : Option Addr) (c0_1 : Nat) (l0_1 : List Int) (a0_2 : Int) (a1 : Int) (r1 : Bool) (r2 : List Int) (r3 : Int) (r4 : Int) (w : World) (hr0_1 : Kd.C (Kd.int .u64) w A0_1 l0_1.length l0_1) (hc0_1 : l0_1.length ≤ c0_1) (h : ulpref04_Shift.f k a0_0 l0_1 a0_2 a1 = some (r1, r2, r3, r4)) :
  Calls Tryd.prog 32 #[.agg #[.bool a0_0, .slice A0_1 l0_1.length c0_1, .int .i64 a0_2], .int .i64 a1] w fun e w' => ∃ v1_ : Value, e = .returned (.tuple #[.agg #[.bool r1, v1_, .int .i64 r3], .int .i64 r4]) ∧ Kd.V (Kd.int .u64) 43 w' w.heap.size (fun k_ => (w.heap.size ≤ k_)) v1_ r2 ∧ Below w.heap.size w w' := by
 have hu25 := Tryd.underlying25
 have HR0_1 := zA hr0_1
 have HC0_1 := zA hc0_1
 clear hr0_1 hc0_1
 have HB := zA (Below.refl w.heap.size w)
 have H : ((ulpref04_Right.f k a0_0 l0_1 a0_2).bind fun t865 => (if t865 = true then (if a1 < (-65536) then (ulpref04_Shift.j0 k a1 true a0_0 l0_1 a0_2) else (ulpref04_Shift.j0 k a1 (decide (a1 > 65536)) a0_0 l0_1 a0_2)) else (ulpref04_Shift.j0 k a1 true a0_0 l0_1 a0_2))) = some (r1, r2, r3, r4) := h
 clear h
 have HC3 := zA H
 clear H
 go_enter Tryd.func32, Tryd.ntmps32
 go_upto_region 1 with (first | ((with_reducible refine zD 2 rfl ?_); refine zn (N := 2) (cs := #[.bool a0_0, .slice A0_1 l0_1.length c0_1, .int .i64 a0_2]) (t := 25) rfl rfl ?_; intro gb863 hg w4 hbox hb; have BK863 := zA (hbox); have GW863 := zw hg; replace HB := ze hb; clear hb hbox hg) | ((with_reducible refine zD 4 rfl ?_); refine zn (N := 4) (cs := #[.bool false, .slice none 0 0, .int .i64 0]) (t := 25) rfl rfl ?_; intro gb864 hg w5 hbox hb; have BK864 := zA (hbox); have GW864 := zx hg; replace HB := zf hb; have NB863_864 := zl BK863 hg; have NB864_863 := zg BK863 hg; replace BK863 := zb BK863 hb; clear hb hbox hg))
 (try simp only [Act.put, List.setIfInBounds_toArray, List.set_cons_zero, List.set_cons_succ])
 go_cut [16] (fun v16 wc => ∃ (kq : Nat) (x16_2 : Bool), v16 = .bool x16_2 ∧ Aside0 (ulpref04_Shift.j0 kq a1 x16_2 a0_0 l0_1 a0_2 = some (r1, r2, r3, r4)) ∧ Aside0 (kq ≤ k) ∧ Aside0 (wc.heap[gb863]? = some (.cells #[.bool a0_0, (.slice A0_1 l0_1.length c0_1), .int .i64 a0_2] 25 (0, 0))) ∧ Aside0 (wc.heap[gb864]? = some (.cells #[.bool false, (.slice none 0 0), .int .i64 0] 25 (0, 0))) ∧ Aside0 (Below w.heap.size w wc))
 case first =>
  have H := HC3.out
  clear HC3
  obtain ⟨t865, A6, H⟩ := zh H
  by_cases c7 : t865 = true
  ·subst c7
   rw [if_pos rfl] at H
   by_cases c8 : a1 < (-65536)
   ·rw [if_pos c8] at H
    have c8b0 := decide_eq_true c8
    clear c8
    (first | rw [c8b0] | (simp only [i64_w, i32_w]; rw [c8b0]) | skip)
    have H' := zA H
    clear H
    have hnb9 := NB863_864.out
    have hnc9 := NB864_863.out
    obtain ⟨_, _, _, _, _, _⟩ := zc BK863
    go_wp2_with (first | ((with_reducible refine zG 24 rfl ?_); refine zL (some 7) rfl rfl Tryd.func24 #[.agg #[.bool a0_0, .slice A0_1 l0_1.length c0_1, .int .i64 a0_2]] rfl ?_; (with_reducible refine (ulpref04_Right.calls k a0_0 _ _ l0_1 a0_2 true _ ?side1 ?side2 A6.out).mono ?_); (case side1 => exact zk (C_below HR0_1.out HB.out)); (case side2 => exact HC0_1.out); rintro e w11 ⟨rfl, hb⟩; refine ⟨_, rfl, ?_⟩; replace BK863 := zb BK863 hb; replace BK864 := zb BK864 hb; replace HB := zf hb))
    go_meet
    case rel => exact ⟨_, (true), zi, H', ⟨by first | omega | exact Nat.le_refl _⟩, ⟨zu BK863⟩, ⟨zu BK864⟩, ⟨zs⟩⟩
   rw [if_neg c8] at H
   have c8b0 := decide_eq_false c8
   clear c8
   (first | rw [c8b0] | (simp only [i64_w, i32_w]; rw [c8b0]) | skip)
   have H' := zA H
   clear H
   have hnb12 := NB863_864.out
   have hnc12 := NB864_863.out
   obtain ⟨_, _, _, _, _, _⟩ := zc BK863
   go_wp2_with (first | ((with_reducible refine zG 24 rfl ?_); refine zL (some 7) rfl rfl Tryd.func24 #[.agg #[.bool a0_0, .slice A0_1 l0_1.length c0_1, .int .i64 a0_2]] rfl ?_; (with_reducible refine (ulpref04_Right.calls k a0_0 _ _ l0_1 a0_2 true _ ?side1 ?side2 A6.out).mono ?_); (case side1 => exact zk (C_below HR0_1.out HB.out)); (case side2 => exact HC0_1.out); rintro e w14 ⟨rfl, hb⟩; refine ⟨_, rfl, ?_⟩; replace BK863 := zb BK863 hb; replace BK864 := zb BK864 hb; replace HB := zf hb))
   go_meet
   case rel => exact ⟨_, (decide (a1 > 65536)), zi, H', ⟨by first | omega | exact Nat.le_refl _⟩, ⟨zu BK863⟩, ⟨zu BK864⟩, ⟨zs⟩⟩
  replace c7 := Bool.eq_false_iff.mpr c7
  subst c7
  rw [if_neg (show ¬ (false = true) by decide)] at H
  have H' := zA H
  clear H
  have hnb15 := NB863_864.out
  have hnc15 := NB864_863.out
  obtain ⟨_, _, _, _, _, _⟩ := zc BK863
  go_wp2_with (first | ((with_reducible refine zG 24 rfl ?_); refine zL (some 7) rfl rfl Tryd.func24 #[.agg #[.bool a0_0, .slice A0_1 l0_1.length c0_1, .int .i64 a0_2]] rfl ?_; (with_reducible refine (ulpref04_Right.calls k a0_0 _ _ l0_1 a0_2 false _ ?side1 ?side2 A6.out).mono ?_); (case side1 => exact zk (C_below HR0_1.out HB.out)); (case side2 => exact HC0_1.out); rintro e w17 ⟨rfl, hb⟩; refine ⟨_, rfl, ?_⟩; replace BK863 := zb BK863 hb; replace BK864 := zb BK864 hb; replace HB := zf hb))
  go_meet
  case rel => exact ⟨_, (true), zi, H', ⟨by first | omega | exact Nat.le_refl _⟩, ⟨zu BK863⟩, ⟨zu BK864⟩, ⟨zs⟩⟩
 case rest =>
  clear HC3
  try clear c7
  try clear c8
  try clear c8b0
  obtain ⟨kq, x16_2, rfl, HA, HJ2, BK863, BK864, HB⟩ := hcut
  cases kq with
  | zero => exact absurd HA.out (by simp [ulpref04_Shift.j0])
  | succ kj2 =>
   have H := HA.out
   clear HA
   simp only [ulpref04_Shift.j0] at H
   by_cases c18 : x16_2 = true
   ·subst c18
    rw [if_pos rfl] at H
    simp only [Option.some.injEq, Prod.mk.injEq] at H
    obtain ⟨rfl, rfl, rfl, rfl⟩ := H
    have hnb19 := NB864_863.out
    have hnc19 := NB863_864.out
    obtain ⟨_, _, _, _, _, _⟩ := zc BK864
    go_wp2
    refine bodyPost_ret (results_ct rfl _ _ gb864 25 #[.bool false, .slice none 0 0, .int .i64 0] (0, 0) _ rfl (zy BK864) Tryd.underlying25 rfl (by kernel_rfl)) rfl ?_
    exact ⟨_, er, V_nil _ _ _ _ _, zs⟩
   replace c18 := Bool.eq_false_iff.mpr c18
   subst c18
   rw [if_neg (show ¬ (false = true) by decide)] at H
   obtain ⟨⟨t866, t867, t870⟩, A21, H⟩ := zh H
   (try dsimp only at H)
   obtain ⟨⟨t871, t872, t875, t876⟩, A22, H⟩ := zh H
   (try dsimp only at H)
   simp only [Option.some.injEq, Prod.mk.injEq] at H
   obtain ⟨rfl, rfl, rfl, rfl⟩ := H
   have hnb23 := NB863_864.out
   have hnc23 := NB864_863.out
   obtain ⟨_, _, _, _, _, _⟩ := zc BK863
   go_wp2_with (first | ((with_reducible refine zG 80 rfl ?_); refine zL (some 20) rfl rfl Tryd.func80 #[.agg #[.bool a0_0, .slice A0_1 l0_1.length c0_1, .int .i64 a0_2], .int .i64 a1] rfl ?_; (with_reducible refine (ulpref04_Twice.calls kj2 a0_0 _ _ l0_1 a0_2 a1 t866 t867 t870 _ ?side1 ?side2 A21.out).mono ?_); (case side1 => exact zk (C_below HR0_1.out HB.out)); (case side2 => exact HC0_1.out); rintro e w25 ⟨v868, rfl, ho0, hb⟩; refine ⟨_, rfl, ?_⟩; have HO869 := zA (R_lower (R_newM (M := fun k_ => (w.heap.size ≤ k_)) ho0 (below_size zs) (fun k_ h_ => h_)) (below_size zs)); replace BK863 := zb BK863 hb; replace BK864 := zb BK864 hb; replace HB := zf hb; (try clear ho0); obtain ⟨Ao26, co26, eo26⟩ := R_slice HO869.out; subst eo26) | ((with_reducible refine zG 67 rfl ?_); refine zL (some 21) rfl rfl Tryd.func67 #[.agg #[.bool t866, .slice Ao26 t867.length co26, .int .i64 t870]] rfl ?_; (with_reducible refine (ulpref04_room.calls kj2 t866 (fun k_ => some k_ = (.slice Ao26 t867.length co26 : Value).ownBlock) _ _ t867 t870 t871 t872 t875 t876 _ ?side1 A22.out).mono ?_); (case side1 => exact R_V (R_tight rfl (R_types (R_types (HO869.out) BK863.out (by decide)) BK864.out (by decide)))); rintro e w27 ⟨v873, rfl, ho0, hb⟩; refine ⟨_, rfl, ?_⟩; have HO874 := zA (V_lower (V_mono (ok' := fun k_ => (w.heap.size ≤ k_) ∧ k_ ≠ gb863 ∧ k_ ≠ gb864) ho0 (fun k_ hk_ => ⟨Or.elim hk_ (fun hs_ => ((R_types (R_types (HO869.out) BK863.out (by decide)) BK864.out (by decide)).1 k_ hs_.symm).1.1.1) (fun hn_ => (Nat.le_trans (below_size zs) hn_)), Or.elim hk_ (fun hs_ => ((R_types (R_types (HO869.out) BK863.out (by decide)) BK864.out (by decide)).1 k_ hs_.symm).1.2) (fun hn_ => (zj BK863 k_ hn_)), Or.elim hk_ (fun hs_ => ((R_types (R_types (HO869.out) BK863.out (by decide)) BK864.out (by decide)).1 k_ hs_.symm).2) (fun hn_ => (zj BK864 k_ hn_))⟩)) (below_size zs)); replace HO869 := zA (R_below (ru HO869.out) hb); replace BK863 := zb BK863 hb; replace BK864 := zb BK864 hb; replace HB := zf hb; (try clear ho0); obtain ⟨hcz28_0, hcz28_1, hcz28_2, hfz28_0, hfz28_1, hfz28_2⟩ := zc BK864; obtain ⟨Ao29, co29, eo29⟩ := V_slice HO874.out; subst eo29))
   refine bodyPost_ret (results_ct rfl _ _ gb864 25 #[.bool t871, .slice Ao29 t872.length co29, .int .i64 t875] (0, 0) _ rfl (zy BK864) Tryd.underlying25 rfl (by kernel_rfl)) rfl ?_
   exact ⟨_, er, vu (V_mono (zv gb864 (V_mono HO874.out (fun k_ hk => (⟨hk, hk.2.2⟩ : _ ∧ k_ ≠ gb864))) (fun _ hk => hk.2) _ _ _) (fun _ hk => hk.1.1)), zs⟩
end Go.Proofs.YtemfckibdojbbaaDoor.PAll
