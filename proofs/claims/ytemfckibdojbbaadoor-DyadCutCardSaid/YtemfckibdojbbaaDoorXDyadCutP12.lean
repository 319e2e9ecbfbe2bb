/- Printed functions, merged by a program of this session. -/
import Derived.Test.YtemfckibdojbbaaDoorXDyadCutP0
import Derived.Test.YtemfckibdojbbaaDoorXDyadCutP3
import Derived.Test.YtemfckibdojbbaaDoorXDyadCutP6
import Derived.Test.YtemfckibdojbbaaDoorXDyadCutP2
import Derived.Test.YtemfckibdojbbaaDoorXDyadCutP1
import Derived.Laws.StructEq
import Derived.Test.YtemfckibdojbbaaDoorXDyadCutSh
namespace Go.Proofs.YtemfckibdojbbaaDoor.PAll
open Go.RowKit Go.Proofs.YtemfckibdojbbaaDoorW.PrintWords Go.Proofs.YtemfckibdojbbaaDoorW.PrintLast Go.Proofs.YtemfckibdojbbaaDoorW.PrintMore Go.Proofs.YtemfckibdojbbaaDoorW.PrintWords.Kd
attribute [local go_sem] max2_int min2_int max_two min_two max_three min_three max_four min_four   -- for this text's walks alone
set_option linter.unusedVariables false
set_option linter.unusedSimpArgs false
attribute [local go_sem] ext135 ext136
def dyad_Size_1.f (k : Nat) (a0_0 : Bool) (l0_1 : List Int) (a0_2 : Int) : Option (Int) := (limbs_Len.f k l0_1).bind fun t955 => (some t955)
set_option maxHeartbeats 8000000 in
set_option maxRecDepth 100000 in
theorem dyad_Size_1.calls (k : Nat) (a0_0 : Bool) (A0_1 : Option Addr) (c0_1 : Nat) (l0_1 : List Int) (a0_2 : Int) (r : Int) (w : World) (hr0_1 : Kd.C (Kd.int .u64) w A0_1 l0_1.length l0_1) (hc0_1 : l0_1.length ≤ c0_1) (h : dyad_Size_1.f k a0_0 l0_1 a0_2 = some r) :
  Calls Tryd.prog 83 #[.agg #[.bool a0_0, .slice A0_1 l0_1.length c0_1, .int .i64 a0_2]] w fun e w' => e = .returned (.int .i64 r) ∧ Below w.heap.size w w' := by
 have hu25 := Tryd.underlying25
 have HR0_1 := zA hr0_1
 have HC0_1 := zA hc0_1
 clear hr0_1 hc0_1
 have HB := zA (Below.refl w.heap.size w)
 have H : ((limbs_Len.f k l0_1).bind fun t955 => (some t955)) = some r := h
 clear h
 obtain ⟨t955, A2, H⟩ := zh H
 obtain rfl := Option.some.inj H
 go_enter Tryd.func83, Tryd.ntmps83
 go_wp2_with (first | ((with_reducible refine zD 1 rfl ?_); refine zn (N := 1) (cs := #[.bool a0_0, .slice A0_1 l0_1.length c0_1, .int .i64 a0_2]) (t := 25) rfl rfl ?_; intro gb954 hg w3 hbox hb; have BK954 := zA (hbox); have GW954 := zw hg; replace HB := ze hb; clear hb hbox hg; obtain ⟨_, _, _, _, _, _⟩ := zc BK954) | ((with_reducible refine zG 84 rfl ?_); refine zL (some 5) rfl rfl Tryd.func84 #[.slice A0_1 l0_1.length c0_1] rfl ?_; (with_reducible refine (limbs_Len.calls k _ _ l0_1 t955 _ ?side1 ?side2 A2.out).mono ?_); (case side1 => exact zk (C_below HR0_1.out HB.out)); (case side2 => exact HC0_1.out); rintro e w5 ⟨rfl, hb⟩; refine ⟨_, rfl, ?_⟩; replace BK954 := zb BK954 hb; replace HB := zf hb))
 go_ret
 exact ⟨er, zs⟩
def dyad_Size.f (k : Nat) (a0_0 : Bool) (l0_1 : List Int) (a0_2 : Int) : Option (Int × Int) := (dyad_number_right.f k a0_0 l0_1 a0_2).bind fun t957 => (if t957 = true then ((raw_Zero.f k a0_0 l0_1 a0_2).bind fun t958 => (if t958 = true then (some (0, 5)) else ((raw_One.f k a0_0 l0_1 a0_2).bind fun bt959 => ((dyad_Size_1.f k bt959.1 bt959.2.1 bt959.2.2).bind fun t964 => (some (t964, 0)))))) else (some (0, 2)))
theorem hand_told_Size_key (k : Nat) (s : Bool) (l : List Int) (e : Int) (r1 r2 : Int) (h : dyad_Size.f k s l e = some (r1, r2)) :
  (dyad_number_right.f k s l e = some false ∧ r1 = 0 ∧ r2 = 2) ∨ (dyad_number_right.f k s l e = some true ∧ raw_Zero.f k s l e = some true ∧ r1 = 0 ∧ r2 = 5) ∨
  (dyad_number_right.f k s l e = some true ∧ raw_Zero.f k s l e = some false ∧ r2 = 0 ∧ ∃ s1 l1 e1, raw_One.f k s l e = some (s1, l1, e1) ∧ dyad_Size_1.f k s1 l1 e1 = some r1) := by
 unfold dyad_Size.f at h
 cases hA : dyad_number_right.f k s l e with
 | none => rw [hA] at h; cases h
 | some ra =>
 rw [hA] at h
 replace h : (if ra = true then _ else _) = _ := h
 cases ra with
 | false => rw [if_neg (by decide)] at h; injection h with h; injection h with h h'; exact .inl ⟨rfl, h.symm, h'.symm⟩
 | true =>
 rw [if_pos rfl] at h
 cases hB : raw_Zero.f k s l e with
 | none => rw [hB] at h; cases h
 | some rb =>
 rw [hB] at h
 replace h : (if rb = true then _ else _) = _ := h
 cases rb with
 | true => rw [if_pos rfl] at h; injection h with h; injection h with h h'; exact .inr (.inl ⟨rfl, rfl, h.symm, h'.symm⟩)
 | false =>
 rw [if_neg (by decide)] at h
 cases hC : raw_One.f k s l e with
 | none => rw [hC] at h; cases h
 | some t =>
 obtain ⟨s1, l1, e1⟩ := t
 rw [hC] at h
 replace h : (dyad_Size_1.f k s1 l1 e1).bind _ = _ := h
 cases hD : dyad_Size_1.f k s1 l1 e1 with
 | none => rw [hD] at h; cases h
 | some q =>
 rw [hD] at h
 injection h with h
 injection h with h h'
 exact .inr (.inr ⟨rfl, rfl, h'.symm, s1, l1, e1, rfl, hD.trans (congrArg some h)⟩)
set_option maxHeartbeats 8000000 in
set_option maxRecDepth 100000 in
theorem hand_told_Size (k : Nat) (s : Bool) (A : Option Addr) (c : Nat) (l : List Int) (e : Int) (r1 r2 : Int) (w : World) (hr : Kd.C (Kd.int .u64) w A l.length l) (hc : l.length ≤ c) (hT : Laid w) (h : dyad_Size.f k s l e = some (r1, r2)) :
  Calls Tryd.prog 82 #[.agg #[.bool s, .slice A l.length c, .int .i64 e], .func (.func 83) #[] #[]] w fun x w' => x = .returned (.tuple #[.int .i64 r1, .int .i64 r2]) ∧ Below w.heap.size w w' := by
 have hu25 := Tryd.underlying25
 have HB := zA (Below.refl w.heap.size w)
 have HT := zA hT
 have HV := zA (hand_V_of_C 43 (w := w) (base := w.heap.size) hr hc)
 have HK := zA (hand_told_Size_key k s l e r1 r2 h)
 clear hT h hr hc
 go_enter Tryd.func82, Tryd.ntmps82
 rcases HK.out with ⟨h1, rfl, rfl⟩ | ⟨h1, h2, rfl, rfl⟩ | ⟨h1, h2, rfl, s1, l1, e1, h3, h4⟩
 ·clear HK
  replace h1 := zA h1
  go_wp2_with (first | ((with_reducible refine zD 2 rfl ?_); refine zn (N := 2) (cs := #[.bool s, .slice A l.length c, .int .i64 e]) (t := 25) rfl rfl ?_; intro g hg w1 hbox hb; have m_HV := zA (V_below HV.out hb); have m_HB := zA (below_step HB.out hb); clear HV HB hb hg; have HV := m_HV; have HB := m_HB; clear m_HV m_HB; have B0 := zA hbox; clear hbox; obtain ⟨_, _, _, _, _, _⟩ := zc B0) | ((with_reducible refine zG 72 rfl ?_); refine goesL_ (some 8) rfl rfl Tryd.func72 (by kernel_rfl) rfl #[.agg #[.bool s, .slice A l.length c, .int .i64 e]] rfl (by (try simp only [List.map_toArray, List.map_cons, List.map_nil]); first | done | rfl) ?_; refine (dyad_number_right.calls k s _ _ l e _ _ (V_reads' HV.out).2.2 (V_reads' HV.out).2.1 h1.out).mono ?_; rintro e_ w3 ⟨rfl, hb⟩; refine ⟨_, rfl, ?_⟩; have m_HV := zA (V_below HV.out hb); have m_B0 := zA (blk_below B0.out hb); have m_HB := zA (below_step HB.out hb); clear HV B0 HB hb; have HV := m_HV; have B0 := m_B0; have HB := m_HB; clear m_HV m_B0 m_HB; obtain ⟨_, _, _, _, _, _⟩ := zc B0))
  go_ret2
  exact ⟨rfl, HB.out⟩
 ·clear HK
  replace h1 := zA h1
  replace h2 := zA h2
  go_wp2_with (first | ((with_reducible refine zD 2 rfl ?_); refine zn (N := 2) (cs := #[.bool s, .slice A l.length c, .int .i64 e]) (t := 25) rfl rfl ?_; intro g hg w1 hbox hb; have m_HV := zA (V_below HV.out hb); have m_HB := zA (below_step HB.out hb); clear HV HB hb hg; have HV := m_HV; have HB := m_HB; clear m_HV m_HB; have B0 := zA hbox; clear hbox; obtain ⟨_, _, _, _, _, _⟩ := zc B0) | ((with_reducible refine zG 72 rfl ?_); refine goesL_ (some 8) rfl rfl Tryd.func72 (by kernel_rfl) rfl #[.agg #[.bool s, .slice A l.length c, .int .i64 e]] rfl (by (try simp only [List.map_toArray, List.map_cons, List.map_nil]); first | done | rfl) ?_; refine (dyad_number_right.calls k s _ _ l e _ _ (V_reads' HV.out).2.2 (V_reads' HV.out).2.1 h1.out).mono ?_; rintro e_ w3 ⟨rfl, hb⟩; refine ⟨_, rfl, ?_⟩; have m_HV := zA (V_below HV.out hb); have m_B0 := zA (blk_below B0.out hb); have m_HB := zA (below_step HB.out hb); clear HV B0 HB hb; have HV := m_HV; have B0 := m_B0; have HB := m_HB; clear m_HV m_B0 m_HB; obtain ⟨_, _, _, _, _, _⟩ := zc B0) | ((with_reducible refine zG 73 rfl ?_); refine goesL_ (some 12) rfl rfl Tryd.func73 (by kernel_rfl) rfl #[.agg #[.bool s, .slice A l.length c, .int .i64 e]] rfl (by (try simp only [List.map_toArray, List.map_cons, List.map_nil]); first | done | rfl) ?_; refine (raw_Zero.calls k s _ _ l e _ _ (V_reads' HV.out).2.2 (V_reads' HV.out).2.1 h2.out).mono ?_; rintro e_ w3 ⟨rfl, hb⟩; refine ⟨_, rfl, ?_⟩; have m_HV := zA (V_below HV.out hb); have m_B0 := zA (blk_below B0.out hb); have m_HB := zA (below_step HB.out hb); clear HV B0 HB hb; have HV := m_HV; have B0 := m_B0; have HB := m_HB; clear m_HV m_B0 m_HB; obtain ⟨_, _, _, _, _, _⟩ := zc B0))
  go_ret2
  exact ⟨rfl, HB.out⟩
 clear HK
 replace h1 := zA h1
 replace h2 := zA h2
 replace h3 := zA h3
 replace h4 := zA h4
 go_wp2_with (first | ((with_reducible refine zD 2 rfl ?_); refine zn (N := 2) (cs := #[.bool s, .slice A l.length c, .int .i64 e]) (t := 25) rfl rfl ?_; intro g hg w1 hbox hb; have m_HV := zA (V_below HV.out hb); have m_HB := zA (below_step HB.out hb); clear HV HB hb hg; have HV := m_HV; have HB := m_HB; clear m_HV m_HB; have B0 := zA hbox; clear hbox; obtain ⟨_, _, _, _, _, _⟩ := zc B0) | ((with_reducible refine zG 72 rfl ?_); refine goesL_ (some 8) rfl rfl Tryd.func72 (by kernel_rfl) rfl #[.agg #[.bool s, .slice A l.length c, .int .i64 e]] rfl (by (try simp only [List.map_toArray, List.map_cons, List.map_nil]); first | done | rfl) ?_; refine (dyad_number_right.calls k s _ _ l e _ _ (V_reads' HV.out).2.2 (V_reads' HV.out).2.1 h1.out).mono ?_; rintro e_ w3 ⟨rfl, hb⟩; refine ⟨_, rfl, ?_⟩; have m_HV := zA (V_below HV.out hb); have m_B0 := zA (blk_below B0.out hb); have m_HB := zA (below_step HB.out hb); clear HV B0 HB hb; have HV := m_HV; have B0 := m_B0; have HB := m_HB; clear m_HV m_B0 m_HB; obtain ⟨_, _, _, _, _, _⟩ := zc B0) | ((with_reducible refine zG 73 rfl ?_); refine goesL_ (some 12) rfl rfl Tryd.func73 (by kernel_rfl) rfl #[.agg #[.bool s, .slice A l.length c, .int .i64 e]] rfl (by (try simp only [List.map_toArray, List.map_cons, List.map_nil]); first | done | rfl) ?_; refine (raw_Zero.calls k s _ _ l e _ _ (V_reads' HV.out).2.2 (V_reads' HV.out).2.1 h2.out).mono ?_; rintro e_ w3 ⟨rfl, hb⟩; refine ⟨_, rfl, ?_⟩; have m_HV := zA (V_below HV.out hb); have m_B0 := zA (blk_below B0.out hb); have m_HB := zA (below_step HB.out hb); clear HV B0 HB hb; have HV := m_HV; have B0 := m_B0; have HB := m_HB; clear m_HV m_B0 m_HB; obtain ⟨_, _, _, _, _, _⟩ := zc B0) | ((with_reducible refine zG 95 rfl ?_); refine goesL_ (some 15) rfl rfl Tryd.func95 (by kernel_rfl) rfl #[.agg #[.bool s, .slice A l.length c, .int .i64 e]] rfl (by (try simp only [List.map_toArray, List.map_cons, List.map_nil]); first | done | rfl) ?_; refine (raw_One.calls k s (fun k_ => True) _ _ l e s1 l1 e1 _ HV.out (laid_below HT.out HB.out) h3.out).mono ?_; rintro e_ w3 ⟨v3, rfl, hv, hb⟩; obtain ⟨A3, c3, rfl⟩ := V_slice hv; refine ⟨_, rfl, ?_⟩; have m_HV := zA (V_below HV.out hb); have m_B0 := zA (blk_below B0.out hb); have m_HB := zA (below_step HB.out hb); clear HV B0 HB hb; have HV := m_HV; have B0 := m_B0; have HB := m_HB; clear m_HV m_B0 m_HB; obtain ⟨_, _, _, _, _, _⟩ := zc B0; have HV3 := zA hv; clear hv) | ((with_reducible refine zD 16 rfl ?_); refine goesV_ (some 16) rfl rfl #[] #[] rfl rfl Tryd.func83 (by kernel_rfl) rfl #[.agg #[.bool s1, .slice A3 l1.length c3, .int .i64 e1]] (by (try simp only [List.map_toArray, List.map_cons, List.map_nil]); first | done | rfl) ?_; refine (dyad_Size_1.calls k s1 _ _ l1 e1 _ _ (V_reads' HV3.out).2.2 (V_reads' HV3.out).2.1 h4.out).mono ?_; rintro e_ w4 ⟨rfl, hb⟩; refine ⟨_, rfl, ?_⟩; have m_HB := zA (below_step HB.out hb); clear HB hb; have HB := m_HB; clear m_HB))
 go_ret2
 exact ⟨rfl, HB.out⟩
set_option maxHeartbeats 8000000 in
set_option maxRecDepth 100000 in
theorem dyad_Size.calls (k : Nat) (a0_0 : Bool) (A0_1 : Option Addr) (c0_1 : Nat) (l0_1 : List Int) (a0_2 : Int) (r1 : Int) (r2 : Int) (w : World) (hr0_1 : Kd.C (Kd.int .u64) w A0_1 l0_1.length l0_1) (hc0_1 : l0_1.length ≤ c0_1) (hT : Laid w) (h : dyad_Size.f k a0_0 l0_1 a0_2 = some (r1, r2)) :
  Calls Tryd.prog 35 #[.agg #[.bool a0_0, .slice A0_1 l0_1.length c0_1, .int .i64 a0_2]] w fun e w' => e = .returned (.tuple #[.int .i64 r1, .int .i64 r2]) ∧ Below w.heap.size w w' := by
 have hu25 := Tryd.underlying25
 have HB := zA (Below.refl w.heap.size w)
 have HT := zA hT
 have HR := zA hr0_1
 have HC := zA hc0_1
 have HH := zA h
 clear hT h hr0_1 hc0_1
 go_enter Tryd.func35, Tryd.ntmps35
 go_wp2_with (first | ((with_reducible refine zD 1 rfl ?_); refine zn (N := 1) (cs := #[.bool a0_0, .slice A0_1 l0_1.length c0_1, .int .i64 a0_2]) (t := 25) rfl rfl ?_; intro gB0 hg w1 hbox hb; have GB0 := zA (hg ▸ below_size HB.out : w.heap.size ≤ gB0); have m_HB := zA (below_step HB.out hb); clear HB hb ; have HB := m_HB; clear m_HB; have B0 := zA hbox; clear hbox hg; have m_HR := zA (C_below HR.out HB.out); clear HR; have HR := m_HR; clear m_HR; obtain ⟨_, _, _, _, _, _⟩ := zc B0) | ((with_reducible refine zG 82 rfl ?_); refine goesL_ (some 5) rfl rfl Tryd.func82 (by kernel_rfl) rfl #[.agg #[.bool a0_0, .slice A0_1 l0_1.length c0_1, .int .i64 a0_2], .func (.func 83) #[] #[]] rfl (by (try simp only [List.map_toArray, List.map_cons, List.map_nil]); first | done | rfl) ?_; refine (hand_told_Size k a0_0 _ _ l0_1 a0_2 r1 r2 _ HR.out HC.out (laid_below HT.out HB.out) HH.out).mono ?_; rintro e w7 ⟨rfl, hb⟩; refine ⟨_, rfl, ?_⟩; have m_HB := zA (below_step HB.out hb); clear HB hb; have HB := m_HB; clear m_HB))
 go_ret2
 exact ⟨rfl, HB.out⟩
def dyad_Top.f (k : Nat) (a0_0 : Bool) (l0_1 : List Int) (a0_2 : Int) : Option (Int × Int) := (dyad_number_right.f k a0_0 l0_1 a0_2).bind fun t975 => (if t975 = true then ((raw_Zero.f k a0_0 l0_1 a0_2).bind fun t976 => (if t976 = true then (some (0, 5)) else ((raw_One.f k a0_0 l0_1 a0_2).bind fun bt977 => ((raw_Top.f k bt977.1 bt977.2.1 bt977.2.2).bind fun t982 => (some (t982, 0)))))) else (some (0, 2)))
theorem hand_told_Top_key (k : Nat) (s : Bool) (l : List Int) (e : Int) (r1 r2 : Int) (h : dyad_Top.f k s l e = some (r1, r2)) :
  (dyad_number_right.f k s l e = some false ∧ r1 = 0 ∧ r2 = 2) ∨ (dyad_number_right.f k s l e = some true ∧ raw_Zero.f k s l e = some true ∧ r1 = 0 ∧ r2 = 5) ∨
  (dyad_number_right.f k s l e = some true ∧ raw_Zero.f k s l e = some false ∧ r2 = 0 ∧ ∃ s1 l1 e1, raw_One.f k s l e = some (s1, l1, e1) ∧ raw_Top.f k s1 l1 e1 = some r1) := by
 unfold dyad_Top.f at h
 cases hA : dyad_number_right.f k s l e with
 | none => rw [hA] at h; cases h
 | some ra =>
 rw [hA] at h
 replace h : (if ra = true then _ else _) = _ := h
 cases ra with
 | false => rw [if_neg (by decide)] at h; injection h with h; injection h with h h'; exact .inl ⟨rfl, h.symm, h'.symm⟩
 | true =>
 rw [if_pos rfl] at h
 cases hB : raw_Zero.f k s l e with
 | none => rw [hB] at h; cases h
 | some rb =>
 rw [hB] at h
 replace h : (if rb = true then _ else _) = _ := h
 cases rb with
 | true => rw [if_pos rfl] at h; injection h with h; injection h with h h'; exact .inr (.inl ⟨rfl, rfl, h.symm, h'.symm⟩)
 | false =>
 rw [if_neg (by decide)] at h
 cases hC : raw_One.f k s l e with
 | none => rw [hC] at h; cases h
 | some t =>
 obtain ⟨s1, l1, e1⟩ := t
 rw [hC] at h
 replace h : (raw_Top.f k s1 l1 e1).bind _ = _ := h
 cases hD : raw_Top.f k s1 l1 e1 with
 | none => rw [hD] at h; cases h
 | some q =>
 rw [hD] at h
 injection h with h
 injection h with h h'
 exact .inr (.inr ⟨rfl, rfl, h'.symm, s1, l1, e1, rfl, hD.trans (congrArg some h)⟩)
set_option maxHeartbeats 8000000 in
set_option maxRecDepth 100000 in
theorem hand_told_Top (k : Nat) (s : Bool) (A : Option Addr) (c : Nat) (l : List Int) (e : Int) (r1 r2 : Int) (w : World) (hr : Kd.C (Kd.int .u64) w A l.length l) (hc : l.length ≤ c) (hT : Laid w) (h : dyad_Top.f k s l e = some (r1, r2)) :
  Calls Tryd.prog 82 #[.agg #[.bool s, .slice A l.length c, .int .i64 e], .func (.func 87) #[] #[]] w fun x w' => x = .returned (.tuple #[.int .i64 r1, .int .i64 r2]) ∧ Below w.heap.size w w' := by
 have hu25 := Tryd.underlying25
 have HB := zA (Below.refl w.heap.size w)
 have HT := zA hT
 have HV := zA (hand_V_of_C 43 (w := w) (base := w.heap.size) hr hc)
 have HK := zA (hand_told_Top_key k s l e r1 r2 h)
 clear hT h hr hc
 go_enter Tryd.func82, Tryd.ntmps82
 rcases HK.out with ⟨h1, rfl, rfl⟩ | ⟨h1, h2, rfl, rfl⟩ | ⟨h1, h2, rfl, s1, l1, e1, h3, h4⟩
 ·clear HK
  replace h1 := zA h1
  go_wp2_with (first | ((with_reducible refine zD 2 rfl ?_); refine zn (N := 2) (cs := #[.bool s, .slice A l.length c, .int .i64 e]) (t := 25) rfl rfl ?_; intro g hg w1 hbox hb; have m_HV := zA (V_below HV.out hb); have m_HB := zA (below_step HB.out hb); clear HV HB hb hg; have HV := m_HV; have HB := m_HB; clear m_HV m_HB; have B0 := zA hbox; clear hbox; obtain ⟨_, _, _, _, _, _⟩ := zc B0) | ((with_reducible refine zG 72 rfl ?_); refine goesL_ (some 8) rfl rfl Tryd.func72 (by kernel_rfl) rfl #[.agg #[.bool s, .slice A l.length c, .int .i64 e]] rfl (by (try simp only [List.map_toArray, List.map_cons, List.map_nil]); first | done | rfl) ?_; refine (dyad_number_right.calls k s _ _ l e _ _ (V_reads' HV.out).2.2 (V_reads' HV.out).2.1 h1.out).mono ?_; rintro e_ w3 ⟨rfl, hb⟩; refine ⟨_, rfl, ?_⟩; have m_HV := zA (V_below HV.out hb); have m_B0 := zA (blk_below B0.out hb); have m_HB := zA (below_step HB.out hb); clear HV B0 HB hb; have HV := m_HV; have B0 := m_B0; have HB := m_HB; clear m_HV m_B0 m_HB; obtain ⟨_, _, _, _, _, _⟩ := zc B0))
  go_ret2
  exact ⟨rfl, HB.out⟩
 ·clear HK
  replace h1 := zA h1
  replace h2 := zA h2
  go_wp2_with (first | ((with_reducible refine zD 2 rfl ?_); refine zn (N := 2) (cs := #[.bool s, .slice A l.length c, .int .i64 e]) (t := 25) rfl rfl ?_; intro g hg w1 hbox hb; have m_HV := zA (V_below HV.out hb); have m_HB := zA (below_step HB.out hb); clear HV HB hb hg; have HV := m_HV; have HB := m_HB; clear m_HV m_HB; have B0 := zA hbox; clear hbox; obtain ⟨_, _, _, _, _, _⟩ := zc B0) | ((with_reducible refine zG 72 rfl ?_); refine goesL_ (some 8) rfl rfl Tryd.func72 (by kernel_rfl) rfl #[.agg #[.bool s, .slice A l.length c, .int .i64 e]] rfl (by (try simp only [List.map_toArray, List.map_cons, List.map_nil]); first | done | rfl) ?_; refine (dyad_number_right.calls k s _ _ l e _ _ (V_reads' HV.out).2.2 (V_reads' HV.out).2.1 h1.out).mono ?_; rintro e_ w3 ⟨rfl, hb⟩; refine ⟨_, rfl, ?_⟩; have m_HV := zA (V_below HV.out hb); have m_B0 := zA (blk_below B0.out hb); have m_HB := zA (below_step HB.out hb); clear HV B0 HB hb; have HV := m_HV; have B0 := m_B0; have HB := m_HB; clear m_HV m_B0 m_HB; obtain ⟨_, _, _, _, _, _⟩ := zc B0) | ((with_reducible refine zG 73 rfl ?_); refine goesL_ (some 12) rfl rfl Tryd.func73 (by kernel_rfl) rfl #[.agg #[.bool s, .slice A l.length c, .int .i64 e]] rfl (by (try simp only [List.map_toArray, List.map_cons, List.map_nil]); first | done | rfl) ?_; refine (raw_Zero.calls k s _ _ l e _ _ (V_reads' HV.out).2.2 (V_reads' HV.out).2.1 h2.out).mono ?_; rintro e_ w3 ⟨rfl, hb⟩; refine ⟨_, rfl, ?_⟩; have m_HV := zA (V_below HV.out hb); have m_B0 := zA (blk_below B0.out hb); have m_HB := zA (below_step HB.out hb); clear HV B0 HB hb; have HV := m_HV; have B0 := m_B0; have HB := m_HB; clear m_HV m_B0 m_HB; obtain ⟨_, _, _, _, _, _⟩ := zc B0))
  go_ret2
  exact ⟨rfl, HB.out⟩
 clear HK
 replace h1 := zA h1
 replace h2 := zA h2
 replace h3 := zA h3
 replace h4 := zA h4
 go_wp2_with (first | ((with_reducible refine zD 2 rfl ?_); refine zn (N := 2) (cs := #[.bool s, .slice A l.length c, .int .i64 e]) (t := 25) rfl rfl ?_; intro g hg w1 hbox hb; have m_HV := zA (V_below HV.out hb); have m_HB := zA (below_step HB.out hb); clear HV HB hb hg; have HV := m_HV; have HB := m_HB; clear m_HV m_HB; have B0 := zA hbox; clear hbox; obtain ⟨_, _, _, _, _, _⟩ := zc B0) | ((with_reducible refine zG 72 rfl ?_); refine goesL_ (some 8) rfl rfl Tryd.func72 (by kernel_rfl) rfl #[.agg #[.bool s, .slice A l.length c, .int .i64 e]] rfl (by (try simp only [List.map_toArray, List.map_cons, List.map_nil]); first | done | rfl) ?_; refine (dyad_number_right.calls k s _ _ l e _ _ (V_reads' HV.out).2.2 (V_reads' HV.out).2.1 h1.out).mono ?_; rintro e_ w3 ⟨rfl, hb⟩; refine ⟨_, rfl, ?_⟩; have m_HV := zA (V_below HV.out hb); have m_B0 := zA (blk_below B0.out hb); have m_HB := zA (below_step HB.out hb); clear HV B0 HB hb; have HV := m_HV; have B0 := m_B0; have HB := m_HB; clear m_HV m_B0 m_HB; obtain ⟨_, _, _, _, _, _⟩ := zc B0) | ((with_reducible refine zG 73 rfl ?_); refine goesL_ (some 12) rfl rfl Tryd.func73 (by kernel_rfl) rfl #[.agg #[.bool s, .slice A l.length c, .int .i64 e]] rfl (by (try simp only [List.map_toArray, List.map_cons, List.map_nil]); first | done | rfl) ?_; refine (raw_Zero.calls k s _ _ l e _ _ (V_reads' HV.out).2.2 (V_reads' HV.out).2.1 h2.out).mono ?_; rintro e_ w3 ⟨rfl, hb⟩; refine ⟨_, rfl, ?_⟩; have m_HV := zA (V_below HV.out hb); have m_B0 := zA (blk_below B0.out hb); have m_HB := zA (below_step HB.out hb); clear HV B0 HB hb; have HV := m_HV; have B0 := m_B0; have HB := m_HB; clear m_HV m_B0 m_HB; obtain ⟨_, _, _, _, _, _⟩ := zc B0) | ((with_reducible refine zG 95 rfl ?_); refine goesL_ (some 15) rfl rfl Tryd.func95 (by kernel_rfl) rfl #[.agg #[.bool s, .slice A l.length c, .int .i64 e]] rfl (by (try simp only [List.map_toArray, List.map_cons, List.map_nil]); first | done | rfl) ?_; refine (raw_One.calls k s (fun k_ => True) _ _ l e s1 l1 e1 _ HV.out (laid_below HT.out HB.out) h3.out).mono ?_; rintro e_ w3 ⟨v3, rfl, hv, hb⟩; obtain ⟨A3, c3, rfl⟩ := V_slice hv; refine ⟨_, rfl, ?_⟩; have m_HV := zA (V_below HV.out hb); have m_B0 := zA (blk_below B0.out hb); have m_HB := zA (below_step HB.out hb); clear HV B0 HB hb; have HV := m_HV; have B0 := m_B0; have HB := m_HB; clear m_HV m_B0 m_HB; obtain ⟨_, _, _, _, _, _⟩ := zc B0; have HV3 := zA hv; clear hv) | ((with_reducible refine zD 16 rfl ?_); refine goesV_ (some 16) rfl rfl #[] #[] rfl rfl Tryd.func87 (by kernel_rfl) rfl #[.agg #[.bool s1, .slice A3 l1.length c3, .int .i64 e1]] (by (try simp only [List.map_toArray, List.map_cons, List.map_nil]); first | done | rfl) ?_; refine (raw_Top.calls k s1 _ _ l1 e1 _ _ (V_reads' HV3.out).2.2 (V_reads' HV3.out).2.1 h4.out).mono ?_; rintro e_ w4 ⟨rfl, hb⟩; refine ⟨_, rfl, ?_⟩; have m_HB := zA (below_step HB.out hb); clear HB hb; have HB := m_HB; clear m_HB))
 go_ret2
 exact ⟨rfl, HB.out⟩
set_option maxHeartbeats 8000000 in
set_option maxRecDepth 100000 in
theorem dyad_Top.calls (k : Nat) (a0_0 : Bool) (A0_1 : Option Addr) (c0_1 : Nat) (l0_1 : List Int) (a0_2 : Int) (r1 : Int) (r2 : Int) (w : World) (hr0_1 : Kd.C (Kd.int .u64) w A0_1 l0_1.length l0_1) (hc0_1 : l0_1.length ≤ c0_1) (hT : Laid w) (h : dyad_Top.f k a0_0 l0_1 a0_2 = some (r1, r2)) :
  Calls Tryd.prog 37 #[.agg #[.bool a0_0, .slice A0_1 l0_1.length c0_1, .int .i64 a0_2]] w fun e w' => e = .returned (.tuple #[.int .i64 r1, .int .i64 r2]) ∧ Below w.heap.size w w' := by
 have hu25 := Tryd.underlying25
 have HB := zA (Below.refl w.heap.size w)
 have HT := zA hT
 have HR := zA hr0_1
 have HC := zA hc0_1
 have HH := zA h
 clear hT h hr0_1 hc0_1
 go_enter Tryd.func37, Tryd.ntmps37
 go_wp2_with (first | ((with_reducible refine zD 1 rfl ?_); refine zn (N := 1) (cs := #[.bool a0_0, .slice A0_1 l0_1.length c0_1, .int .i64 a0_2]) (t := 25) rfl rfl ?_; intro gB0 hg w1 hbox hb; have GB0 := zA (hg ▸ below_size HB.out : w.heap.size ≤ gB0); have m_HB := zA (below_step HB.out hb); clear HB hb ; have HB := m_HB; clear m_HB; have B0 := zA hbox; clear hbox hg; have m_HR := zA (C_below HR.out HB.out); clear HR; have HR := m_HR; clear m_HR; obtain ⟨_, _, _, _, _, _⟩ := zc B0) | ((with_reducible refine zG 82 rfl ?_); refine goesL_ (some 5) rfl rfl Tryd.func82 (by kernel_rfl) rfl #[.agg #[.bool a0_0, .slice A0_1 l0_1.length c0_1, .int .i64 a0_2], .func (.func 87) #[] #[]] rfl (by (try simp only [List.map_toArray, List.map_cons, List.map_nil]); first | done | rfl) ?_; refine (hand_told_Top k a0_0 _ _ l0_1 a0_2 r1 r2 _ HR.out HC.out (laid_below HT.out HB.out) HH.out).mono ?_; rintro e w7 ⟨rfl, hb⟩; refine ⟨_, rfl, ?_⟩; have m_HB := zA (below_step HB.out hb); clear HB hb; have HB := m_HB; clear m_HB))
 go_ret2
 exact ⟨rfl, HB.out⟩
def ulplaw04_few.f (k : Nat) (a0_0 : Bool) (l0_1 : List Int) (a0_2 : Int) (a1 : Int) : Option (Bool) := (dyad_Size.f k a0_0 l0_1 a0_2).bind fun bt1002 => (if bt1002.2 = 5 then (if (l0_1.length : Int) = 0 then (some true) else (if bt1002.2 = 0 then (some (decide (bt1002.1 ≤ a1))) else (some false))) else (if bt1002.2 = 0 then (some (decide (bt1002.1 ≤ a1))) else (some false)))
set_option maxHeartbeats 8000000 in
set_option maxRecDepth 100000 in
theorem ulplaw04_few.calls (k : Nat) (a0_0 : Bool) (A0_1 : Option Addr) (c0_1 : Nat) (l0_1 : List Int) (a0_2 : Int) (a1 : Int) (r : Bool) (w : World) (hr0_1 : Kd.C (Kd.int .u64) w A0_1 l0_1.length l0_1) (hc0_1 : l0_1.length ≤ c0_1) (hT : Laid w) (h : ulplaw04_few.f k a0_0 l0_1 a0_2 a1 = some r) :
  Calls Tryd.prog 39 #[.agg #[.bool a0_0, .slice A0_1 l0_1.length c0_1, .int .i64 a0_2], .int .i64 a1] w fun e w' => e = .returned (.bool r) ∧ Below w.heap.size w w' := by
 have hu25 := Tryd.underlying25
 have HR0_1 := zA hr0_1
 have HC0_1 := zA hc0_1
 clear hr0_1 hc0_1
 have HB := zA (Below.refl w.heap.size w)
 have H : ((dyad_Size.f k a0_0 l0_1 a0_2).bind fun bt1002 => (if bt1002.2 = 5 then (if (l0_1.length : Int) = 0 then (some true) else (if bt1002.2 = 0 then (some (decide (bt1002.1 ≤ a1))) else (some false))) else (if bt1002.2 = 0 then (some (decide (bt1002.1 ≤ a1))) else (some false)))) = some r := h
 clear h
 obtain ⟨⟨t1002, t1003⟩, A3, H⟩ := zh H
 (try dsimp only at H)
 by_cases c4 : t1003 = 5
 ·rw [if_pos c4] at H
  have c4b0 := beq_iff_eq.mpr c4
  have c4b1 := bne_eq_false_iff_eq.mpr c4
  clear c4
  by_cases c5 : (l0_1.length : Int) = 0
  ·rw [if_pos c5] at H
   have c5b0 := beq_iff_eq.mpr c5
   have c5b1 := bne_eq_false_iff_eq.mpr c5
   clear c5
   obtain rfl := Option.some.inj H
   go_enter Tryd.func39, Tryd.ntmps39
   go_wp2_with (first | ((with_reducible refine zD 2 rfl ?_); (try (refine gate_guard (by rfl) ?_; dsimp only)); refine zn (N := 2) (cs := #[.bool a0_0, .slice A0_1 l0_1.length c0_1, .int .i64 a0_2]) (t := 25) rfl rfl ?_; intro gb1001 hg w6 hbox hb; have BK1001 := zA (hbox); have GW1001 := zw hg; replace HB := ze hb; clear hb hbox hg; obtain ⟨_, _, _, _, _, _⟩ := zc BK1001) | ((with_reducible refine zG 35 rfl ?_); refine zL (some 9) rfl rfl Tryd.func35 #[.agg #[.bool a0_0, .slice A0_1 l0_1.length c0_1, .int .i64 a0_2]] rfl ?_; (with_reducible refine (dyad_Size.calls k a0_0 _ _ l0_1 a0_2 t1002 t1003 _ ?side1 ?side2 (laid_below hT zs) A3.out).mono ?_); (case side1 => exact zk (C_below HR0_1.out HB.out)); (case side2 => exact HC0_1.out); rintro e w8 ⟨rfl, hb⟩; refine ⟨_, rfl, ?_⟩; replace BK1001 := zb BK1001 hb; replace HB := zf hb; obtain ⟨hcz9_0, hcz9_1, hcz9_2, hfz9_0, hfz9_1, hfz9_2⟩ := zc BK1001))
   go_ret
   exact ⟨er, zs⟩
  rw [if_neg c5] at H
  have c5b0 := beq_eq_false_iff_ne.mpr c5
  have c5b1 := bne_iff_ne.mpr c5
  have c5b2 : ¬ (l0_1 = []) := fun h_ => c5 (by rw [h_]; rfl)
  by_cases c10 : t1003 = 0
  ·rw [if_pos c10] at H
   have c10b0 := beq_iff_eq.mpr c10
   have c10b1 := bne_eq_false_iff_eq.mpr c10
   clear c10
   obtain rfl := Option.some.inj H
   go_enter Tryd.func39, Tryd.ntmps39
   go_wp2_with (first | ((with_reducible refine zD 2 rfl ?_); (try (refine gate_guard (by rfl) ?_; dsimp only)); refine zn (N := 2) (cs := #[.bool a0_0, .slice A0_1 l0_1.length c0_1, .int .i64 a0_2]) (t := 25) rfl rfl ?_; intro gb1001 hg w11 hbox hb; have BK1001 := zA (hbox); have GW1001 := zw hg; replace HB := ze hb; clear hb hbox hg; obtain ⟨_, _, _, _, _, _⟩ := zc BK1001) | ((with_reducible refine zG 35 rfl ?_); refine zL (some 9) rfl rfl Tryd.func35 #[.agg #[.bool a0_0, .slice A0_1 l0_1.length c0_1, .int .i64 a0_2]] rfl ?_; (with_reducible refine (dyad_Size.calls k a0_0 _ _ l0_1 a0_2 t1002 t1003 _ ?side1 ?side2 (laid_below hT zs) A3.out).mono ?_); (case side1 => exact zk (C_below HR0_1.out HB.out)); (case side2 => exact HC0_1.out); rintro e w13 ⟨rfl, hb⟩; refine ⟨_, rfl, ?_⟩; replace BK1001 := zb BK1001 hb; replace HB := zf hb; obtain ⟨hcz14_0, hcz14_1, hcz14_2, hfz14_0, hfz14_1, hfz14_2⟩ := zc BK1001))
   go_ret
   exact ⟨er, zs⟩
  rw [if_neg c10] at H
  have c10b0 := beq_eq_false_iff_ne.mpr c10
  have c10b1 := bne_iff_ne.mpr c10
  obtain rfl := Option.some.inj H
  go_enter Tryd.func39, Tryd.ntmps39
  go_wp2_with (first | ((with_reducible refine zD 2 rfl ?_); (try (refine gate_guard (by rfl) ?_; dsimp only)); refine zn (N := 2) (cs := #[.bool a0_0, .slice A0_1 l0_1.length c0_1, .int .i64 a0_2]) (t := 25) rfl rfl ?_; intro gb1001 hg w15 hbox hb; have BK1001 := zA (hbox); have GW1001 := zw hg; replace HB := ze hb; clear hb hbox hg; obtain ⟨_, _, _, _, _, _⟩ := zc BK1001) | ((with_reducible refine zG 35 rfl ?_); refine zL (some 9) rfl rfl Tryd.func35 #[.agg #[.bool a0_0, .slice A0_1 l0_1.length c0_1, .int .i64 a0_2]] rfl ?_; (with_reducible refine (dyad_Size.calls k a0_0 _ _ l0_1 a0_2 t1002 t1003 _ ?side1 ?side2 (laid_below hT zs) A3.out).mono ?_); (case side1 => exact zk (C_below HR0_1.out HB.out)); (case side2 => exact HC0_1.out); rintro e w17 ⟨rfl, hb⟩; refine ⟨_, rfl, ?_⟩; replace BK1001 := zb BK1001 hb; replace HB := zf hb; obtain ⟨hcz18_0, hcz18_1, hcz18_2, hfz18_0, hfz18_1, hfz18_2⟩ := zc BK1001))
  go_ret
  exact ⟨er, zs⟩
 rw [if_neg c4] at H
 have c4b0 := beq_eq_false_iff_ne.mpr c4
 have c4b1 := bne_iff_ne.mpr c4
 by_cases c19 : t1003 = 0
 ·rw [if_pos c19] at H
  have c19b0 := beq_iff_eq.mpr c19
  have c19b1 := bne_eq_false_iff_eq.mpr c19
  clear c19
  obtain rfl := Option.some.inj H
  go_enter Tryd.func39, Tryd.ntmps39
  go_wp2_with (first | ((with_reducible refine zD 2 rfl ?_); (try (refine gate_guard (by rfl) ?_; dsimp only)); refine zn (N := 2) (cs := #[.bool a0_0, .slice A0_1 l0_1.length c0_1, .int .i64 a0_2]) (t := 25) rfl rfl ?_; intro gb1001 hg w20 hbox hb; have BK1001 := zA (hbox); have GW1001 := zw hg; replace HB := ze hb; clear hb hbox hg; obtain ⟨_, _, _, _, _, _⟩ := zc BK1001) | ((with_reducible refine zG 35 rfl ?_); refine zL (some 9) rfl rfl Tryd.func35 #[.agg #[.bool a0_0, .slice A0_1 l0_1.length c0_1, .int .i64 a0_2]] rfl ?_; (with_reducible refine (dyad_Size.calls k a0_0 _ _ l0_1 a0_2 t1002 t1003 _ ?side1 ?side2 (laid_below hT zs) A3.out).mono ?_); (case side1 => exact zk (C_below HR0_1.out HB.out)); (case side2 => exact HC0_1.out); rintro e w22 ⟨rfl, hb⟩; refine ⟨_, rfl, ?_⟩; replace BK1001 := zb BK1001 hb; replace HB := zf hb))
  go_ret
  exact ⟨er, zs⟩
 rw [if_neg c19] at H
 have c19b0 := beq_eq_false_iff_ne.mpr c19
 have c19b1 := bne_iff_ne.mpr c19
 obtain rfl := Option.some.inj H
 go_enter Tryd.func39, Tryd.ntmps39
 go_wp2_with (first | ((with_reducible refine zD 2 rfl ?_); (try (refine gate_guard (by rfl) ?_; dsimp only)); refine zn (N := 2) (cs := #[.bool a0_0, .slice A0_1 l0_1.length c0_1, .int .i64 a0_2]) (t := 25) rfl rfl ?_; intro gb1001 hg w23 hbox hb; have BK1001 := zA (hbox); have GW1001 := zw hg; replace HB := ze hb; clear hb hbox hg; obtain ⟨_, _, _, _, _, _⟩ := zc BK1001) | ((with_reducible refine zG 35 rfl ?_); refine zL (some 9) rfl rfl Tryd.func35 #[.agg #[.bool a0_0, .slice A0_1 l0_1.length c0_1, .int .i64 a0_2]] rfl ?_; (with_reducible refine (dyad_Size.calls k a0_0 _ _ l0_1 a0_2 t1002 t1003 _ ?side1 ?side2 (laid_below hT zs) A3.out).mono ?_); (case side1 => exact zk (C_below HR0_1.out HB.out)); (case side2 => exact HC0_1.out); rintro e w25 ⟨rfl, hb⟩; refine ⟨_, rfl, ?_⟩; replace BK1001 := zb BK1001 hb; replace HB := zf hb))
 go_ret
 exact ⟨er, zs⟩
def raw_Neg.f (k : Nat) (a0_0 : Bool) (l0_1 : List Int) (a0_2 : Int) : Option (Bool × List Int × Int) := (raw_Form.f k (!a0_0) l0_1 a0_2).bind fun bt774 => (some (bt774.1, bt774.2.1, bt774.2.2))
set_option maxHeartbeats 8000000 in
set_option maxRecDepth 100000 in
theorem raw_Neg.calls (k : Nat) (a0_0 : Bool) (P0_1_ : Nat → Prop) (A0_1 : Option Addr) (c0_1 : Nat) (l0_1 : List Int) (a0_2 : Int) (r1 : Bool) (r2 : List Int) (r3 : Int) (w : World) (hs0_1 : Kd.V (Kd.int .u64) 43 w w.heap.size (fun k_ => P0_1_ k_) (.slice A0_1 l0_1.length c0_1) l0_1) (hT : Laid w) (h : raw_Neg.f k a0_0 l0_1 a0_2 = some (r1, r2, r3)) :
  Calls Tryd.prog 123 #[.agg #[.bool a0_0, .slice A0_1 l0_1.length c0_1, .int .i64 a0_2]] w fun e w' => ∃ v1_ : Value, e = .returned (.agg #[.bool r1, v1_, .int .i64 r3]) ∧ Kd.V (Kd.int .u64) 43 w' w.heap.size (fun k_ => (P0_1_ k_ ∨ w.heap.size ≤ k_)) v1_ r2 ∧ Below w.heap.size w w' := by
 have hu25 := Tryd.underlying25
 have HO0_1 := zA (show Kd.V (Kd.int .u64) 43 w w.heap.size (fun k_ => (P0_1_ k_ ∨ w.heap.size ≤ k_)) (.slice A0_1 l0_1.length c0_1) l0_1 from V_mono hs0_1 (fun k_ hk => .inl hk))
 have HB := zA (Below.refl w.heap.size w)
 have H : ((raw_Form.f k (!a0_0) l0_1 a0_2).bind fun bt774 => (some (bt774.1, bt774.2.1, bt774.2.2))) = some (r1, r2, r3) := h
 clear h
 obtain ⟨⟨t774, t775, t778⟩, A2, H⟩ := zh H
 (try dsimp only at H)
 simp only [Option.some.injEq, Prod.mk.injEq] at H
 obtain ⟨rfl, rfl, rfl⟩ := H
 go_enter Tryd.func123, Tryd.ntmps123
 go_wp2_with (first | ((with_reducible refine zD 1 rfl ?_); refine zn (N := 1) (cs := #[.bool a0_0, .slice A0_1 l0_1.length c0_1, .int .i64 a0_2]) (t := 25) rfl rfl ?_; intro gb772 hg w3 hbox hb; replace HO0_1 := zA (V_below (V_elderB (vu HO0_1.out) gb772 (Nat.le_of_eq hg.symm)) hb); have BK772 := zA (hbox); have GW772 := zw hg; replace HB := ze hb; clear hb hbox hg) | ((with_reducible refine zD 2 rfl ?_); refine zn (N := 2) (cs := #[.bool false, .slice none 0 0, .int .i64 0]) (t := 25) rfl rfl ?_; intro gb773 hg w4 hbox hb; replace HO0_1 := zA (V_below (V_elderB (vu HO0_1.out) gb773 (Nat.le_of_eq hg.symm)) hb); have BK773 := zA (hbox); have GW773 := zx hg; replace HB := zf hb; have NB772_773 := zl BK772 hg; have NB773_772 := zg BK772 hg; replace BK772 := zb BK772 hb; clear hb hbox hg; have hnb5 := NB772_773.out; have hnc5 := NB773_772.out; obtain ⟨_, _, _, _, _, _⟩ := zc BK772) | ((with_reducible refine zG 91 rfl ?_); refine zL (some 10) rfl rfl Tryd.func91 #[.bool (!a0_0), .slice A0_1 l0_1.length c0_1, .int .i64 a0_2] rfl ?_; (with_reducible refine (raw_Form.calls k (!a0_0) (fun k_ => (((P0_1_ k_ ∨ w.heap.size ≤ k_) ∧ k_ ≠ gb772) ∧ k_ ≠ gb773)) _ _ l0_1 a0_2 t774 t775 t778 _ ?side1 (laid_below hT zs) A2.out).mono ?_); (case side1 => exact HO0_1.out); rintro e w7 ⟨v776, rfl, ho0, hb⟩; refine ⟨_, rfl, ?_⟩; replace HO0_1 := zA (V_below (vu HO0_1.out) hb); have HO777 := zA (V_lower (V_mono (ok' := fun k_ => (P0_1_ k_ ∨ w.heap.size ≤ k_) ∧ k_ ≠ gb772 ∧ k_ ≠ gb773) ho0 (fun k_ hk_ => ⟨Or.elim hk_ (fun hs_ => hs_.1.1) (fun hn_ => (.inr (Nat.le_trans (below_size zs) hn_))), Or.elim hk_ (fun hs_ => hs_.1.2) (fun hn_ => (zj BK772 k_ hn_)), Or.elim hk_ (fun hs_ => hs_.2) (fun hn_ => (zj BK773 k_ hn_))⟩)) (below_size zs)); replace BK772 := zb BK772 hb; replace BK773 := zb BK773 hb; replace HB := zf hb; (try clear ho0); obtain ⟨hcz8_0, hcz8_1, hcz8_2, hfz8_0, hfz8_1, hfz8_2⟩ := zc BK773; obtain ⟨Ao9, co9, eo9⟩ := V_slice HO777.out; subst eo9))
 refine bodyPost_ret (results_cell_row rfl _ _ gb773 25 #[.bool t774, .slice Ao9 t775.length co9, .int .i64 t778] (0, 0) _ rfl (zy BK773) Tryd.underlying25 rfl (by kernel_rfl)) rfl ?_
 exact ⟨_, er, vu (V_mono (zv gb773 (V_mono HO777.out (fun k_ hk => (⟨hk, hk.2.2⟩ : _ ∧ k_ ≠ gb773))) (fun _ hk => hk.2) _ _ _) (fun _ hk => hk.1.1)), zs⟩
end Go.Proofs.YtemfckibdojbbaaDoor.PAll
