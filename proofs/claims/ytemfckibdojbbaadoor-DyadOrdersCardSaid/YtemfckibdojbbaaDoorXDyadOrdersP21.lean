/- Printed functions, merged by a program of this session. -/
import Derived.Test.YtemfckibdojbbaaDoorXDyadOrdersP0
import Derived.Test.YtemfckibdojbbaaDoorXDyadOrdersP14
import Derived.Test.YtemfckibdojbbaaDoorXDyadOrdersP20
import Derived.Test.YtemfckibdojbbaaDoorXDyadOrdersP4
import Derived.Test.YtemfckibdojbbaaDoorXDyadOrdersP6
import Derived.Test.YtemfckibdojbbaaDoorXDyadOrdersP2
import Derived.Test.YtemfckibdojbbaaDoorXDyadOrdersP15
import Derived.Laws.StructEq
import Derived.Test.YtemfckibdojbbaaDoorXDyadOrdersSh
namespace Go.Proofs.YtemfckibdojbbaaDoor.PAll
open Go.RowKit Go.Proofs.YtemfckibdojbbaaDoorW.PrintWords Go.Proofs.YtemfckibdojbbaaDoorW.PrintLast Go.Proofs.YtemfckibdojbbaaDoorW.PrintMore Go.Proofs.YtemfckibdojbbaaDoorW.PrintWords.Kd
attribute [local go_sem] max2_int min2_int max_two min_two max_three min_three max_four min_four   -- for this text's walks alone
set_option linter.unusedVariables false
set_option linter.unusedSimpArgs false
attribute [local go_sem] ext135 ext136
def ulpref04_Cmp.f (k : Nat) (a0_0 : Bool) (l0_1 : List Int) (a0_2 : Int) (a1_0 : Bool) (l1_1 : List Int) (a1_2 : Int) : Option (Int × Int) := (ulpref04_both.f k a0_0 l0_1 a0_2 a1_0 l1_1 a1_2).bind fun t952 => (if t952 = true then ((ulpref04_Order.f k a0_0 l0_1 a0_2 a1_0 l1_1 a1_2).bind fun t953 => (some (t953, 0))) else (some (0, 2)))
set_option maxHeartbeats 8000000 in
set_option maxRecDepth 100000 in
theorem ulpref04_Cmp.calls (k : Nat) (a0_0 : Bool) (A0_1 : Option Addr) (c0_1 : Nat) (l0_1 : List Int) (a0_2 : Int) (a1_0 : Bool) (A1_1 : Option Addr) (c1_1 : Nat) (l1_1 : List Int) (a1_2 : Int) (r1 : Int) (r2 : Int) (w : World) (hr0_1 : Kd.C (Kd.int .u64) w A0_1 l0_1.length l0_1) (hc0_1 : l0_1.length ≤ c0_1) (hr1_1 : Kd.C (Kd.int .u64) w A1_1 l1_1.length l1_1) (hc1_1 : l1_1.length ≤ c1_1) (h : ulpref04_Cmp.f k a0_0 l0_1 a0_2 a1_0 l1_1 a1_2 = some (r1, r2)) :
  Calls Tryd.prog 34 #[.agg #[.bool a0_0, .slice A0_1 l0_1.length c0_1, .int .i64 a0_2], .agg #[.bool a1_0, .slice A1_1 l1_1.length c1_1, .int .i64 a1_2]] w fun e w' => e = .returned (.tuple #[.int .i64 r1, .int .i64 r2]) ∧ Below w.heap.size w w' := by
 have hu25 := Tryd.underlying25
 have HR0_1 := zA hr0_1
 have HC0_1 := zA hc0_1
 clear hr0_1 hc0_1
 have HR1_1 := zA hr1_1
 have HC1_1 := zA hc1_1
 clear hr1_1 hc1_1
 have HB := zA (Below.refl w.heap.size w)
 have H : ((ulpref04_both.f k a0_0 l0_1 a0_2 a1_0 l1_1 a1_2).bind fun t952 => (if t952 = true then ((ulpref04_Order.f k a0_0 l0_1 a0_2 a1_0 l1_1 a1_2).bind fun t953 => (some (t953, 0))) else (some (0, 2)))) = some (r1, r2) := h
 clear h
 obtain ⟨t952, A3, H⟩ := zh H
 by_cases c4 : t952 = true
 ·subst c4
  rw [if_pos rfl] at H
  obtain ⟨t953, A5, H⟩ := zh H
  simp only [Option.some.injEq, Prod.mk.injEq] at H
  obtain ⟨rfl, rfl⟩ := H
  go_enter Tryd.func34, Tryd.ntmps34
  go_wp2_with (first | ((with_reducible refine zD 2 rfl ?_); refine zn (N := 2) (cs := #[.bool a0_0, .slice A0_1 l0_1.length c0_1, .int .i64 a0_2]) (t := 25) rfl rfl ?_; intro gb950 hg w6 hbox hb; have BK950 := zA (hbox); have GW950 := zw hg; replace HB := ze hb; clear hb hbox hg) | ((with_reducible refine zD 3 rfl ?_); refine zn (N := 3) (cs := #[.bool a1_0, .slice A1_1 l1_1.length c1_1, .int .i64 a1_2]) (t := 25) rfl rfl ?_; intro gb951 hg w7 hbox hb; have BK951 := zA (hbox); have GW951 := zx hg; replace HB := zf hb; have NB950_951 := zl BK950 hg; have NB951_950 := zg BK950 hg; replace BK950 := zb BK950 hb; clear hb hbox hg; have hnb8 := NB950_951.out; have hnc8 := NB951_950.out; obtain ⟨hcz9_0, hcz9_1, hcz9_2, hfz9_0, hfz9_1, hfz9_2⟩ := zc BK950; obtain ⟨_, _, _, _, _, _⟩ := zc BK951) | ((with_reducible refine zG 66 rfl ?_); refine zL (some 9) rfl rfl Tryd.func66 #[.agg #[.bool a0_0, .slice A0_1 l0_1.length c0_1, .int .i64 a0_2], .agg #[.bool a1_0, .slice A1_1 l1_1.length c1_1, .int .i64 a1_2]] rfl ?_; (with_reducible refine (ulpref04_both.calls k a0_0 _ _ l0_1 a0_2 a1_0 _ _ l1_1 a1_2 true _ ?side1 ?side2 ?side3 ?side4 A3.out).mono ?_); (case side1 => exact zk (C_below HR0_1.out HB.out)); (case side2 => exact HC0_1.out); (case side3 => exact zk (C_below HR1_1.out HB.out)); (case side4 => exact HC1_1.out); rintro e w11 ⟨rfl, hb⟩; refine ⟨_, rfl, ?_⟩; replace BK950 := zb BK950 hb; replace BK951 := zb BK951 hb; replace HB := zf hb; obtain ⟨hcz12_0, hcz12_1, hcz12_2, hfz12_0, hfz12_1, hfz12_2⟩ := zc BK950; obtain ⟨hcz13_0, hcz13_1, hcz13_2, hfz13_0, hfz13_1, hfz13_2⟩ := zc BK951) | ((with_reducible refine zG 50 rfl ?_); refine zL (some 14) rfl rfl Tryd.func50 #[.agg #[.bool a0_0, .slice A0_1 l0_1.length c0_1, .int .i64 a0_2], .agg #[.bool a1_0, .slice A1_1 l1_1.length c1_1, .int .i64 a1_2]] rfl ?_; (with_reducible refine (ulpref04_Order.calls k a0_0 _ _ l0_1 a0_2 a1_0 _ _ l1_1 a1_2 t953 _ ?side1 ?side2 ?side3 ?side4 A5.out).mono ?_); (case side1 => exact zk (C_below HR0_1.out HB.out)); (case side2 => exact HC0_1.out); (case side3 => exact zk (C_below HR1_1.out HB.out)); (case side4 => exact HC1_1.out); rintro e w14 ⟨rfl, hb⟩; refine ⟨_, rfl, ?_⟩; replace BK950 := zb BK950 hb; replace BK951 := zb BK951 hb; replace HB := zf hb))
  go_ret2
  exact ⟨er, zs⟩
 replace c4 := Bool.eq_false_iff.mpr c4
 subst c4
 rw [if_neg (show ¬ (false = true) by decide)] at H
 simp only [Option.some.injEq, Prod.mk.injEq] at H
 obtain ⟨rfl, rfl⟩ := H
 go_enter Tryd.func34, Tryd.ntmps34
 go_wp2_with (first | ((with_reducible refine zD 2 rfl ?_); refine zn (N := 2) (cs := #[.bool a0_0, .slice A0_1 l0_1.length c0_1, .int .i64 a0_2]) (t := 25) rfl rfl ?_; intro gb950 hg w15 hbox hb; have BK950 := zA (hbox); have GW950 := zw hg; replace HB := ze hb; clear hb hbox hg) | ((with_reducible refine zD 3 rfl ?_); refine zn (N := 3) (cs := #[.bool a1_0, .slice A1_1 l1_1.length c1_1, .int .i64 a1_2]) (t := 25) rfl rfl ?_; intro gb951 hg w16 hbox hb; have BK951 := zA (hbox); have GW951 := zx hg; replace HB := zf hb; have NB950_951 := zl BK950 hg; have NB951_950 := zg BK950 hg; replace BK950 := zb BK950 hb; clear hb hbox hg; have hnb17 := NB950_951.out; have hnc17 := NB951_950.out; obtain ⟨_, _, _, _, _, _⟩ := zc BK950; obtain ⟨_, _, _, _, _, _⟩ := zc BK951) | ((with_reducible refine zG 66 rfl ?_); refine zL (some 9) rfl rfl Tryd.func66 #[.agg #[.bool a0_0, .slice A0_1 l0_1.length c0_1, .int .i64 a0_2], .agg #[.bool a1_0, .slice A1_1 l1_1.length c1_1, .int .i64 a1_2]] rfl ?_; (with_reducible refine (ulpref04_both.calls k a0_0 _ _ l0_1 a0_2 a1_0 _ _ l1_1 a1_2 false _ ?side1 ?side2 ?side3 ?side4 A3.out).mono ?_); (case side1 => exact zk (C_below HR0_1.out HB.out)); (case side2 => exact HC0_1.out); (case side3 => exact zk (C_below HR1_1.out HB.out)); (case side4 => exact HC1_1.out); rintro e w20 ⟨rfl, hb⟩; refine ⟨_, rfl, ?_⟩; replace BK950 := zb BK950 hb; replace BK951 := zb BK951 hb; replace HB := zf hb))
 go_ret2
 exact ⟨er, zs⟩
def dyad_Size_1.f (k : Nat) (a0_0 : Bool) (l0_1 : List Int) (a0_2 : Int) : Option (Int) := (limbs_Len.f k l0_1).bind fun t955 => (some t955)
set_option maxHeartbeats 8000000 in
set_option maxRecDepth 100000 in
theorem dyad_Size_1.calls (k : Nat) (a0_0 : Bool) (A0_1 : Option Addr) (c0_1 : Nat) (l0_1 : List Int) (a0_2 : Int) (r : Int) (w : World) (hr0_1 : Kd.C (Kd.int .u64) w A0_1 l0_1.length l0_1) (hc0_1 : l0_1.length ≤ c0_1) (h : dyad_Size_1.f k a0_0 l0_1 a0_2 = some r) :
  Calls Tryd.prog 83 #[.agg #[.bool a0_0, .slice A0_1 l0_1.length c0_1, .int .i64 a0_2]] w fun e w' => e = .returned (.int .i64 r) ∧ Below w.heap.size w w' := by
 have hu25 := Tryd.underlying25
 have HR0_1 := zA hr0_1
 have HC0_1 := zA hc0_1
 clear hr0_1 hc0_1
 have HB := zA (Below.refl w.heap.size w)
 have H : ((limbs_Len.f k l0_1).bind fun t955 => (some t955)) = some r := h
 clear h
 obtain ⟨t955, A2, H⟩ := zh H
 obtain rfl := Option.some.inj H
 go_enter Tryd.func83, Tryd.ntmps83
 go_wp2_with (first | ((with_reducible refine zD 1 rfl ?_); refine zn (N := 1) (cs := #[.bool a0_0, .slice A0_1 l0_1.length c0_1, .int .i64 a0_2]) (t := 25) rfl rfl ?_; intro gb954 hg w3 hbox hb; have BK954 := zA (hbox); have GW954 := zw hg; replace HB := ze hb; clear hb hbox hg; obtain ⟨_, _, _, _, _, _⟩ := zc BK954) | ((with_reducible refine zG 84 rfl ?_); refine zL (some 5) rfl rfl Tryd.func84 #[.slice A0_1 l0_1.length c0_1] rfl ?_; (with_reducible refine (limbs_Len.calls k _ _ l0_1 t955 _ ?side1 ?side2 A2.out).mono ?_); (case side1 => exact zk (C_below HR0_1.out HB.out)); (case side2 => exact HC0_1.out); rintro e w5 ⟨rfl, hb⟩; refine ⟨_, rfl, ?_⟩; replace BK954 := zb BK954 hb; replace HB := zf hb))
 go_ret
 exact ⟨er, zs⟩
def dyad_Size.f (k : Nat) (a0_0 : Bool) (l0_1 : List Int) (a0_2 : Int) : Option (Int × Int) := (dyad_number_right.f k a0_0 l0_1 a0_2).bind fun t957 => (if t957 = true then ((raw_Zero.f k a0_0 l0_1 a0_2).bind fun t958 => (if t958 = true then (some (0, 5)) else ((raw_One.f k a0_0 l0_1 a0_2).bind fun bt959 => ((dyad_Size_1.f k bt959.1 bt959.2.1 bt959.2.2).bind fun t964 => (some (t964, 0)))))) else (some (0, 2)))
theorem hand_told_Size_key (k : Nat) (s : Bool) (l : List Int) (e : Int) (r1 r2 : Int) (h : dyad_Size.f k s l e = some (r1, r2)) :
  (dyad_number_right.f k s l e = some false ∧ r1 = 0 ∧ r2 = 2) ∨ (dyad_number_right.f k s l e = some true ∧ raw_Zero.f k s l e = some true ∧ r1 = 0 ∧ r2 = 5) ∨
  (dyad_number_right.f k s l e = some true ∧ raw_Zero.f k s l e = some false ∧ r2 = 0 ∧ ∃ s1 l1 e1, raw_One.f k s l e = some (s1, l1, e1) ∧ dyad_Size_1.f k s1 l1 e1 = some r1) := by
 unfold dyad_Size.f at h
 cases hA : dyad_number_right.f k s l e with
 | none => rw [hA] at h; cases h
 | some ra =>
 rw [hA] at h
 replace h : (if ra = true then _ else _) = _ := h
 cases ra with
 | false => rw [if_neg (by decide)] at h; injection h with h; injection h with h h'; exact .inl ⟨rfl, h.symm, h'.symm⟩
 | true =>
 rw [if_pos rfl] at h
 cases hB : raw_Zero.f k s l e with
 | none => rw [hB] at h; cases h
 | some rb =>
 rw [hB] at h
 replace h : (if rb = true then _ else _) = _ := h
 cases rb with
 | true => rw [if_pos rfl] at h; injection h with h; injection h with h h'; exact .inr (.inl ⟨rfl, rfl, h.symm, h'.symm⟩)
 | false =>
 rw [if_neg (by decide)] at h
 cases hC : raw_One.f k s l e with
 | none => rw [hC] at h; cases h
 | some t =>
 obtain ⟨s1, l1, e1⟩ := t
 rw [hC] at h
 replace h : (dyad_Size_1.f k s1 l1 e1).bind _ = _ := h
 cases hD : dyad_Size_1.f k s1 l1 e1 with
 | none => rw [hD] at h; cases h
 | some q =>
 rw [hD] at h
 injection h with h
 injection h with h h'
 exact .inr (.inr ⟨rfl, rfl, h'.symm, s1, l1, e1, rfl, hD.trans (congrArg some h)⟩)
set_option maxHeartbeats 8000000 in
set_option maxRecDepth 100000 in
theorem hand_told_Size (k : Nat) (s : Bool) (A : Option Addr) (c : Nat) (l : List Int) (e : Int) (r1 r2 : Int) (w : World) (hr : Kd.C (Kd.int .u64) w A l.length l) (hc : l.length ≤ c) (hT : Laid w) (h : dyad_Size.f k s l e = some (r1, r2)) :
  Calls Tryd.prog 82 #[.agg #[.bool s, .slice A l.length c, .int .i64 e], .func (.func 83) #[] #[]] w fun x w' => x = .returned (.tuple #[.int .i64 r1, .int .i64 r2]) ∧ Below w.heap.size w w' := by
 have hu25 := Tryd.underlying25
 have HB := zA (Below.refl w.heap.size w)
 have HT := zA hT
 have HV := zA (hand_V_of_C 43 (w := w) (base := w.heap.size) hr hc)
 have HK := zA (hand_told_Size_key k s l e r1 r2 h)
 clear hT h hr hc
 go_enter Tryd.func82, Tryd.ntmps82
 rcases HK.out with ⟨h1, rfl, rfl⟩ | ⟨h1, h2, rfl, rfl⟩ | ⟨h1, h2, rfl, s1, l1, e1, h3, h4⟩
 ·clear HK
  replace h1 := zA h1
  go_wp2_with (first | ((with_reducible refine zD 2 rfl ?_); refine zn (N := 2) (cs := #[.bool s, .slice A l.length c, .int .i64 e]) (t := 25) rfl rfl ?_; intro g hg w1 hbox hb; have m_HV := zA (V_below HV.out hb); have m_HB := zA (below_step HB.out hb); clear HV HB hb hg; have HV := m_HV; have HB := m_HB; clear m_HV m_HB; have B0 := zA hbox; clear hbox; obtain ⟨_, _, _, _, _, _⟩ := zc B0) | ((with_reducible refine zG 72 rfl ?_); refine goesL_ (some 8) rfl rfl Tryd.func72 (by kernel_rfl) rfl #[.agg #[.bool s, .slice A l.length c, .int .i64 e]] rfl (by (try simp only [List.map_toArray, List.map_cons, List.map_nil]); first | done | rfl) ?_; refine (dyad_number_right.calls k s _ _ l e _ _ (V_reads' HV.out).2.2 (V_reads' HV.out).2.1 h1.out).mono ?_; rintro e_ w3 ⟨rfl, hb⟩; refine ⟨_, rfl, ?_⟩; have m_HV := zA (V_below HV.out hb); have m_B0 := zA (blk_below B0.out hb); have m_HB := zA (below_step HB.out hb); clear HV B0 HB hb; have HV := m_HV; have B0 := m_B0; have HB := m_HB; clear m_HV m_B0 m_HB; obtain ⟨_, _, _, _, _, _⟩ := zc B0))
  go_ret2
  exact ⟨rfl, HB.out⟩
 ·clear HK
  replace h1 := zA h1
  replace h2 := zA h2
  go_wp2_with (first | ((with_reducible refine zD 2 rfl ?_); refine zn (N := 2) (cs := #[.bool s, .slice A l.length c, .int .i64 e]) (t := 25) rfl rfl ?_; intro g hg w1 hbox hb; have m_HV := zA (V_below HV.out hb); have m_HB := zA (below_step HB.out hb); clear HV HB hb hg; have HV := m_HV; have HB := m_HB; clear m_HV m_HB; have B0 := zA hbox; clear hbox; obtain ⟨_, _, _, _, _, _⟩ := zc B0) | ((with_reducible refine zG 72 rfl ?_); refine goesL_ (some 8) rfl rfl Tryd.func72 (by kernel_rfl) rfl #[.agg #[.bool s, .slice A l.length c, .int .i64 e]] rfl (by (try simp only [List.map_toArray, List.map_cons, List.map_nil]); first | done | rfl) ?_; refine (dyad_number_right.calls k s _ _ l e _ _ (V_reads' HV.out).2.2 (V_reads' HV.out).2.1 h1.out).mono ?_; rintro e_ w3 ⟨rfl, hb⟩; refine ⟨_, rfl, ?_⟩; have m_HV := zA (V_below HV.out hb); have m_B0 := zA (blk_below B0.out hb); have m_HB := zA (below_step HB.out hb); clear HV B0 HB hb; have HV := m_HV; have B0 := m_B0; have HB := m_HB; clear m_HV m_B0 m_HB; obtain ⟨_, _, _, _, _, _⟩ := zc B0) | ((with_reducible refine zG 73 rfl ?_); refine goesL_ (some 12) rfl rfl Tryd.func73 (by kernel_rfl) rfl #[.agg #[.bool s, .slice A l.length c, .int .i64 e]] rfl (by (try simp only [List.map_toArray, List.map_cons, List.map_nil]); first | done | rfl) ?_; refine (raw_Zero.calls k s _ _ l e _ _ (V_reads' HV.out).2.2 (V_reads' HV.out).2.1 h2.out).mono ?_; rintro e_ w3 ⟨rfl, hb⟩; refine ⟨_, rfl, ?_⟩; have m_HV := zA (V_below HV.out hb); have m_B0 := zA (blk_below B0.out hb); have m_HB := zA (below_step HB.out hb); clear HV B0 HB hb; have HV := m_HV; have B0 := m_B0; have HB := m_HB; clear m_HV m_B0 m_HB; obtain ⟨_, _, _, _, _, _⟩ := zc B0))
  go_ret2
  exact ⟨rfl, HB.out⟩
 clear HK
 replace h1 := zA h1
 replace h2 := zA h2
 replace h3 := zA h3
 replace h4 := zA h4
 go_wp2_with (first | ((with_reducible refine zD 2 rfl ?_); refine zn (N := 2) (cs := #[.bool s, .slice A l.length c, .int .i64 e]) (t := 25) rfl rfl ?_; intro g hg w1 hbox hb; have m_HV := zA (V_below HV.out hb); have m_HB := zA (below_step HB.out hb); clear HV HB hb hg; have HV := m_HV; have HB := m_HB; clear m_HV m_HB; have B0 := zA hbox; clear hbox; obtain ⟨_, _, _, _, _, _⟩ := zc B0) | ((with_reducible refine zG 72 rfl ?_); refine goesL_ (some 8) rfl rfl Tryd.func72 (by kernel_rfl) rfl #[.agg #[.bool s, .slice A l.length c, .int .i64 e]] rfl (by (try simp only [List.map_toArray, List.map_cons, List.map_nil]); first | done | rfl) ?_; refine (dyad_number_right.calls k s _ _ l e _ _ (V_reads' HV.out).2.2 (V_reads' HV.out).2.1 h1.out).mono ?_; rintro e_ w3 ⟨rfl, hb⟩; refine ⟨_, rfl, ?_⟩; have m_HV := zA (V_below HV.out hb); have m_B0 := zA (blk_below B0.out hb); have m_HB := zA (below_step HB.out hb); clear HV B0 HB hb; have HV := m_HV; have B0 := m_B0; have HB := m_HB; clear m_HV m_B0 m_HB; obtain ⟨_, _, _, _, _, _⟩ := zc B0) | ((with_reducible refine zG 73 rfl ?_); refine goesL_ (some 12) rfl rfl Tryd.func73 (by kernel_rfl) rfl #[.agg #[.bool s, .slice A l.length c, .int .i64 e]] rfl (by (try simp only [List.map_toArray, List.map_cons, List.map_nil]); first | done | rfl) ?_; refine (raw_Zero.calls k s _ _ l e _ _ (V_reads' HV.out).2.2 (V_reads' HV.out).2.1 h2.out).mono ?_; rintro e_ w3 ⟨rfl, hb⟩; refine ⟨_, rfl, ?_⟩; have m_HV := zA (V_below HV.out hb); have m_B0 := zA (blk_below B0.out hb); have m_HB := zA (below_step HB.out hb); clear HV B0 HB hb; have HV := m_HV; have B0 := m_B0; have HB := m_HB; clear m_HV m_B0 m_HB; obtain ⟨_, _, _, _, _, _⟩ := zc B0) | ((with_reducible refine zG 95 rfl ?_); refine goesL_ (some 15) rfl rfl Tryd.func95 (by kernel_rfl) rfl #[.agg #[.bool s, .slice A l.length c, .int .i64 e]] rfl (by (try simp only [List.map_toArray, List.map_cons, List.map_nil]); first | done | rfl) ?_; refine (raw_One.calls k s (fun k_ => True) _ _ l e s1 l1 e1 _ HV.out (laid_below HT.out HB.out) h3.out).mono ?_; rintro e_ w3 ⟨v3, rfl, hv, hb⟩; obtain ⟨A3, c3, rfl⟩ := V_slice hv; refine ⟨_, rfl, ?_⟩; have m_HV := zA (V_below HV.out hb); have m_B0 := zA (blk_below B0.out hb); have m_HB := zA (below_step HB.out hb); clear HV B0 HB hb; have HV := m_HV; have B0 := m_B0; have HB := m_HB; clear m_HV m_B0 m_HB; obtain ⟨_, _, _, _, _, _⟩ := zc B0; have HV3 := zA hv; clear hv) | ((with_reducible refine zD 16 rfl ?_); refine goesV_ (some 16) rfl rfl #[] #[] rfl rfl Tryd.func83 (by kernel_rfl) rfl #[.agg #[.bool s1, .slice A3 l1.length c3, .int .i64 e1]] (by (try simp only [List.map_toArray, List.map_cons, List.map_nil]); first | done | rfl) ?_; refine (dyad_Size_1.calls k s1 _ _ l1 e1 _ _ (V_reads' HV3.out).2.2 (V_reads' HV3.out).2.1 h4.out).mono ?_; rintro e_ w4 ⟨rfl, hb⟩; refine ⟨_, rfl, ?_⟩; have m_HB := zA (below_step HB.out hb); clear HB hb; have HB := m_HB; clear m_HB))
 go_ret2
 exact ⟨rfl, HB.out⟩
set_option maxHeartbeats 8000000 in
set_option maxRecDepth 100000 in
theorem dyad_Size.calls (k : Nat) (a0_0 : Bool) (A0_1 : Option Addr) (c0_1 : Nat) (l0_1 : List Int) (a0_2 : Int) (r1 : Int) (r2 : Int) (w : World) (hr0_1 : Kd.C (Kd.int .u64) w A0_1 l0_1.length l0_1) (hc0_1 : l0_1.length ≤ c0_1) (hT : Laid w) (h : dyad_Size.f k a0_0 l0_1 a0_2 = some (r1, r2)) :
  Calls Tryd.prog 35 #[.agg #[.bool a0_0, .slice A0_1 l0_1.length c0_1, .int .i64 a0_2]] w fun e w' => e = .returned (.tuple #[.int .i64 r1, .int .i64 r2]) ∧ Below w.heap.size w w' := by
 have hu25 := Tryd.underlying25
 have HB := zA (Below.refl w.heap.size w)
 have HT := zA hT
 have HR := zA hr0_1
 have HC := zA hc0_1
 have HH := zA h
 clear hT h hr0_1 hc0_1
 go_enter Tryd.func35, Tryd.ntmps35
 go_wp2_with (first | ((with_reducible refine zD 1 rfl ?_); refine zn (N := 1) (cs := #[.bool a0_0, .slice A0_1 l0_1.length c0_1, .int .i64 a0_2]) (t := 25) rfl rfl ?_; intro gB0 hg w1 hbox hb; have GB0 := zA (hg ▸ below_size HB.out : w.heap.size ≤ gB0); have m_HB := zA (below_step HB.out hb); clear HB hb ; have HB := m_HB; clear m_HB; have B0 := zA hbox; clear hbox hg; have m_HR := zA (C_below HR.out HB.out); clear HR; have HR := m_HR; clear m_HR; obtain ⟨_, _, _, _, _, _⟩ := zc B0) | ((with_reducible refine zG 82 rfl ?_); refine goesL_ (some 5) rfl rfl Tryd.func82 (by kernel_rfl) rfl #[.agg #[.bool a0_0, .slice A0_1 l0_1.length c0_1, .int .i64 a0_2], .func (.func 83) #[] #[]] rfl (by (try simp only [List.map_toArray, List.map_cons, List.map_nil]); first | done | rfl) ?_; refine (hand_told_Size k a0_0 _ _ l0_1 a0_2 r1 r2 _ HR.out HC.out (laid_below HT.out HB.out) HH.out).mono ?_; rintro e w7 ⟨rfl, hb⟩; refine ⟨_, rfl, ?_⟩; have m_HB := zA (below_step HB.out hb); clear HB hb; have HB := m_HB; clear m_HB))
 go_ret2
 exact ⟨rfl, HB.out⟩
def ulpref04_fault.f (k : Nat) (a0_0 : Bool) (l0_1 : List Int) (a0_2 : Int) : Option (Int) := (ulpref04_Right.f k a0_0 l0_1 a0_2).bind fun t966 => (if t966 = true then ((ulpref04_Zero.f k a0_0 l0_1 a0_2).bind fun t967 => (if t967 = true then (some 5) else (some 0))) else (some 2))
set_option maxHeartbeats 8000000 in
set_option maxRecDepth 100000 in
theorem ulpref04_fault.calls (k : Nat) (a0_0 : Bool) (A0_1 : Option Addr) (c0_1 : Nat) (l0_1 : List Int) (a0_2 : Int) (r : Int) (w : World) (hr0_1 : Kd.C (Kd.int .u64) w A0_1 l0_1.length l0_1) (hc0_1 : l0_1.length ≤ c0_1) (h : ulpref04_fault.f k a0_0 l0_1 a0_2 = some r) :
  Calls Tryd.prog 85 #[.agg #[.bool a0_0, .slice A0_1 l0_1.length c0_1, .int .i64 a0_2]] w fun e w' => e = .returned (.int .i64 r) ∧ Below w.heap.size w w' := by
 have hu25 := Tryd.underlying25
 have HR0_1 := zA hr0_1
 have HC0_1 := zA hc0_1
 clear hr0_1 hc0_1
 have HB := zA (Below.refl w.heap.size w)
 have H : ((ulpref04_Right.f k a0_0 l0_1 a0_2).bind fun t966 => (if t966 = true then ((ulpref04_Zero.f k a0_0 l0_1 a0_2).bind fun t967 => (if t967 = true then (some 5) else (some 0))) else (some 2))) = some r := h
 clear h
 obtain ⟨t966, A2, H⟩ := zh H
 by_cases c3 : t966 = true
 ·subst c3
  rw [if_pos rfl] at H
  obtain ⟨t967, A4, H⟩ := zh H
  by_cases c5 : t967 = true
  ·subst c5
   rw [if_pos rfl] at H
   obtain rfl := Option.some.inj H
   go_enter Tryd.func85, Tryd.ntmps85
   go_wp2_with (first | ((with_reducible refine zD 1 rfl ?_); refine zn (N := 1) (cs := #[.bool a0_0, .slice A0_1 l0_1.length c0_1, .int .i64 a0_2]) (t := 25) rfl rfl ?_; intro gb965 hg w6 hbox hb; have BK965 := zA (hbox); have GW965 := zw hg; replace HB := ze hb; clear hb hbox hg; obtain ⟨_, _, _, _, _, _⟩ := zc BK965) | ((with_reducible refine zG 24 rfl ?_); refine zL (some 5) rfl rfl Tryd.func24 #[.agg #[.bool a0_0, .slice A0_1 l0_1.length c0_1, .int .i64 a0_2]] rfl ?_; (with_reducible refine (ulpref04_Right.calls k a0_0 _ _ l0_1 a0_2 true _ ?side1 ?side2 A2.out).mono ?_); (case side1 => exact zk (C_below HR0_1.out HB.out)); (case side2 => exact HC0_1.out); rintro e w8 ⟨rfl, hb⟩; refine ⟨_, rfl, ?_⟩; replace BK965 := zb BK965 hb; replace HB := zf hb; obtain ⟨hcz9_0, hcz9_1, hcz9_2, hfz9_0, hfz9_1, hfz9_2⟩ := zc BK965) | ((with_reducible refine zG 27 rfl ?_); refine zL (some 9) rfl rfl Tryd.func27 #[.agg #[.bool a0_0, .slice A0_1 l0_1.length c0_1, .int .i64 a0_2]] rfl ?_; (with_reducible refine (ulpref04_Zero.calls k a0_0 _ _ l0_1 a0_2 true _ ?side1 ?side2 A4.out).mono ?_); (case side1 => exact zk (C_below HR0_1.out HB.out)); (case side2 => exact HC0_1.out); rintro e w10 ⟨rfl, hb⟩; refine ⟨_, rfl, ?_⟩; replace BK965 := zb BK965 hb; replace HB := zf hb))
   go_ret
   exact ⟨er, zs⟩
  replace c5 := Bool.eq_false_iff.mpr c5
  subst c5
  rw [if_neg (show ¬ (false = true) by decide)] at H
  obtain rfl := Option.some.inj H
  go_enter Tryd.func85, Tryd.ntmps85
  go_wp2_with (first | ((with_reducible refine zD 1 rfl ?_); refine zn (N := 1) (cs := #[.bool a0_0, .slice A0_1 l0_1.length c0_1, .int .i64 a0_2]) (t := 25) rfl rfl ?_; intro gb965 hg w11 hbox hb; have BK965 := zA (hbox); have GW965 := zw hg; replace HB := ze hb; clear hb hbox hg; obtain ⟨hcz12_0, hcz12_1, hcz12_2, hfz12_0, hfz12_1, hfz12_2⟩ := zc BK965) | ((with_reducible refine zG 24 rfl ?_); refine zL (some 5) rfl rfl Tryd.func24 #[.agg #[.bool a0_0, .slice A0_1 l0_1.length c0_1, .int .i64 a0_2]] rfl ?_; (with_reducible refine (ulpref04_Right.calls k a0_0 _ _ l0_1 a0_2 true _ ?side1 ?side2 A2.out).mono ?_); (case side1 => exact zk (C_below HR0_1.out HB.out)); (case side2 => exact HC0_1.out); rintro e w13 ⟨rfl, hb⟩; refine ⟨_, rfl, ?_⟩; replace BK965 := zb BK965 hb; replace HB := zf hb; obtain ⟨hcz14_0, hcz14_1, hcz14_2, hfz14_0, hfz14_1, hfz14_2⟩ := zc BK965) | ((with_reducible refine zG 27 rfl ?_); refine zL (some 9) rfl rfl Tryd.func27 #[.agg #[.bool a0_0, .slice A0_1 l0_1.length c0_1, .int .i64 a0_2]] rfl ?_; (with_reducible refine (ulpref04_Zero.calls k a0_0 _ _ l0_1 a0_2 false _ ?side1 ?side2 A4.out).mono ?_); (case side1 => exact zk (C_below HR0_1.out HB.out)); (case side2 => exact HC0_1.out); rintro e w15 ⟨rfl, hb⟩; refine ⟨_, rfl, ?_⟩; replace BK965 := zb BK965 hb; replace HB := zf hb))
  go_ret
  exact ⟨er, zs⟩
 replace c3 := Bool.eq_false_iff.mpr c3
 subst c3
 rw [if_neg (show ¬ (false = true) by decide)] at H
 obtain rfl := Option.some.inj H
 go_enter Tryd.func85, Tryd.ntmps85
 go_wp2_with (first | ((with_reducible refine zD 1 rfl ?_); refine zn (N := 1) (cs := #[.bool a0_0, .slice A0_1 l0_1.length c0_1, .int .i64 a0_2]) (t := 25) rfl rfl ?_; intro gb965 hg w16 hbox hb; have BK965 := zA (hbox); have GW965 := zw hg; replace HB := ze hb; clear hb hbox hg; obtain ⟨_, _, _, _, _, _⟩ := zc BK965) | ((with_reducible refine zG 24 rfl ?_); refine zL (some 5) rfl rfl Tryd.func24 #[.agg #[.bool a0_0, .slice A0_1 l0_1.length c0_1, .int .i64 a0_2]] rfl ?_; (with_reducible refine (ulpref04_Right.calls k a0_0 _ _ l0_1 a0_2 false _ ?side1 ?side2 A2.out).mono ?_); (case side1 => exact zk (C_below HR0_1.out HB.out)); (case side2 => exact HC0_1.out); rintro e w18 ⟨rfl, hb⟩; refine ⟨_, rfl, ?_⟩; replace BK965 := zb BK965 hb; replace HB := zf hb))
 go_ret
 exact ⟨er, zs⟩
def ulpref04_Bits.f (k : Nat) (a0_0 : Bool) (l0_1 : List Int) (a0_2 : Int) : Option (Int) := (ulpref03_Len.f k l0_1).bind fun t969 => ((ulpref03_Low.f k l0_1).bind fun t970 => (some (wrap64 (t969 - t970))))
def ulpref04_Bits.T1 : Bool × List (List Nat × List Nat) := (true, [([], []), ([0], [0]), ([1], [1]), ([], []), ([3], [3]), ([4, 2], [4]), ([2, 5], [2, 5]), ([6, 5, 0, 1, 2, 3, 4, 5, 6], [6])])
def ulpref04_Bits.B1 : List Nat := [0, 1, 3, 0, 8, 31, 63, 127]
theorem ulpref04_Bits.tab1 : rtab .any (opsOf Tryd.f86 1) = ulpref04_Bits.T1 := by kernel_rfl
theorem ulpref04_Bits.bits1 : waitsOk ulpref04_Bits.T1.2 ulpref04_Bits.B1 = true := by kernel_rfl
set_option maxHeartbeats 8000000 in
set_option maxRecDepth 100000 in
theorem ulpref04_Bits.calls (k : Nat) (a0_0 : Bool) (A0_1 : Option Addr) (c0_1 : Nat) (l0_1 : List Int) (a0_2 : Int) (r : Int) (w : World) (hr0_1 : Kd.C (Kd.int .u64) w A0_1 l0_1.length l0_1) (hc0_1 : l0_1.length ≤ c0_1) (h : ulpref04_Bits.f k a0_0 l0_1 a0_2 = some r) :
  Calls Tryd.prog 86 #[.agg #[.bool a0_0, .slice A0_1 l0_1.length c0_1, .int .i64 a0_2]] w fun e w' => e = .returned (.int .i64 r) ∧ Below w.heap.size w w' := by
 have hu25 := Tryd.underlying25
 have HR0_1 := zA hr0_1
 have HC0_1 := zA hc0_1
 clear hr0_1 hc0_1
 have HB := zA (Below.refl w.heap.size w)
 have H : ((ulpref03_Len.f k l0_1).bind fun t969 => ((ulpref03_Low.f k l0_1).bind fun t970 => (some (wrap64 (t969 - t970))))) = some r := h
 clear h
 obtain ⟨t969, A2, H⟩ := zh H
 obtain ⟨t970, A3, H⟩ := zh H
 obtain rfl := Option.some.inj H
 go_enter Tryd.func86, Tryd.ntmps86
 try go_wp2_with (first | ((with_reducible refine zD 1 rfl ?_); refine zn (N := 1) (cs := #[.bool a0_0, .slice A0_1 l0_1.length c0_1, .int .i64 a0_2]) (t := 25) rfl rfl ?_; intro gb968 hg w4 hbox hb; have BK968 := zA (hbox); have GW968 := zw hg; replace HB := ze hb; clear hb hbox hg))
 replace BK968 := zA (blk_drew BK968.out)
 replace HB := zA (below_drew1 HB.out)
 refine start_ (n := 8) (S := fun w' => z3 w' gb968 (.bool a0_0) (.slice A0_1 l0_1.length c0_1) (.int .i64 a0_2)) (ds := []) #[false, false, false, false, false, false, false, false] (by kernel_rfl) rfl rfl (zz BK968) (fun hHeld => ?_); refine with_tabW ulpref04_Bits.tab1 ulpref04_Bits.bits1 (fun HT_ HW_ => ?_)
 generalize w4.drew = w5 at BK968 HB hHeld ⊢
 refine pure_ (i := 0) (N := some 3) (v := ?_) (a' := ?_) #[true, false, false, false, false, false, false, false] rfl rfl (any_of HT_.out (by kernel_rfl)) (fun _ _ _ h => h) (Or.inl ⟨by rfl, ?_⟩) ?_ ?_
 rotate_left
 ·intro w'
  go_simp
  with_reducible rfl
 rotate_left
 ·exact zq
 refine pure_ (i := 3) (N := some 6) (v := ?_) (a' := ?_) #[true, false, false, true, false, false, false, false] rfl rfl (any_of HT_.out (by kernel_rfl)) (fun _ _ _ h => h) (Or.inl ⟨by rfl, ?_⟩) ?_ ?_
 rotate_left
 ·intro w'
  go_simp
  with_reducible rfl
 rotate_left
 ·exact zq
 refine take_ (i := 1) (N := some 4) (v := ?_) (a' := ?_) #[true, true, false, true, false, false, false, false] rfl rfl (take_ofW HT_.out HW_.out (by kernel_rfl)) (fun _ _ _ h => h) (Or.inl ⟨by rfl, ?_⟩) hHeld ?_ ?_
 rotate_left
 ·rintro w' ⟨s0, s1, s2⟩
  go_simp
  with_reducible rfl
 rotate_left
 ·exact zq
 refine take_ (i := 4) (N := some 7) (v := ?_) (a' := ?_) #[true, true, false, true, true, false, false, false] rfl rfl (take_ofW HT_.out HW_.out (by kernel_rfl)) (fun _ _ _ h => h) (Or.inl ⟨by rfl, ?_⟩) hHeld ?_ ?_
 rotate_left
 ·rintro w' ⟨s0, s1, s2⟩
  go_simp
  with_reducible rfl
 rotate_left
 ·exact zq
 refine one_ (i := 2) (N := some 5) #[true, true, true, true, true, false, false, false] rfl rfl (one_of HT_.out (by kernel_rfl)) (by decide) (fun K hK => ?_)
 refine goes_ Tryd.func96 (by kernel_rfl) rfl #[.slice A0_1 l0_1.length c0_1] (by rfl) rfl rfl ga ?_
 with_reducible refine (ulpref03_Len.calls k _ _ l0_1 t969 _ ?side1 ?side2 A2.out).mono ?_
 (case side1 => exact zk (C_below HR0_1.out HB.out))
 (case side2 => exact HC0_1.out)
 rintro e w6 ⟨rfl, hb⟩
 refine ⟨_, rfl, ?_⟩
 replace BK968 := zb BK968 hb
 replace HB := zf hb
 (try clear hb)
 (try clear hb2)
 (try clear hk)
 (try clear hi)
 refine hK.out _ _ (zz BK968) (fun hHeld => ?_)
 clear hK K
 refine norm_ (a' := ?_) ?_ ?_
 rotate_left
 ·show Act.put _ (some 5) _ = _
  simp only [Act.put, List.setIfInBounds_toArray, List.set_cons_zero, List.set_cons_succ, i64_w, i32_w]
  rfl
 refine one_ (i := 5) (N := some 8) #[true, true, true, true, true, true, false, false] rfl rfl (one_of HT_.out (by kernel_rfl)) (by decide) (fun K hK => ?_)
 refine goes_ Tryd.func124 (by kernel_rfl) rfl #[.slice A0_1 l0_1.length c0_1] (by rfl) rfl rfl ga ?_
 with_reducible refine (ulpref03_Low.calls k _ _ l0_1 t970 _ ?side1 ?side2 A3.out).mono ?_
 (case side1 => exact zk (C_below HR0_1.out HB.out))
 (case side2 => exact HC0_1.out)
 rintro e w7 ⟨rfl, hb⟩
 refine ⟨_, rfl, ?_⟩
 replace BK968 := zb BK968 hb
 replace HB := zf hb
 (try clear hb)
 (try clear hb2)
 (try clear hk)
 (try clear hi)
 refine hK.out _ _ (zz BK968) (fun hHeld => ?_)
 clear hK K
 refine norm_ (a' := ?_) ?_ ?_
 rotate_left
 ·show Act.put _ (some 8) _ = _
  simp only [Act.put, List.setIfInBounds_toArray, List.set_cons_zero, List.set_cons_succ, i64_w, i32_w]
  rfl
 refine pure_ (i := 6) (N := some 9) (v := ?_) (a' := ?_) #[true, true, true, true, true, true, true, false] rfl rfl (any_of HT_.out (by kernel_rfl)) (fun _ _ _ h => h) (Or.inl ⟨by rfl, ?_⟩) ?_ ?_
 rotate_left
 ·intro w'
  go_simp
  with_reducible rfl
 rotate_left
 ·exact zq
 refine pure_ (i := 7) (N := some 2) (v := ?_) (a' := ?_) #[true, true, true, true, true, true, true, true] rfl rfl (any_of HT_.out (by kernel_rfl)) (fun _ _ _ h => h) (Or.inl ⟨by rfl, ?_⟩) ?_ ?_
 rotate_left
 ·intro w'
  go_simp
  with_reducible rfl
 rotate_left
 ·exact zq
 refine done_ (done_of HT_.out (by kernel_rfl)) ?_
 try go_wp2
 go_ret
 exact ⟨er, zs⟩
def ulpref04_Size.f (k : Nat) (a0_0 : Bool) (l0_1 : List Int) (a0_2 : Int) : Option (Int × Int) := (ulpref04_fault.f k a0_0 l0_1 a0_2).bind fun t972 => (if t972 = 0 then ((ulpref04_Bits.f k a0_0 l0_1 a0_2).bind fun t973 => (some (t973, 0))) else (some (0, t972)))
set_option maxHeartbeats 8000000 in
set_option maxRecDepth 100000 in
theorem ulpref04_Size.calls (k : Nat) (a0_0 : Bool) (A0_1 : Option Addr) (c0_1 : Nat) (l0_1 : List Int) (a0_2 : Int) (r1 : Int) (r2 : Int) (w : World) (hr0_1 : Kd.C (Kd.int .u64) w A0_1 l0_1.length l0_1) (hc0_1 : l0_1.length ≤ c0_1) (h : ulpref04_Size.f k a0_0 l0_1 a0_2 = some (r1, r2)) :
  Calls Tryd.prog 36 #[.agg #[.bool a0_0, .slice A0_1 l0_1.length c0_1, .int .i64 a0_2]] w fun e w' => e = .returned (.tuple #[.int .i64 r1, .int .i64 r2]) ∧ Below w.heap.size w w' := by
 have hu25 := Tryd.underlying25
 have HR0_1 := zA hr0_1
 have HC0_1 := zA hc0_1
 clear hr0_1 hc0_1
 have HB := zA (Below.refl w.heap.size w)
 have H : ((ulpref04_fault.f k a0_0 l0_1 a0_2).bind fun t972 => (if t972 = 0 then ((ulpref04_Bits.f k a0_0 l0_1 a0_2).bind fun t973 => (some (t973, 0))) else (some (0, t972)))) = some (r1, r2) := h
 clear h
 obtain ⟨t972, A2, H⟩ := zh H
 by_cases c3 : t972 = 0
 ·rw [if_pos c3] at H
  have c3b0 := beq_iff_eq.mpr c3
  have c3b1 := bne_eq_false_iff_eq.mpr c3
  clear c3
  obtain ⟨t973, A4, H⟩ := zh H
  simp only [Option.some.injEq, Prod.mk.injEq] at H
  obtain ⟨rfl, rfl⟩ := H
  go_enter Tryd.func36, Tryd.ntmps36
  go_wp2_with (first | ((with_reducible refine zD 1 rfl ?_); refine zn (N := 1) (cs := #[.bool a0_0, .slice A0_1 l0_1.length c0_1, .int .i64 a0_2]) (t := 25) rfl rfl ?_; intro gb971 hg w5 hbox hb; have BK971 := zA (hbox); have GW971 := zw hg; replace HB := ze hb; clear hb hbox hg; obtain ⟨_, _, _, _, _, _⟩ := zc BK971) | ((with_reducible refine zG 85 rfl ?_); refine zL (some 6) rfl rfl Tryd.func85 #[.agg #[.bool a0_0, .slice A0_1 l0_1.length c0_1, .int .i64 a0_2]] rfl ?_; (with_reducible refine (ulpref04_fault.calls k a0_0 _ _ l0_1 a0_2 t972 _ ?side1 ?side2 A2.out).mono ?_); (case side1 => exact zk (C_below HR0_1.out HB.out)); (case side2 => exact HC0_1.out); rintro e w7 ⟨rfl, hb⟩; refine ⟨_, rfl, ?_⟩; replace BK971 := zb BK971 hb; replace HB := zf hb; obtain ⟨hcz8_0, hcz8_1, hcz8_2, hfz8_0, hfz8_1, hfz8_2⟩ := zc BK971) | ((with_reducible refine zG 86 rfl ?_); refine zL (some 11) rfl rfl Tryd.func86 #[.agg #[.bool a0_0, .slice A0_1 l0_1.length c0_1, .int .i64 a0_2]] rfl ?_; (with_reducible refine (ulpref04_Bits.calls k a0_0 _ _ l0_1 a0_2 t973 _ ?side1 ?side2 A4.out).mono ?_); (case side1 => exact zk (C_below HR0_1.out HB.out)); (case side2 => exact HC0_1.out); rintro e w9 ⟨rfl, hb⟩; refine ⟨_, rfl, ?_⟩; replace BK971 := zb BK971 hb; replace HB := zf hb))
  go_ret2
  exact ⟨er, zs⟩
 rw [if_neg c3] at H
 have c3b0 := beq_eq_false_iff_ne.mpr c3
 have c3b1 := bne_iff_ne.mpr c3
 simp only [Option.some.injEq, Prod.mk.injEq] at H
 obtain ⟨rfl, rfl⟩ := H
 go_enter Tryd.func36, Tryd.ntmps36
 go_wp2_with (first | ((with_reducible refine zD 1 rfl ?_); refine zn (N := 1) (cs := #[.bool a0_0, .slice A0_1 l0_1.length c0_1, .int .i64 a0_2]) (t := 25) rfl rfl ?_; intro gb971 hg w10 hbox hb; have BK971 := zA (hbox); have GW971 := zw hg; replace HB := ze hb; clear hb hbox hg; obtain ⟨_, _, _, _, _, _⟩ := zc BK971) | ((with_reducible refine zG 85 rfl ?_); refine zL (some 6) rfl rfl Tryd.func85 #[.agg #[.bool a0_0, .slice A0_1 l0_1.length c0_1, .int .i64 a0_2]] rfl ?_; (with_reducible refine (ulpref04_fault.calls k a0_0 _ _ l0_1 a0_2 t972 _ ?side1 ?side2 A2.out).mono ?_); (case side1 => exact zk (C_below HR0_1.out HB.out)); (case side2 => exact HC0_1.out); rintro e w12 ⟨rfl, hb⟩; refine ⟨_, rfl, ?_⟩; replace BK971 := zb BK971 hb; replace HB := zf hb))
 go_ret2
 exact ⟨er, zs⟩
def dyad_Top.f (k : Nat) (a0_0 : Bool) (l0_1 : List Int) (a0_2 : Int) : Option (Int × Int) := (dyad_number_right.f k a0_0 l0_1 a0_2).bind fun t975 => (if t975 = true then ((raw_Zero.f k a0_0 l0_1 a0_2).bind fun t976 => (if t976 = true then (some (0, 5)) else ((raw_One.f k a0_0 l0_1 a0_2).bind fun bt977 => ((raw_Top.f k bt977.1 bt977.2.1 bt977.2.2).bind fun t982 => (some (t982, 0)))))) else (some (0, 2)))
theorem hand_told_Top_key (k : Nat) (s : Bool) (l : List Int) (e : Int) (r1 r2 : Int) (h : dyad_Top.f k s l e = some (r1, r2)) :
  (dyad_number_right.f k s l e = some false ∧ r1 = 0 ∧ r2 = 2) ∨ (dyad_number_right.f k s l e = some true ∧ raw_Zero.f k s l e = some true ∧ r1 = 0 ∧ r2 = 5) ∨
  (dyad_number_right.f k s l e = some true ∧ raw_Zero.f k s l e = some false ∧ r2 = 0 ∧ ∃ s1 l1 e1, raw_One.f k s l e = some (s1, l1, e1) ∧ raw_Top.f k s1 l1 e1 = some r1) := by
 unfold dyad_Top.f at h
 cases hA : dyad_number_right.f k s l e with
 | none => rw [hA] at h; cases h
 | some ra =>
 rw [hA] at h
 replace h : (if ra = true then _ else _) = _ := h
 cases ra with
 | false => rw [if_neg (by decide)] at h; injection h with h; injection h with h h'; exact .inl ⟨rfl, h.symm, h'.symm⟩
 | true =>
 rw [if_pos rfl] at h
 cases hB : raw_Zero.f k s l e with
 | none => rw [hB] at h; cases h
 | some rb =>
 rw [hB] at h
 replace h : (if rb = true then _ else _) = _ := h
 cases rb with
 | true => rw [if_pos rfl] at h; injection h with h; injection h with h h'; exact .inr (.inl ⟨rfl, rfl, h.symm, h'.symm⟩)
 | false =>
 rw [if_neg (by decide)] at h
 cases hC : raw_One.f k s l e with
 | none => rw [hC] at h; cases h
 | some t =>
 obtain ⟨s1, l1, e1⟩ := t
 rw [hC] at h
 replace h : (raw_Top.f k s1 l1 e1).bind _ = _ := h
 cases hD : raw_Top.f k s1 l1 e1 with
 | none => rw [hD] at h; cases h
 | some q =>
 rw [hD] at h
 injection h with h
 injection h with h h'
 exact .inr (.inr ⟨rfl, rfl, h'.symm, s1, l1, e1, rfl, hD.trans (congrArg some h)⟩)
set_option maxHeartbeats 8000000 in
set_option maxRecDepth 100000 in
theorem hand_told_Top (k : Nat) (s : Bool) (A : Option Addr) (c : Nat) (l : List Int) (e : Int) (r1 r2 : Int) (w : World) (hr : Kd.C (Kd.int .u64) w A l.length l) (hc : l.length ≤ c) (hT : Laid w) (h : dyad_Top.f k s l e = some (r1, r2)) :
  Calls Tryd.prog 82 #[.agg #[.bool s, .slice A l.length c, .int .i64 e], .func (.func 87) #[] #[]] w fun x w' => x = .returned (.tuple #[.int .i64 r1, .int .i64 r2]) ∧ Below w.heap.size w w' := by
 have hu25 := Tryd.underlying25
 have HB := zA (Below.refl w.heap.size w)
 have HT := zA hT
 have HV := zA (hand_V_of_C 43 (w := w) (base := w.heap.size) hr hc)
 have HK := zA (hand_told_Top_key k s l e r1 r2 h)
 clear hT h hr hc
 go_enter Tryd.func82, Tryd.ntmps82
 rcases HK.out with ⟨h1, rfl, rfl⟩ | ⟨h1, h2, rfl, rfl⟩ | ⟨h1, h2, rfl, s1, l1, e1, h3, h4⟩
 ·clear HK
  replace h1 := zA h1
  go_wp2_with (first | ((with_reducible refine zD 2 rfl ?_); refine zn (N := 2) (cs := #[.bool s, .slice A l.length c, .int .i64 e]) (t := 25) rfl rfl ?_; intro g hg w1 hbox hb; have m_HV := zA (V_below HV.out hb); have m_HB := zA (below_step HB.out hb); clear HV HB hb hg; have HV := m_HV; have HB := m_HB; clear m_HV m_HB; have B0 := zA hbox; clear hbox; obtain ⟨_, _, _, _, _, _⟩ := zc B0) | ((with_reducible refine zG 72 rfl ?_); refine goesL_ (some 8) rfl rfl Tryd.func72 (by kernel_rfl) rfl #[.agg #[.bool s, .slice A l.length c, .int .i64 e]] rfl (by (try simp only [List.map_toArray, List.map_cons, List.map_nil]); first | done | rfl) ?_; refine (dyad_number_right.calls k s _ _ l e _ _ (V_reads' HV.out).2.2 (V_reads' HV.out).2.1 h1.out).mono ?_; rintro e_ w3 ⟨rfl, hb⟩; refine ⟨_, rfl, ?_⟩; have m_HV := zA (V_below HV.out hb); have m_B0 := zA (blk_below B0.out hb); have m_HB := zA (below_step HB.out hb); clear HV B0 HB hb; have HV := m_HV; have B0 := m_B0; have HB := m_HB; clear m_HV m_B0 m_HB; obtain ⟨_, _, _, _, _, _⟩ := zc B0))
  go_ret2
  exact ⟨rfl, HB.out⟩
 ·clear HK
  replace h1 := zA h1
  replace h2 := zA h2
  go_wp2_with (first | ((with_reducible refine zD 2 rfl ?_); refine zn (N := 2) (cs := #[.bool s, .slice A l.length c, .int .i64 e]) (t := 25) rfl rfl ?_; intro g hg w1 hbox hb; have m_HV := zA (V_below HV.out hb); have m_HB := zA (below_step HB.out hb); clear HV HB hb hg; have HV := m_HV; have HB := m_HB; clear m_HV m_HB; have B0 := zA hbox; clear hbox; obtain ⟨_, _, _, _, _, _⟩ := zc B0) | ((with_reducible refine zG 72 rfl ?_); refine goesL_ (some 8) rfl rfl Tryd.func72 (by kernel_rfl) rfl #[.agg #[.bool s, .slice A l.length c, .int .i64 e]] rfl (by (try simp only [List.map_toArray, List.map_cons, List.map_nil]); first | done | rfl) ?_; refine (dyad_number_right.calls k s _ _ l e _ _ (V_reads' HV.out).2.2 (V_reads' HV.out).2.1 h1.out).mono ?_; rintro e_ w3 ⟨rfl, hb⟩; refine ⟨_, rfl, ?_⟩; have m_HV := zA (V_below HV.out hb); have m_B0 := zA (blk_below B0.out hb); have m_HB := zA (below_step HB.out hb); clear HV B0 HB hb; have HV := m_HV; have B0 := m_B0; have HB := m_HB; clear m_HV m_B0 m_HB; obtain ⟨_, _, _, _, _, _⟩ := zc B0) | ((with_reducible refine zG 73 rfl ?_); refine goesL_ (some 12) rfl rfl Tryd.func73 (by kernel_rfl) rfl #[.agg #[.bool s, .slice A l.length c, .int .i64 e]] rfl (by (try simp only [List.map_toArray, List.map_cons, List.map_nil]); first | done | rfl) ?_; refine (raw_Zero.calls k s _ _ l e _ _ (V_reads' HV.out).2.2 (V_reads' HV.out).2.1 h2.out).mono ?_; rintro e_ w3 ⟨rfl, hb⟩; refine ⟨_, rfl, ?_⟩; have m_HV := zA (V_below HV.out hb); have m_B0 := zA (blk_below B0.out hb); have m_HB := zA (below_step HB.out hb); clear HV B0 HB hb; have HV := m_HV; have B0 := m_B0; have HB := m_HB; clear m_HV m_B0 m_HB; obtain ⟨_, _, _, _, _, _⟩ := zc B0))
  go_ret2
  exact ⟨rfl, HB.out⟩
 clear HK
 replace h1 := zA h1
 replace h2 := zA h2
 replace h3 := zA h3
 replace h4 := zA h4
 go_wp2_with (first | ((with_reducible refine zD 2 rfl ?_); refine zn (N := 2) (cs := #[.bool s, .slice A l.length c, .int .i64 e]) (t := 25) rfl rfl ?_; intro g hg w1 hbox hb; have m_HV := zA (V_below HV.out hb); have m_HB := zA (below_step HB.out hb); clear HV HB hb hg; have HV := m_HV; have HB := m_HB; clear m_HV m_HB; have B0 := zA hbox; clear hbox; obtain ⟨_, _, _, _, _, _⟩ := zc B0) | ((with_reducible refine zG 72 rfl ?_); refine goesL_ (some 8) rfl rfl Tryd.func72 (by kernel_rfl) rfl #[.agg #[.bool s, .slice A l.length c, .int .i64 e]] rfl (by (try simp only [List.map_toArray, List.map_cons, List.map_nil]); first | done | rfl) ?_; refine (dyad_number_right.calls k s _ _ l e _ _ (V_reads' HV.out).2.2 (V_reads' HV.out).2.1 h1.out).mono ?_; rintro e_ w3 ⟨rfl, hb⟩; refine ⟨_, rfl, ?_⟩; have m_HV := zA (V_below HV.out hb); have m_B0 := zA (blk_below B0.out hb); have m_HB := zA (below_step HB.out hb); clear HV B0 HB hb; have HV := m_HV; have B0 := m_B0; have HB := m_HB; clear m_HV m_B0 m_HB; obtain ⟨_, _, _, _, _, _⟩ := zc B0) | ((with_reducible refine zG 73 rfl ?_); refine goesL_ (some 12) rfl rfl Tryd.func73 (by kernel_rfl) rfl #[.agg #[.bool s, .slice A l.length c, .int .i64 e]] rfl (by (try simp only [List.map_toArray, List.map_cons, List.map_nil]); first | done | rfl) ?_; refine (raw_Zero.calls k s _ _ l e _ _ (V_reads' HV.out).2.2 (V_reads' HV.out).2.1 h2.out).mono ?_; rintro e_ w3 ⟨rfl, hb⟩; refine ⟨_, rfl, ?_⟩; have m_HV := zA (V_below HV.out hb); have m_B0 := zA (blk_below B0.out hb); have m_HB := zA (below_step HB.out hb); clear HV B0 HB hb; have HV := m_HV; have B0 := m_B0; have HB := m_HB; clear m_HV m_B0 m_HB; obtain ⟨_, _, _, _, _, _⟩ := zc B0) | ((with_reducible refine zG 95 rfl ?_); refine goesL_ (some 15) rfl rfl Tryd.func95 (by kernel_rfl) rfl #[.agg #[.bool s, .slice A l.length c, .int .i64 e]] rfl (by (try simp only [List.map_toArray, List.map_cons, List.map_nil]); first | done | rfl) ?_; refine (raw_One.calls k s (fun k_ => True) _ _ l e s1 l1 e1 _ HV.out (laid_below HT.out HB.out) h3.out).mono ?_; rintro e_ w3 ⟨v3, rfl, hv, hb⟩; obtain ⟨A3, c3, rfl⟩ := V_slice hv; refine ⟨_, rfl, ?_⟩; have m_HV := zA (V_below HV.out hb); have m_B0 := zA (blk_below B0.out hb); have m_HB := zA (below_step HB.out hb); clear HV B0 HB hb; have HV := m_HV; have B0 := m_B0; have HB := m_HB; clear m_HV m_B0 m_HB; obtain ⟨_, _, _, _, _, _⟩ := zc B0; have HV3 := zA hv; clear hv) | ((with_reducible refine zD 16 rfl ?_); refine goesV_ (some 16) rfl rfl #[] #[] rfl rfl Tryd.func87 (by kernel_rfl) rfl #[.agg #[.bool s1, .slice A3 l1.length c3, .int .i64 e1]] (by (try simp only [List.map_toArray, List.map_cons, List.map_nil]); first | done | rfl) ?_; refine (raw_Top.calls k s1 _ _ l1 e1 _ _ (V_reads' HV3.out).2.2 (V_reads' HV3.out).2.1 h4.out).mono ?_; rintro e_ w4 ⟨rfl, hb⟩; refine ⟨_, rfl, ?_⟩; have m_HB := zA (below_step HB.out hb); clear HB hb; have HB := m_HB; clear m_HB))
 go_ret2
 exact ⟨rfl, HB.out⟩
set_option maxHeartbeats 8000000 in
set_option maxRecDepth 100000 in
theorem dyad_Top.calls (k : Nat) (a0_0 : Bool) (A0_1 : Option Addr) (c0_1 : Nat) (l0_1 : List Int) (a0_2 : Int) (r1 : Int) (r2 : Int) (w : World) (hr0_1 : Kd.C (Kd.int .u64) w A0_1 l0_1.length l0_1) (hc0_1 : l0_1.length ≤ c0_1) (hT : Laid w) (h : dyad_Top.f k a0_0 l0_1 a0_2 = some (r1, r2)) :
  Calls Tryd.prog 37 #[.agg #[.bool a0_0, .slice A0_1 l0_1.length c0_1, .int .i64 a0_2]] w fun e w' => e = .returned (.tuple #[.int .i64 r1, .int .i64 r2]) ∧ Below w.heap.size w w' := by
 have hu25 := Tryd.underlying25
 have HB := zA (Below.refl w.heap.size w)
 have HT := zA hT
 have HR := zA hr0_1
 have HC := zA hc0_1
 have HH := zA h
 clear hT h hr0_1 hc0_1
 go_enter Tryd.func37, Tryd.ntmps37
 go_wp2_with (first | ((with_reducible refine zD 1 rfl ?_); refine zn (N := 1) (cs := #[.bool a0_0, .slice A0_1 l0_1.length c0_1, .int .i64 a0_2]) (t := 25) rfl rfl ?_; intro gB0 hg w1 hbox hb; have GB0 := zA (hg ▸ below_size HB.out : w.heap.size ≤ gB0); have m_HB := zA (below_step HB.out hb); clear HB hb ; have HB := m_HB; clear m_HB; have B0 := zA hbox; clear hbox hg; have m_HR := zA (C_below HR.out HB.out); clear HR; have HR := m_HR; clear m_HR; obtain ⟨_, _, _, _, _, _⟩ := zc B0) | ((with_reducible refine zG 82 rfl ?_); refine goesL_ (some 5) rfl rfl Tryd.func82 (by kernel_rfl) rfl #[.agg #[.bool a0_0, .slice A0_1 l0_1.length c0_1, .int .i64 a0_2], .func (.func 87) #[] #[]] rfl (by (try simp only [List.map_toArray, List.map_cons, List.map_nil]); first | done | rfl) ?_; refine (hand_told_Top k a0_0 _ _ l0_1 a0_2 r1 r2 _ HR.out HC.out (laid_below HT.out HB.out) HH.out).mono ?_; rintro e w7 ⟨rfl, hb⟩; refine ⟨_, rfl, ?_⟩; have m_HB := zA (below_step HB.out hb); clear HB hb; have HB := m_HB; clear m_HB))
 go_ret2
 exact ⟨rfl, HB.out⟩
end Go.Proofs.YtemfckibdojbbaaDoor.PAll
