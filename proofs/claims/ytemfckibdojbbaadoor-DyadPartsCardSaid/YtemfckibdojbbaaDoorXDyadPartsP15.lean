/- Printed functions, merged by a program of this session. -/
import Derived.Test.YtemfckibdojbbaaDoorXDyadPartsP0
import Derived.Test.YtemfckibdojbbaaDoorXDyadPartsP13
import Derived.Laws.StructEq
import Derived.Test.YtemfckibdojbbaaDoorXDyadPartsSh
namespace Go.Proofs.YtemfckibdojbbaaDoor.PAll
open Go.RowKit Go.Proofs.YtemfckibdojbbaaDoorW.PrintWords Go.Proofs.YtemfckibdojbbaaDoorW.PrintLast Go.Proofs.YtemfckibdojbbaaDoorW.PrintMore Go.Proofs.YtemfckibdojbbaaDoorW.PrintWords.Kd
attribute [local go_sem] max2_int min2_int max_two min_two max_three min_three max_four min_four   -- for this text's walks alone
set_option linter.unusedVariables false
set_option linter.unusedSimpArgs false
attribute [local go_sem] ext135 ext136
def ulpref03_Add.l0 : Nat → List Int → List Int → List Int → Int → Int → Option (List Int)
 | 0, _, _, _, _, _ => none
 | k + 1, x0, x1, x5, x6, x7 => if x7 < (mx (x0.length : Int) (x1.length : Int)) then ((ulpref03_word.f x0 x7).bind fun t590 => ((ulpref03_word.f x1 x7).bind fun t591 => (if (IntKind.u64.wrap ((IntKind.u64.wrap (t590 + t591)) + x6)) < t590 then (if x5.length < 17592186044416 then (ulpref03_Add.l0 k x0 x1 (x5 ++ [IntKind.u64.wrap ((IntKind.u64.wrap (t590 + t591)) + x6)]) 1 (wrap64 (x7 + 1))) else (none)) else (if (IntKind.u64.wrap ((IntKind.u64.wrap (t590 + t591)) + x6)) = t590 then (if x6 = 1 then (if t591 > 0 then (if x5.length < 17592186044416 then (ulpref03_Add.l0 k x0 x1 (x5 ++ [IntKind.u64.wrap ((IntKind.u64.wrap (t590 + t591)) + x6)]) 1 (wrap64 (x7 + 1))) else (none)) else (if x5.length < 17592186044416 then (ulpref03_Add.l0 k x0 x1 (x5 ++ [IntKind.u64.wrap ((IntKind.u64.wrap (t590 + t591)) + x6)]) 0 (wrap64 (x7 + 1))) else (none))) else (if x5.length < 17592186044416 then (ulpref03_Add.l0 k x0 x1 (x5 ++ [IntKind.u64.wrap ((IntKind.u64.wrap (t590 + t591)) + x6)]) 0 (wrap64 (x7 + 1))) else (none))) else (if x5.length < 17592186044416 then (ulpref03_Add.l0 k x0 x1 (x5 ++ [IntKind.u64.wrap ((IntKind.u64.wrap (t590 + t591)) + x6)]) 0 (wrap64 (x7 + 1))) else (none)))))) else (if x5.length < 17592186044416 then ((ulpref03_Norm.f k (x5 ++ [x6])).bind fun t587 => (some t587)) else (none))
def ulpref03_Add.f (k : Nat) (l0 : List Int) (l1 : List Int) : Option (List Int) := ulpref03_Add.l0 k l0 l1 ([] : List Int) 0 0
set_option maxHeartbeats 8000000 in
set_option maxRecDepth 100000 in
theorem ulpref03_Add.calls (k : Nat) (A0 : Option Addr) (c0 : Nat) (l0 : List Int) (A1 : Option Addr) (c1 : Nat) (l1 : List Int) (r : List Int) (w : World) (hr0 : Kd.C (Kd.int .u64) w A0 l0.length l0) (hc0 : l0.length ≤ c0) (hr1 : Kd.C (Kd.int .u64) w A1 l1.length l1) (hc1 : l1.length ≤ c1) (h : ulpref03_Add.f k l0 l1 = some r) :
  Calls Tryd.prog 119 #[.slice A0 l0.length c0, .slice A1 l1.length c1] w fun e w' => ∃ v0_ : Value, e = .returned (v0_) ∧ Kd.R (Kd.int .u64) 43 w' w.heap.size (fun _ => True) v0_ r ∧ Below w.heap.size w w' := by
 have HR0 := zA hr0
 have HC0 := zA hc0
 clear hr0 hc0
 have HR1 := zA hr1
 have HC1 := zA hc1
 clear hr1 hc1
 have HB := zA (Below.refl w.heap.size w)
 have H : (ulpref03_Add.l0 k l0 l1 ([] : List Int) 0 0) = some r := h
 clear h
 have H' := zA H
 clear H
 go_enter Tryd.func119, Tryd.ntmps119
 go_wp2
 go_loopg [5, 6, 7] k (fun kq v5 v6 v7 w' => ∃ (x5_1 : List Int) (x6_1 : Int) (x7_1 : Int), v6 = .int .u64 x6_1 ∧ v7 = .int .i64 x7_1 ∧ Aside0 (ulpref03_Add.l0 kq l0 l1 x5_1 x6_1 x7_1 = some r) ∧ Aside0 (kq ≤ k) ∧ Aside0 (Kd.R (Kd.int .u64) 43 w' w.heap.size (fun _ => True) v5 x5_1) ∧ Aside0 (Below w.heap.size w w'))
 case atStart => exact ⟨(([] : List Int)), (0), (0), zi, zi, H', ⟨Nat.le_refl _⟩, ⟨by first | exact R_nil _ _ _ _ _ | exact Kd.N_nil _ _ _ _ _ | exact V_nil _ _ _ _ _ | exact Kd.Q_nil _ _ _ _ _ | exact Kd.S_nil _ _ _ _ _⟩, ⟨bq⟩⟩
 case round =>
  clear H'
  try clear c1
  obtain ⟨x5_1, x6_1, x7_1, rfl, rfl, HA, HK1, HO_5, HB⟩ := hrel
  cases gk with
  | zero => exact absurd HA.out (by simp [ulpref03_Add.l0])
  | succ k1 =>
   have H := HA.out
   clear HA
   simp only [ulpref03_Add.l0] at H
   obtain ⟨ji3, hji3⟩ : ∃ j_ : Int, (mx (l0.length : Int) (l1.length : Int)) = j_ := ⟨_, rfl⟩
   replace H : (if x7_1 < (ji3) then ((ulpref03_word.f l0 x7_1).bind fun t590 => ((ulpref03_word.f l1 x7_1).bind fun t591 => (if (IntKind.u64.wrap ((IntKind.u64.wrap (t590 + t591)) + x6_1)) < t590 then (if x5_1.length < 17592186044416 then (ulpref03_Add.l0 k1 l0 l1 (x5_1 ++ [IntKind.u64.wrap ((IntKind.u64.wrap (t590 + t591)) + x6_1)]) 1 (wrap64 (x7_1 + 1))) else (none)) else (if (IntKind.u64.wrap ((IntKind.u64.wrap (t590 + t591)) + x6_1)) = t590 then (if x6_1 = 1 then (if t591 > 0 then (if x5_1.length < 17592186044416 then (ulpref03_Add.l0 k1 l0 l1 (x5_1 ++ [IntKind.u64.wrap ((IntKind.u64.wrap (t590 + t591)) + x6_1)]) 1 (wrap64 (x7_1 + 1))) else (none)) else (if x5_1.length < 17592186044416 then (ulpref03_Add.l0 k1 l0 l1 (x5_1 ++ [IntKind.u64.wrap ((IntKind.u64.wrap (t590 + t591)) + x6_1)]) 0 (wrap64 (x7_1 + 1))) else (none))) else (if x5_1.length < 17592186044416 then (ulpref03_Add.l0 k1 l0 l1 (x5_1 ++ [IntKind.u64.wrap ((IntKind.u64.wrap (t590 + t591)) + x6_1)]) 0 (wrap64 (x7_1 + 1))) else (none))) else (if x5_1.length < 17592186044416 then (ulpref03_Add.l0 k1 l0 l1 (x5_1 ++ [IntKind.u64.wrap ((IntKind.u64.wrap (t590 + t591)) + x6_1)]) 0 (wrap64 (x7_1 + 1))) else (none)))))) else (if x5_1.length < 17592186044416 then ((ulpref03_Norm.f k1 (x5_1 ++ [x6_1])).bind fun t587 => (some t587)) else (none))) = some r := zQ hji3 H
   have hji3_ : (if (l0.length : Int) < (l1.length : Int) then (l1.length : Int) else (l0.length : Int)) = ji3 := hji3
   have hji3n : (if l0.length < l1.length then (l1.length : Int) else (l0.length : Int)) = ji3 := by rw [← hji3_]; (repeat' split) <;> omega
   by_cases c4 : x7_1 < (ji3)
   ·rw [if_pos c4] at H
    have c4b0 := decide_eq_true c4
    clear c4
    obtain ⟨t590, A5, H⟩ := zh H
    obtain ⟨t591, A6, H⟩ := zh H
    by_cases c7 : (IntKind.u64.wrap ((IntKind.u64.wrap (t590 + t591)) + x6_1)) < t590
    ·rw [if_pos c7] at H
     have c7b0 : decide ((IntKind.u64.wrap ((IntKind.u64.wrap (t590 + t591)) + x6_1)) < t590) = true := decide_eq_true c7
     clear c7
     replace H := dn H
     obtain ⟨c8, H⟩ := H
     have LMc8 := zA c8
     clear c8
     obtain ⟨y592, hy592⟩ : ∃ y_ : List Int, y_ = (x5_1 ++ [IntKind.u64.wrap ((IntKind.u64.wrap (t590 + t591)) + x6_1)]) := ⟨_, rfl⟩
     replace H : (ulpref03_Add.l0 k1 l0 l1 y592 1 (wrap64 (x7_1 + 1))) = some r := zR hy592 H
     have Ny592 := zA hy592
     clear hy592
     have H' := zA H
     clear H
     go_wp2_with (first | ((with_reducible refine zG 137 rfl ?_); refine zL (some 22) rfl rfl Tryd.func137 #[.slice A0 l0.length c0, .int .i64 x7_1] rfl ?_; (with_reducible refine (ulpref03_word.calls _ _ l0 x7_1 t590 _ ?side1 ?side2 A5.out).mono ?_); (case side1 => exact zk (C_below HR0.out HB.out)); (case side2 => exact HC0.out); rintro e w' ⟨rfl, ⟨nd, rfl⟩⟩; refine ⟨_, rfl, ?_⟩) | ((with_reducible refine zG 137 rfl ?_); refine zL (some 25) rfl rfl Tryd.func137 #[.slice A1 l1.length c1, .int .i64 x7_1] rfl ?_; (with_reducible refine (ulpref03_word.calls _ _ l1 x7_1 t591 _ ?side1 ?side2 A6.out).mono ?_); (case side1 => exact zk (C_below HR1.out bq)); (case side2 => exact HC1.out); rintro e w' ⟨rfl, ⟨nd, rfl⟩⟩; refine ⟨_, rfl, ?_⟩) | ((with_reducible refine gate_builtin (b := .append) (xs := #[.tmp 47, .tmp 49]) rfl ?_); at_builtin; refine R_append (Kd.int .u64) (w0 := w) w.heap.size rfl (.tmp 47) (.tmp 49) 23 43 (.int .u64 0) 8 rfl Tryd.underlying23 info43 rfl (by decide) (by omega) u5 x5_1 (IntKind.u64.wrap ((IntKind.u64.wrap (t590 + t591)) + x6_1)) [.int .u64 (IntKind.u64.wrap ((IntKind.u64.wrap (t590 + t591)) + x6_1))] (fun _ => True) (fun _ => False) rfl rfl ?aP (fun _ hk => hk.elim) ?aF ?aO ?aB ?aS ?aL ?_; (case aP => exact rfl); (case aB => exact bq); (case aF => exact (fun _ _ => trivial)); (case aO => exact (ru HO_5.out)); (case aS => exact (below_size bq)); (case aL => have := LMc8.out; omega); intro v593 w9 ho hb hg hat; rw [← Ny592.out] at ho; have n0_ := zA (hb); have n1_ := zA (ho); clear HB; clear HO_5; have HB := n0_; have HO594 := n1_; clear n0_ n1_; clear ho hb hg hat))
     (try simp only [← hji3])
     go_roundg k1
     case measure => have := HK1.out; omega
     case rel => exact ⟨(y592), (1), (wrap64 (x7_1 + 1)), zi, zi, (by first | exact H' | (simp only [hji3]; exact H') | (simp only [hji3] at H' ⊢; exact H')), ⟨by have := HK1.out; omega⟩, ⟨ru HO594.out⟩, ⟨bq⟩⟩
    rw [if_neg c7] at H
    have c7b0 : decide ((IntKind.u64.wrap ((IntKind.u64.wrap (t590 + t591)) + x6_1)) < t590) = false := decide_eq_false c7
    clear c7
    by_cases c10 : (IntKind.u64.wrap ((IntKind.u64.wrap (t590 + t591)) + x6_1)) = t590
    ·rw [if_pos c10] at H
     have c10b0 := beq_iff_eq.mpr c10
     have c10b1 := bne_eq_false_iff_eq.mpr c10
     clear c10
     by_cases c11 : x6_1 = 1
     ·rw [if_pos c11] at H
      have c11b0 := beq_iff_eq.mpr c11
      have c11b1 := bne_eq_false_iff_eq.mpr c11
      clear c11
      by_cases c12 : t591 > 0
      ·rw [if_pos c12] at H
       have c12b0 := decide_eq_true c12
       clear c12
       replace H := dn H
       obtain ⟨c13, H⟩ := H
       have LMc13 := zA c13
       clear c13
       obtain ⟨y595, hy595⟩ : ∃ y_ : List Int, y_ = (x5_1 ++ [IntKind.u64.wrap ((IntKind.u64.wrap (t590 + t591)) + x6_1)]) := ⟨_, rfl⟩
       replace H : (ulpref03_Add.l0 k1 l0 l1 y595 1 (wrap64 (x7_1 + 1))) = some r := zR hy595 H
       have Ny595 := zA hy595
       clear hy595
       have H' := zA H
       clear H
       go_wp2_with (first | ((with_reducible refine zG 137 rfl ?_); refine zL (some 22) rfl rfl Tryd.func137 #[.slice A0 l0.length c0, .int .i64 x7_1] rfl ?_; (with_reducible refine (ulpref03_word.calls _ _ l0 x7_1 t590 _ ?side1 ?side2 A5.out).mono ?_); (case side1 => exact zk (C_below HR0.out HB.out)); (case side2 => exact HC0.out); rintro e w' ⟨rfl, ⟨nd, rfl⟩⟩; refine ⟨_, rfl, ?_⟩) | ((with_reducible refine zG 137 rfl ?_); refine zL (some 25) rfl rfl Tryd.func137 #[.slice A1 l1.length c1, .int .i64 x7_1] rfl ?_; (with_reducible refine (ulpref03_word.calls _ _ l1 x7_1 t591 _ ?side1 ?side2 A6.out).mono ?_); (case side1 => exact zk (C_below HR1.out bq)); (case side2 => exact HC1.out); rintro e w' ⟨rfl, ⟨nd, rfl⟩⟩; refine ⟨_, rfl, ?_⟩) | ((with_reducible refine gate_builtin (b := .append) (xs := #[.tmp 47, .tmp 49]) rfl ?_); at_builtin; refine R_append (Kd.int .u64) (w0 := w) w.heap.size rfl (.tmp 47) (.tmp 49) 23 43 (.int .u64 0) 8 rfl Tryd.underlying23 info43 rfl (by decide) (by omega) u5 x5_1 (IntKind.u64.wrap ((IntKind.u64.wrap (t590 + t591)) + x6_1)) [.int .u64 (IntKind.u64.wrap ((IntKind.u64.wrap (t590 + t591)) + x6_1))] (fun _ => True) (fun _ => False) rfl rfl ?aP (fun _ hk => hk.elim) ?aF ?aO ?aB ?aS ?aL ?_; (case aP => exact rfl); (case aB => exact bq); (case aF => exact (fun _ _ => trivial)); (case aO => exact (ru HO_5.out)); (case aS => exact (below_size bq)); (case aL => have := LMc13.out; omega); intro v596 w14 ho hb hg hat; rw [← Ny595.out] at ho; have n0_ := zA (hb); have n1_ := zA (ho); clear HB; clear HO_5; have HB := n0_; have HO597 := n1_; clear n0_ n1_; clear ho hb hg hat))
       (try simp only [← hji3])
       go_roundg k1
       case measure => have := HK1.out; omega
       case rel => exact ⟨(y595), (1), (wrap64 (x7_1 + 1)), zi, zi, (by first | exact H' | (simp only [hji3]; exact H') | (simp only [hji3] at H' ⊢; exact H')), ⟨by have := HK1.out; omega⟩, ⟨ru HO597.out⟩, ⟨bq⟩⟩
      rw [if_neg c12] at H
      have c12b0 := decide_eq_false c12
      clear c12
      replace H := dn H
      obtain ⟨c15, H⟩ := H
      have LMc15 := zA c15
      clear c15
      obtain ⟨y598, hy598⟩ : ∃ y_ : List Int, y_ = (x5_1 ++ [IntKind.u64.wrap ((IntKind.u64.wrap (t590 + t591)) + x6_1)]) := ⟨_, rfl⟩
      replace H : (ulpref03_Add.l0 k1 l0 l1 y598 0 (wrap64 (x7_1 + 1))) = some r := zR hy598 H
      have Ny598 := zA hy598
      clear hy598
      have H' := zA H
      clear H
      go_wp2_with (first | ((with_reducible refine zG 137 rfl ?_); refine zL (some 22) rfl rfl Tryd.func137 #[.slice A0 l0.length c0, .int .i64 x7_1] rfl ?_; (with_reducible refine (ulpref03_word.calls _ _ l0 x7_1 t590 _ ?side1 ?side2 A5.out).mono ?_); (case side1 => exact zk (C_below HR0.out HB.out)); (case side2 => exact HC0.out); rintro e w' ⟨rfl, ⟨nd, rfl⟩⟩; refine ⟨_, rfl, ?_⟩) | ((with_reducible refine zG 137 rfl ?_); refine zL (some 25) rfl rfl Tryd.func137 #[.slice A1 l1.length c1, .int .i64 x7_1] rfl ?_; (with_reducible refine (ulpref03_word.calls _ _ l1 x7_1 t591 _ ?side1 ?side2 A6.out).mono ?_); (case side1 => exact zk (C_below HR1.out bq)); (case side2 => exact HC1.out); rintro e w' ⟨rfl, ⟨nd, rfl⟩⟩; refine ⟨_, rfl, ?_⟩) | ((with_reducible refine gate_builtin (b := .append) (xs := #[.tmp 47, .tmp 49]) rfl ?_); at_builtin; refine R_append (Kd.int .u64) (w0 := w) w.heap.size rfl (.tmp 47) (.tmp 49) 23 43 (.int .u64 0) 8 rfl Tryd.underlying23 info43 rfl (by decide) (by omega) u5 x5_1 (IntKind.u64.wrap ((IntKind.u64.wrap (t590 + t591)) + x6_1)) [.int .u64 (IntKind.u64.wrap ((IntKind.u64.wrap (t590 + t591)) + x6_1))] (fun _ => True) (fun _ => False) rfl rfl ?aP (fun _ hk => hk.elim) ?aF ?aO ?aB ?aS ?aL ?_; (case aP => exact rfl); (case aB => exact bq); (case aF => exact (fun _ _ => trivial)); (case aO => exact (ru HO_5.out)); (case aS => exact (below_size bq)); (case aL => have := LMc15.out; omega); intro v599 w16 ho hb hg hat; rw [← Ny598.out] at ho; have n0_ := zA (hb); have n1_ := zA (ho); clear HB; clear HO_5; have HB := n0_; have HO600 := n1_; clear n0_ n1_; clear ho hb hg hat))
      (try simp only [← hji3])
      go_roundg k1
      case measure => have := HK1.out; omega
      case rel => exact ⟨(y598), (0), (wrap64 (x7_1 + 1)), zi, zi, (by first | exact H' | (simp only [hji3]; exact H') | (simp only [hji3] at H' ⊢; exact H')), ⟨by have := HK1.out; omega⟩, ⟨ru HO600.out⟩, ⟨bq⟩⟩
     rw [if_neg c11] at H
     have c11b0 := beq_eq_false_iff_ne.mpr c11
     have c11b1 := bne_iff_ne.mpr c11
     replace H := dn H
     obtain ⟨c17, H⟩ := H
     have LMc17 := zA c17
     clear c17
     obtain ⟨y601, hy601⟩ : ∃ y_ : List Int, y_ = (x5_1 ++ [IntKind.u64.wrap ((IntKind.u64.wrap (t590 + t591)) + x6_1)]) := ⟨_, rfl⟩
     replace H : (ulpref03_Add.l0 k1 l0 l1 y601 0 (wrap64 (x7_1 + 1))) = some r := zR hy601 H
     have Ny601 := zA hy601
     clear hy601
     have H' := zA H
     clear H
     go_wp2_with (first | ((with_reducible refine zG 137 rfl ?_); refine zL (some 22) rfl rfl Tryd.func137 #[.slice A0 l0.length c0, .int .i64 x7_1] rfl ?_; (with_reducible refine (ulpref03_word.calls _ _ l0 x7_1 t590 _ ?side1 ?side2 A5.out).mono ?_); (case side1 => exact zk (C_below HR0.out HB.out)); (case side2 => exact HC0.out); rintro e w' ⟨rfl, ⟨nd, rfl⟩⟩; refine ⟨_, rfl, ?_⟩) | ((with_reducible refine zG 137 rfl ?_); refine zL (some 25) rfl rfl Tryd.func137 #[.slice A1 l1.length c1, .int .i64 x7_1] rfl ?_; (with_reducible refine (ulpref03_word.calls _ _ l1 x7_1 t591 _ ?side1 ?side2 A6.out).mono ?_); (case side1 => exact zk (C_below HR1.out bq)); (case side2 => exact HC1.out); rintro e w' ⟨rfl, ⟨nd, rfl⟩⟩; refine ⟨_, rfl, ?_⟩) | ((with_reducible refine gate_builtin (b := .append) (xs := #[.tmp 47, .tmp 49]) rfl ?_); at_builtin; refine R_append (Kd.int .u64) (w0 := w) w.heap.size rfl (.tmp 47) (.tmp 49) 23 43 (.int .u64 0) 8 rfl Tryd.underlying23 info43 rfl (by decide) (by omega) u5 x5_1 (IntKind.u64.wrap ((IntKind.u64.wrap (t590 + t591)) + x6_1)) [.int .u64 (IntKind.u64.wrap ((IntKind.u64.wrap (t590 + t591)) + x6_1))] (fun _ => True) (fun _ => False) rfl rfl ?aP (fun _ hk => hk.elim) ?aF ?aO ?aB ?aS ?aL ?_; (case aP => exact rfl); (case aB => exact bq); (case aF => exact (fun _ _ => trivial)); (case aO => exact (ru HO_5.out)); (case aS => exact (below_size bq)); (case aL => have := LMc17.out; omega); intro v602 w18 ho hb hg hat; rw [← Ny601.out] at ho; have n0_ := zA (hb); have n1_ := zA (ho); clear HB; clear HO_5; have HB := n0_; have HO603 := n1_; clear n0_ n1_; clear ho hb hg hat))
     (try simp only [← hji3])
     go_roundg k1
     case measure => have := HK1.out; omega
     case rel => exact ⟨(y601), (0), (wrap64 (x7_1 + 1)), zi, zi, (by first | exact H' | (simp only [hji3]; exact H') | (simp only [hji3] at H' ⊢; exact H')), ⟨by have := HK1.out; omega⟩, ⟨ru HO603.out⟩, ⟨bq⟩⟩
    rw [if_neg c10] at H
    have c10b0 := beq_eq_false_iff_ne.mpr c10
    have c10b1 := bne_iff_ne.mpr c10
    replace H := dn H
    obtain ⟨c19, H⟩ := H
    have LMc19 := zA c19
    clear c19
    obtain ⟨y604, hy604⟩ : ∃ y_ : List Int, y_ = (x5_1 ++ [IntKind.u64.wrap ((IntKind.u64.wrap (t590 + t591)) + x6_1)]) := ⟨_, rfl⟩
    replace H : (ulpref03_Add.l0 k1 l0 l1 y604 0 (wrap64 (x7_1 + 1))) = some r := zR hy604 H
    have Ny604 := zA hy604
    clear hy604
    have H' := zA H
    clear H
    go_wp2_with (first | ((with_reducible refine zG 137 rfl ?_); refine zL (some 22) rfl rfl Tryd.func137 #[.slice A0 l0.length c0, .int .i64 x7_1] rfl ?_; (with_reducible refine (ulpref03_word.calls _ _ l0 x7_1 t590 _ ?side1 ?side2 A5.out).mono ?_); (case side1 => exact zk (C_below HR0.out HB.out)); (case side2 => exact HC0.out); rintro e w' ⟨rfl, ⟨nd, rfl⟩⟩; refine ⟨_, rfl, ?_⟩) | ((with_reducible refine zG 137 rfl ?_); refine zL (some 25) rfl rfl Tryd.func137 #[.slice A1 l1.length c1, .int .i64 x7_1] rfl ?_; (with_reducible refine (ulpref03_word.calls _ _ l1 x7_1 t591 _ ?side1 ?side2 A6.out).mono ?_); (case side1 => exact zk (C_below HR1.out bq)); (case side2 => exact HC1.out); rintro e w' ⟨rfl, ⟨nd, rfl⟩⟩; refine ⟨_, rfl, ?_⟩) | ((with_reducible refine gate_builtin (b := .append) (xs := #[.tmp 47, .tmp 49]) rfl ?_); at_builtin; refine R_append (Kd.int .u64) (w0 := w) w.heap.size rfl (.tmp 47) (.tmp 49) 23 43 (.int .u64 0) 8 rfl Tryd.underlying23 info43 rfl (by decide) (by omega) u5 x5_1 (IntKind.u64.wrap ((IntKind.u64.wrap (t590 + t591)) + x6_1)) [.int .u64 (IntKind.u64.wrap ((IntKind.u64.wrap (t590 + t591)) + x6_1))] (fun _ => True) (fun _ => False) rfl rfl ?aP (fun _ hk => hk.elim) ?aF ?aO ?aB ?aS ?aL ?_; (case aP => exact rfl); (case aB => exact bq); (case aF => exact (fun _ _ => trivial)); (case aO => exact (ru HO_5.out)); (case aS => exact (below_size bq)); (case aL => have := LMc19.out; omega); intro v605 w20 ho hb hg hat; rw [← Ny604.out] at ho; have n0_ := zA (hb); have n1_ := zA (ho); clear HB; clear HO_5; have HB := n0_; have HO606 := n1_; clear n0_ n1_; clear ho hb hg hat))
    (try simp only [← hji3])
    go_roundg k1
    case measure => have := HK1.out; omega
    case rel => exact ⟨(y604), (0), (wrap64 (x7_1 + 1)), zi, zi, (by first | exact H' | (simp only [hji3]; exact H') | (simp only [hji3] at H' ⊢; exact H')), ⟨by have := HK1.out; omega⟩, ⟨ru HO606.out⟩, ⟨bq⟩⟩
   rw [if_neg c4] at H
   have c4b0 := decide_eq_false c4
   clear c4
   replace H := dn H
   obtain ⟨c21, H⟩ := H
   have LMc21 := zA c21
   clear c21
   obtain ⟨y584, hy584⟩ : ∃ y_ : List Int, y_ = (x5_1 ++ [x6_1]) := ⟨_, rfl⟩
   replace H : ((ulpref03_Norm.f k1 y584).bind fun t587 => (some t587)) = some r := zR hy584 H
   have Ny584 := zA hy584
   clear hy584
   obtain ⟨t587, A22, H⟩ := zh H
   obtain rfl := Option.some.inj H
   go_wp2_with (first | ((with_reducible refine gate_builtin (b := .append) (xs := #[.tmp 51, .tmp 53]) rfl ?_); at_builtin; refine R_append (Kd.int .u64) (w0 := w) w.heap.size rfl (.tmp 51) (.tmp 53) 23 43 (.int .u64 0) 8 rfl Tryd.underlying23 info43 rfl (by decide) (by omega) u5 x5_1 x6_1 [.int .u64 x6_1] (fun _ => True) (fun _ => False) rfl rfl ?aP (fun _ hk => hk.elim) ?aF ?aO ?aB ?aS ?aL ?_; (case aP => exact rfl); (case aB => exact bq); (case aF => exact (fun _ _ => trivial)); (case aO => exact (ru HO_5.out)); (case aS => exact (below_size bq)); (case aL => have := LMc21.out; omega); intro v585 w23 ho hb hg hat; rw [← Ny584.out] at ho; have n0_ := zA (hb); have n1_ := zA (ho); clear HB; clear HO_5; have HB := n0_; have HO586 := n1_; clear n0_ n1_; clear ho hb hg hat; obtain ⟨Ao24, co24, eo24⟩ := R_slice HO586.out; subst eo24) | ((with_reducible refine zG 74 rfl ?_); refine zL (some 55) rfl rfl Tryd.func74 #[.slice Ao24 y584.length co24] rfl ?_; (with_reducible refine (ulpref03_Norm.calls k1 _ _ y584 t587 _ ?side1 ?side2 A22.out).mono ?_); (case side1 => exact zk (R_reads' HO586.out).2.2); (case side2 => exact (R_reads' HO586.out).2.1); rintro e w25 ⟨v588, rfl, ho0, hb⟩; refine ⟨_, rfl, ?_⟩; have HO589 := zA (R_lower (R_new' ho0 (R_lt (ru HO586.out))) (below_size bq)); replace HO586 := zA (R_elder' (ru HO586.out) (R_base ho0) hb); replace HB := ze hb; (try clear ho0)))
   go_ret
   exact ⟨_, by first | rfl | (simp [errW_none, errW_some] <;> rfl) | (simp only [← hji3]; first | rfl | (simp [errW_none, errW_some] <;> rfl)) | (simp [*, errW_none, errW_some] <;> rfl), ru (R_mono HO589.out (fun _ hk => trivial)), bq⟩
def ulpref03_Cmp.l0 : Nat → List Int → List Int → Int → Option (Int)
 | 0, _, _, _ => none
 | k + 1, x0, x1, x5 => if x5 ≥ 0 then ((ulpref03_word.f x0 x5).bind fun t607 => ((ulpref03_word.f x1 x5).bind fun t608 => (if t607 < t608 then (some (-1)) else (if t607 > t608 then (some 1) else (ulpref03_Cmp.l0 k x0 x1 (wrap64 (x5 - 1))))))) else (some 0)
def ulpref03_Cmp.f (k : Nat) (l0 : List Int) (l1 : List Int) : Option (Int) := ulpref03_Cmp.l0 k l0 l1 (wrap64 ((mx (l0.length : Int) (l1.length : Int)) - 1))
set_option maxHeartbeats 8000000 in
set_option maxRecDepth 100000 in
theorem ulpref03_Cmp.calls (k : Nat) (A0 : Option Addr) (c0 : Nat) (l0 : List Int) (A1 : Option Addr) (c1 : Nat) (l1 : List Int) (r : Int) (w : World) (hr0 : Kd.C (Kd.int .u64) w A0 l0.length l0) (hc0 : l0.length ≤ c0) (hr1 : Kd.C (Kd.int .u64) w A1 l1.length l1) (hc1 : l1.length ≤ c1) (h : ulpref03_Cmp.f k l0 l1 = some r) :
  Calls Tryd.prog 120 #[.slice A0 l0.length c0, .slice A1 l1.length c1] w fun e w' => e = .returned (.int .i64 r) ∧ Below w.heap.size w w' := by
 have HR0 := zA hr0
 have HC0 := zA hc0
 clear hr0 hc0
 have HR1 := zA hr1
 have HC1 := zA hc1
 clear hr1 hc1
 have HB := zA (Below.refl w.heap.size w)
 have H : (ulpref03_Cmp.l0 k l0 l1 (wrap64 ((mx (l0.length : Int) (l1.length : Int)) - 1))) = some r := h
 clear h
 obtain ⟨ji3, hji3⟩ : ∃ j_ : Int, (mx (l0.length : Int) (l1.length : Int)) = j_ := ⟨_, rfl⟩
 replace H : (ulpref03_Cmp.l0 k l0 l1 (wrap64 ((ji3) - 1))) = some r := zQ hji3 H
 (try (have hji3l : 0 ≤ ji3 := by (rw [← hji3]; unfold mx; (repeat' split) <;> omega)))
 (try (have hji3m : 0 ≤ ji3 := by omega))
 have hji3_ : (if (l0.length : Int) < (l1.length : Int) then (l1.length : Int) else (l0.length : Int)) = ji3 := hji3
 have hji3n : (if l0.length < l1.length then (l1.length : Int) else (l0.length : Int)) = ji3 := by rw [← hji3_]; (repeat' split) <;> omega
 have H' := zA H
 clear H
 go_enter Tryd.func120, Tryd.ntmps120
 go_wp2
 go_loopg [5] k (fun kq v5 w' => ∃ (x5_1 : Int), v5 = .int .i64 x5_1 ∧ Aside0 (ulpref03_Cmp.l0 kq l0 l1 x5_1 = some r) ∧ Aside0 (kq ≤ k) ∧ Aside0 (Below w.heap.size w w'))
 case atStart => exact ⟨(wrap64 ((ji3) - 1)), (by first | rfl | (simp; done) | (simp only [← hji3] <;> (first | rfl | simp)) | (simp [*]; done)), H', ⟨Nat.le_refl _⟩, ⟨bq⟩⟩
 case round =>
  clear H'
  try clear c1
  obtain ⟨x5_1, rfl, HA, HK1, HB⟩ := hrel
  cases gk with
  | zero => exact absurd HA.out (by simp [ulpref03_Cmp.l0])
  | succ k1 =>
   have H := HA.out
   clear HA
   simp only [ulpref03_Cmp.l0] at H
   by_cases c4 : x5_1 ≥ 0
   ·rw [if_pos c4] at H
    have c4b0 := decide_eq_true c4
    clear c4
    obtain ⟨t607, A5, H⟩ := zh H
    obtain ⟨t608, A6, H⟩ := zh H
    by_cases c7 : t607 < t608
    ·rw [if_pos c7] at H
     have c7b0 := decide_eq_true c7
     clear c7
     obtain rfl := Option.some.inj H
     go_wp2_with (first | ((with_reducible refine zG 137 rfl ?_); refine zL (some 20) rfl rfl Tryd.func137 #[.slice A0 l0.length c0, .int .i64 x5_1] rfl ?_; (with_reducible refine (ulpref03_word.calls _ _ l0 x5_1 t607 _ ?side1 ?side2 A5.out).mono ?_); (case side1 => exact zk (C_below HR0.out HB.out)); (case side2 => exact HC0.out); rintro e w' ⟨rfl, ⟨nd, rfl⟩⟩; refine ⟨_, rfl, ?_⟩) | ((with_reducible refine zG 137 rfl ?_); refine zL (some 23) rfl rfl Tryd.func137 #[.slice A1 l1.length c1, .int .i64 x5_1] rfl ?_; (with_reducible refine (ulpref03_word.calls _ _ l1 x5_1 t608 _ ?side1 ?side2 A6.out).mono ?_); (case side1 => exact zk (C_below HR1.out bq)); (case side2 => exact HC1.out); rintro e w' ⟨rfl, ⟨nd, rfl⟩⟩; refine ⟨_, rfl, ?_⟩))
     go_ret
     exact ⟨by first | rfl | (simp [errW_none, errW_some] <;> rfl) | (simp only [← hji3]; first | rfl | (simp [errW_none, errW_some] <;> rfl)) | (simp [*, errW_none, errW_some] <;> rfl), bq⟩
    rw [if_neg c7] at H
    have c7b0 := decide_eq_false c7
    clear c7
    by_cases c8 : t607 > t608
    ·rw [if_pos c8] at H
     have c8b0 := decide_eq_true c8
     clear c8
     obtain rfl := Option.some.inj H
     go_wp2_with (first | ((with_reducible refine zG 137 rfl ?_); refine zL (some 20) rfl rfl Tryd.func137 #[.slice A0 l0.length c0, .int .i64 x5_1] rfl ?_; (with_reducible refine (ulpref03_word.calls _ _ l0 x5_1 t607 _ ?side1 ?side2 A5.out).mono ?_); (case side1 => exact zk (C_below HR0.out HB.out)); (case side2 => exact HC0.out); rintro e w' ⟨rfl, ⟨nd, rfl⟩⟩; refine ⟨_, rfl, ?_⟩) | ((with_reducible refine zG 137 rfl ?_); refine zL (some 23) rfl rfl Tryd.func137 #[.slice A1 l1.length c1, .int .i64 x5_1] rfl ?_; (with_reducible refine (ulpref03_word.calls _ _ l1 x5_1 t608 _ ?side1 ?side2 A6.out).mono ?_); (case side1 => exact zk (C_below HR1.out bq)); (case side2 => exact HC1.out); rintro e w' ⟨rfl, ⟨nd, rfl⟩⟩; refine ⟨_, rfl, ?_⟩))
     go_ret
     exact ⟨by first | rfl | (simp [errW_none, errW_some] <;> rfl) | (simp only [← hji3]; first | rfl | (simp [errW_none, errW_some] <;> rfl)) | (simp [*, errW_none, errW_some] <;> rfl), bq⟩
    rw [if_neg c8] at H
    have c8b0 := decide_eq_false c8
    clear c8
    have H' := zA H
    clear H
    go_wp2_with (first | ((with_reducible refine zG 137 rfl ?_); refine zL (some 20) rfl rfl Tryd.func137 #[.slice A0 l0.length c0, .int .i64 x5_1] rfl ?_; (with_reducible refine (ulpref03_word.calls _ _ l0 x5_1 t607 _ ?side1 ?side2 A5.out).mono ?_); (case side1 => exact zk (C_below HR0.out HB.out)); (case side2 => exact HC0.out); rintro e w' ⟨rfl, ⟨nd, rfl⟩⟩; refine ⟨_, rfl, ?_⟩) | ((with_reducible refine zG 137 rfl ?_); refine zL (some 23) rfl rfl Tryd.func137 #[.slice A1 l1.length c1, .int .i64 x5_1] rfl ?_; (with_reducible refine (ulpref03_word.calls _ _ l1 x5_1 t608 _ ?side1 ?side2 A6.out).mono ?_); (case side1 => exact zk (C_below HR1.out bq)); (case side2 => exact HC1.out); rintro e w' ⟨rfl, ⟨nd, rfl⟩⟩; refine ⟨_, rfl, ?_⟩))
    go_roundg k1
    case measure => have := HK1.out; omega
    case rel => exact ⟨(wrap64 (x5_1 - 1)), zi, (by first | exact H' | (simp only [hji3]; exact H') | (simp only [hji3] at H' ⊢; exact H')), ⟨by have := HK1.out; omega⟩, ⟨bq⟩⟩
   rw [if_neg c4] at H
   have c4b0 := decide_eq_false c4
   clear c4
   obtain rfl := Option.some.inj H
   go_wp2
   go_ret
   exact ⟨by first | rfl | (simp [errW_none, errW_some] <;> rfl) | (simp only [← hji3]; first | rfl | (simp [errW_none, errW_some] <;> rfl)) | (simp [*, errW_none, errW_some] <;> rfl), bq⟩
def ulpref03_Sub.l0 : Nat → List Int → List Int → List Int → Int → Int → Option (List Int)
 | 0, _, _, _, _, _ => none
 | k + 1, x0, x1, x5, x6, x7 => if x7 < (mx (x0.length : Int) (x1.length : Int)) then ((ulpref03_word.f x0 x7).bind fun t612 => ((ulpref03_word.f x1 x7).bind fun t613 => (if t612 < t613 then (if x5.length < 17592186044416 then (ulpref03_Sub.l0 k x0 x1 (x5 ++ [IntKind.u64.wrap ((IntKind.u64.wrap (t612 - t613)) - x6)]) 1 (wrap64 (x7 + 1))) else (none)) else (if t612 = t613 then (if x6 = 1 then (if x5.length < 17592186044416 then (ulpref03_Sub.l0 k x0 x1 (x5 ++ [IntKind.u64.wrap ((IntKind.u64.wrap (t612 - t613)) - x6)]) 1 (wrap64 (x7 + 1))) else (none)) else (if x5.length < 17592186044416 then (ulpref03_Sub.l0 k x0 x1 (x5 ++ [IntKind.u64.wrap ((IntKind.u64.wrap (t612 - t613)) - x6)]) 0 (wrap64 (x7 + 1))) else (none))) else (if x5.length < 17592186044416 then (ulpref03_Sub.l0 k x0 x1 (x5 ++ [IntKind.u64.wrap ((IntKind.u64.wrap (t612 - t613)) - x6)]) 0 (wrap64 (x7 + 1))) else (none)))))) else ((ulpref03_Norm.f k x5).bind fun t609 => (some t609))
def ulpref03_Sub.f (k : Nat) (l0 : List Int) (l1 : List Int) : Option (List Int) := ulpref03_Sub.l0 k l0 l1 ([] : List Int) 0 0
set_option maxHeartbeats 8000000 in
set_option maxRecDepth 100000 in
theorem ulpref03_Sub.calls (k : Nat) (A0 : Option Addr) (c0 : Nat) (l0 : List Int) (A1 : Option Addr) (c1 : Nat) (l1 : List Int) (r : List Int) (w : World) (hr0 : Kd.C (Kd.int .u64) w A0 l0.length l0) (hc0 : l0.length ≤ c0) (hr1 : Kd.C (Kd.int .u64) w A1 l1.length l1) (hc1 : l1.length ≤ c1) (h : ulpref03_Sub.f k l0 l1 = some r) :
  Calls Tryd.prog 121 #[.slice A0 l0.length c0, .slice A1 l1.length c1] w fun e w' => ∃ v0_ : Value, e = .returned (v0_) ∧ Kd.R (Kd.int .u64) 43 w' w.heap.size (fun _ => True) v0_ r ∧ Below w.heap.size w w' := by
 have HR0 := zA hr0
 have HC0 := zA hc0
 clear hr0 hc0
 have HR1 := zA hr1
 have HC1 := zA hc1
 clear hr1 hc1
 have HB := zA (Below.refl w.heap.size w)
 have H : (ulpref03_Sub.l0 k l0 l1 ([] : List Int) 0 0) = some r := h
 clear h
 have H' := zA H
 clear H
 go_enter Tryd.func121, Tryd.ntmps121
 go_wp2
 go_loopg [5, 6, 7] k (fun kq v5 v6 v7 w' => ∃ (x5_1 : List Int) (x6_1 : Int) (x7_1 : Int), v6 = .int .u64 x6_1 ∧ v7 = .int .i64 x7_1 ∧ Aside0 (ulpref03_Sub.l0 kq l0 l1 x5_1 x6_1 x7_1 = some r) ∧ Aside0 (kq ≤ k) ∧ Aside0 (Kd.R (Kd.int .u64) 43 w' w.heap.size (fun _ => True) v5 x5_1) ∧ Aside0 (Below w.heap.size w w'))
 case atStart => exact ⟨(([] : List Int)), (0), (0), zi, zi, H', ⟨Nat.le_refl _⟩, ⟨by first | exact R_nil _ _ _ _ _ | exact Kd.N_nil _ _ _ _ _ | exact V_nil _ _ _ _ _ | exact Kd.Q_nil _ _ _ _ _ | exact Kd.S_nil _ _ _ _ _⟩, ⟨bq⟩⟩
 case round =>
  clear H'
  try clear c1
  obtain ⟨x5_1, x6_1, x7_1, rfl, rfl, HA, HK1, HO_5, HB⟩ := hrel
  cases gk with
  | zero => exact absurd HA.out (by simp [ulpref03_Sub.l0])
  | succ k1 =>
   have H := HA.out
   clear HA
   simp only [ulpref03_Sub.l0] at H
   obtain ⟨ji3, hji3⟩ : ∃ j_ : Int, (mx (l0.length : Int) (l1.length : Int)) = j_ := ⟨_, rfl⟩
   replace H : (if x7_1 < (ji3) then ((ulpref03_word.f l0 x7_1).bind fun t612 => ((ulpref03_word.f l1 x7_1).bind fun t613 => (if t612 < t613 then (if x5_1.length < 17592186044416 then (ulpref03_Sub.l0 k1 l0 l1 (x5_1 ++ [IntKind.u64.wrap ((IntKind.u64.wrap (t612 - t613)) - x6_1)]) 1 (wrap64 (x7_1 + 1))) else (none)) else (if t612 = t613 then (if x6_1 = 1 then (if x5_1.length < 17592186044416 then (ulpref03_Sub.l0 k1 l0 l1 (x5_1 ++ [IntKind.u64.wrap ((IntKind.u64.wrap (t612 - t613)) - x6_1)]) 1 (wrap64 (x7_1 + 1))) else (none)) else (if x5_1.length < 17592186044416 then (ulpref03_Sub.l0 k1 l0 l1 (x5_1 ++ [IntKind.u64.wrap ((IntKind.u64.wrap (t612 - t613)) - x6_1)]) 0 (wrap64 (x7_1 + 1))) else (none))) else (if x5_1.length < 17592186044416 then (ulpref03_Sub.l0 k1 l0 l1 (x5_1 ++ [IntKind.u64.wrap ((IntKind.u64.wrap (t612 - t613)) - x6_1)]) 0 (wrap64 (x7_1 + 1))) else (none)))))) else ((ulpref03_Norm.f k1 x5_1).bind fun t609 => (some t609))) = some r := zQ hji3 H
   (try (have hji3l : 0 ≤ ji3 := by (rw [← hji3]; unfold mx; (repeat' split) <;> omega)))
   (try (have hji3m : 0 ≤ ji3 := by omega))
   have hji3_ : (if (l0.length : Int) < (l1.length : Int) then (l1.length : Int) else (l0.length : Int)) = ji3 := hji3
   have hji3n : (if l0.length < l1.length then (l1.length : Int) else (l0.length : Int)) = ji3 := by rw [← hji3_]; (repeat' split) <;> omega
   by_cases c4 : x7_1 < (ji3)
   ·rw [if_pos c4] at H
    have c4b0 := decide_eq_true c4
    clear c4
    obtain ⟨t612, A5, H⟩ := zh H
    obtain ⟨t613, A6, H⟩ := zh H
    by_cases c7 : t612 < t613
    ·rw [if_pos c7] at H
     have c7b0 := decide_eq_true c7
     clear c7
     replace H := dn H
     obtain ⟨c8, H⟩ := H
     have LMc8 := zA c8
     clear c8
     obtain ⟨y614, hy614⟩ : ∃ y_ : List Int, y_ = (x5_1 ++ [IntKind.u64.wrap ((IntKind.u64.wrap (t612 - t613)) - x6_1)]) := ⟨_, rfl⟩
     replace H : (ulpref03_Sub.l0 k1 l0 l1 y614 1 (wrap64 (x7_1 + 1))) = some r := zR hy614 H
     have Ny614 := zA hy614
     clear hy614
     have H' := zA H
     clear H
     go_wp2_with (first | ((with_reducible refine zG 137 rfl ?_); refine zL (some 22) rfl rfl Tryd.func137 #[.slice A0 l0.length c0, .int .i64 x7_1] rfl ?_; (with_reducible refine (ulpref03_word.calls _ _ l0 x7_1 t612 _ ?side1 ?side2 A5.out).mono ?_); (case side1 => exact zk (C_below HR0.out HB.out)); (case side2 => exact HC0.out); rintro e w' ⟨rfl, ⟨nd, rfl⟩⟩; refine ⟨_, rfl, ?_⟩) | ((with_reducible refine zG 137 rfl ?_); refine zL (some 25) rfl rfl Tryd.func137 #[.slice A1 l1.length c1, .int .i64 x7_1] rfl ?_; (with_reducible refine (ulpref03_word.calls _ _ l1 x7_1 t613 _ ?side1 ?side2 A6.out).mono ?_); (case side1 => exact zk (C_below HR1.out bq)); (case side2 => exact HC1.out); rintro e w' ⟨rfl, ⟨nd, rfl⟩⟩; refine ⟨_, rfl, ?_⟩) | ((with_reducible refine gate_builtin (b := .append) (xs := #[.tmp 43, .tmp 45]) rfl ?_); at_builtin; refine R_append (Kd.int .u64) (w0 := w) w.heap.size rfl (.tmp 43) (.tmp 45) 23 43 (.int .u64 0) 8 rfl Tryd.underlying23 info43 rfl (by decide) (by omega) u5 x5_1 (IntKind.u64.wrap ((IntKind.u64.wrap (t612 - t613)) - x6_1)) [.int .u64 (IntKind.u64.wrap ((IntKind.u64.wrap (t612 - t613)) - x6_1))] (fun _ => True) (fun _ => False) rfl rfl ?aP (fun _ hk => hk.elim) ?aF ?aO ?aB ?aS ?aL ?_; (case aP => exact rfl); (case aB => exact bq); (case aF => exact (fun _ _ => trivial)); (case aO => exact (ru HO_5.out)); (case aS => exact (below_size bq)); (case aL => have := LMc8.out; omega); intro v615 w9 ho hb hg hat; rw [← Ny614.out] at ho; have n0_ := zA (hb); have n1_ := zA (ho); clear HB; clear HO_5; have HB := n0_; have HO616 := n1_; clear n0_ n1_; clear ho hb hg hat))
     (try simp only [← hji3])
     go_roundg k1
     case measure => have := HK1.out; omega
     case rel => exact ⟨(y614), (1), (wrap64 (x7_1 + 1)), zi, zi, (by first | exact H' | (simp only [hji3]; exact H') | (simp only [hji3] at H' ⊢; exact H')), ⟨by have := HK1.out; omega⟩, ⟨ru HO616.out⟩, ⟨bq⟩⟩
    rw [if_neg c7] at H
    have c7b0 := decide_eq_false c7
    clear c7
    by_cases c10 : t612 = t613
    ·rw [if_pos c10] at H
     have c10b0 := beq_iff_eq.mpr c10
     have c10b1 := bne_eq_false_iff_eq.mpr c10
     clear c10
     by_cases c11 : x6_1 = 1
     ·rw [if_pos c11] at H
      have c11b0 := beq_iff_eq.mpr c11
      have c11b1 := bne_eq_false_iff_eq.mpr c11
      clear c11
      replace H := dn H
      obtain ⟨c12, H⟩ := H
      have LMc12 := zA c12
      clear c12
      obtain ⟨y617, hy617⟩ : ∃ y_ : List Int, y_ = (x5_1 ++ [IntKind.u64.wrap ((IntKind.u64.wrap (t612 - t613)) - x6_1)]) := ⟨_, rfl⟩
      replace H : (ulpref03_Sub.l0 k1 l0 l1 y617 1 (wrap64 (x7_1 + 1))) = some r := zR hy617 H
      have Ny617 := zA hy617
      clear hy617
      have H' := zA H
      clear H
      go_wp2_with (first | ((with_reducible refine zG 137 rfl ?_); refine zL (some 22) rfl rfl Tryd.func137 #[.slice A0 l0.length c0, .int .i64 x7_1] rfl ?_; (with_reducible refine (ulpref03_word.calls _ _ l0 x7_1 t612 _ ?side1 ?side2 A5.out).mono ?_); (case side1 => exact zk (C_below HR0.out HB.out)); (case side2 => exact HC0.out); rintro e w' ⟨rfl, ⟨nd, rfl⟩⟩; refine ⟨_, rfl, ?_⟩) | ((with_reducible refine zG 137 rfl ?_); refine zL (some 25) rfl rfl Tryd.func137 #[.slice A1 l1.length c1, .int .i64 x7_1] rfl ?_; (with_reducible refine (ulpref03_word.calls _ _ l1 x7_1 t613 _ ?side1 ?side2 A6.out).mono ?_); (case side1 => exact zk (C_below HR1.out bq)); (case side2 => exact HC1.out); rintro e w' ⟨rfl, ⟨nd, rfl⟩⟩; refine ⟨_, rfl, ?_⟩) | ((with_reducible refine gate_builtin (b := .append) (xs := #[.tmp 43, .tmp 45]) rfl ?_); at_builtin; refine R_append (Kd.int .u64) (w0 := w) w.heap.size rfl (.tmp 43) (.tmp 45) 23 43 (.int .u64 0) 8 rfl Tryd.underlying23 info43 rfl (by decide) (by omega) u5 x5_1 (IntKind.u64.wrap ((IntKind.u64.wrap (t612 - t613)) - x6_1)) [.int .u64 (IntKind.u64.wrap ((IntKind.u64.wrap (t612 - t613)) - x6_1))] (fun _ => True) (fun _ => False) rfl rfl ?aP (fun _ hk => hk.elim) ?aF ?aO ?aB ?aS ?aL ?_; (case aP => exact rfl); (case aB => exact bq); (case aF => exact (fun _ _ => trivial)); (case aO => exact (ru HO_5.out)); (case aS => exact (below_size bq)); (case aL => have := LMc12.out; omega); intro v618 w13 ho hb hg hat; rw [← Ny617.out] at ho; have n0_ := zA (hb); have n1_ := zA (ho); clear HB; clear HO_5; have HB := n0_; have HO619 := n1_; clear n0_ n1_; clear ho hb hg hat))
      (try simp only [← hji3])
      go_roundg k1
      case measure => have := HK1.out; omega
      case rel => exact ⟨(y617), (1), (wrap64 (x7_1 + 1)), zi, zi, (by first | exact H' | (simp only [hji3]; exact H') | (simp only [hji3] at H' ⊢; exact H')), ⟨by have := HK1.out; omega⟩, ⟨ru HO619.out⟩, ⟨bq⟩⟩
     rw [if_neg c11] at H
     have c11b0 := beq_eq_false_iff_ne.mpr c11
     have c11b1 := bne_iff_ne.mpr c11
     replace H := dn H
     obtain ⟨c14, H⟩ := H
     have LMc14 := zA c14
     clear c14
     obtain ⟨y620, hy620⟩ : ∃ y_ : List Int, y_ = (x5_1 ++ [IntKind.u64.wrap ((IntKind.u64.wrap (t612 - t613)) - x6_1)]) := ⟨_, rfl⟩
     replace H : (ulpref03_Sub.l0 k1 l0 l1 y620 0 (wrap64 (x7_1 + 1))) = some r := zR hy620 H
     have Ny620 := zA hy620
     clear hy620
     have H' := zA H
     clear H
     go_wp2_with (first | ((with_reducible refine zG 137 rfl ?_); refine zL (some 22) rfl rfl Tryd.func137 #[.slice A0 l0.length c0, .int .i64 x7_1] rfl ?_; (with_reducible refine (ulpref03_word.calls _ _ l0 x7_1 t612 _ ?side1 ?side2 A5.out).mono ?_); (case side1 => exact zk (C_below HR0.out HB.out)); (case side2 => exact HC0.out); rintro e w' ⟨rfl, ⟨nd, rfl⟩⟩; refine ⟨_, rfl, ?_⟩) | ((with_reducible refine zG 137 rfl ?_); refine zL (some 25) rfl rfl Tryd.func137 #[.slice A1 l1.length c1, .int .i64 x7_1] rfl ?_; (with_reducible refine (ulpref03_word.calls _ _ l1 x7_1 t613 _ ?side1 ?side2 A6.out).mono ?_); (case side1 => exact zk (C_below HR1.out bq)); (case side2 => exact HC1.out); rintro e w' ⟨rfl, ⟨nd, rfl⟩⟩; refine ⟨_, rfl, ?_⟩) | ((with_reducible refine gate_builtin (b := .append) (xs := #[.tmp 43, .tmp 45]) rfl ?_); at_builtin; refine R_append (Kd.int .u64) (w0 := w) w.heap.size rfl (.tmp 43) (.tmp 45) 23 43 (.int .u64 0) 8 rfl Tryd.underlying23 info43 rfl (by decide) (by omega) u5 x5_1 (IntKind.u64.wrap ((IntKind.u64.wrap (t612 - t613)) - x6_1)) [.int .u64 (IntKind.u64.wrap ((IntKind.u64.wrap (t612 - t613)) - x6_1))] (fun _ => True) (fun _ => False) rfl rfl ?aP (fun _ hk => hk.elim) ?aF ?aO ?aB ?aS ?aL ?_; (case aP => exact rfl); (case aB => exact bq); (case aF => exact (fun _ _ => trivial)); (case aO => exact (ru HO_5.out)); (case aS => exact (below_size bq)); (case aL => have := LMc14.out; omega); intro v621 w15 ho hb hg hat; rw [← Ny620.out] at ho; have n0_ := zA (hb); have n1_ := zA (ho); clear HB; clear HO_5; have HB := n0_; have HO622 := n1_; clear n0_ n1_; clear ho hb hg hat))
     (try simp only [← hji3])
     go_roundg k1
     case measure => have := HK1.out; omega
     case rel => exact ⟨(y620), (0), (wrap64 (x7_1 + 1)), zi, zi, (by first | exact H' | (simp only [hji3]; exact H') | (simp only [hji3] at H' ⊢; exact H')), ⟨by have := HK1.out; omega⟩, ⟨ru HO622.out⟩, ⟨bq⟩⟩
    rw [if_neg c10] at H
    have c10b0 := beq_eq_false_iff_ne.mpr c10
    have c10b1 := bne_iff_ne.mpr c10
    replace H := dn H
    obtain ⟨c16, H⟩ := H
    have LMc16 := zA c16
    clear c16
    obtain ⟨y623, hy623⟩ : ∃ y_ : List Int, y_ = (x5_1 ++ [IntKind.u64.wrap ((IntKind.u64.wrap (t612 - t613)) - x6_1)]) := ⟨_, rfl⟩
    replace H : (ulpref03_Sub.l0 k1 l0 l1 y623 0 (wrap64 (x7_1 + 1))) = some r := zR hy623 H
    have Ny623 := zA hy623
    clear hy623
    have H' := zA H
    clear H
    go_wp2_with (first | ((with_reducible refine zG 137 rfl ?_); refine zL (some 22) rfl rfl Tryd.func137 #[.slice A0 l0.length c0, .int .i64 x7_1] rfl ?_; (with_reducible refine (ulpref03_word.calls _ _ l0 x7_1 t612 _ ?side1 ?side2 A5.out).mono ?_); (case side1 => exact zk (C_below HR0.out HB.out)); (case side2 => exact HC0.out); rintro e w' ⟨rfl, ⟨nd, rfl⟩⟩; refine ⟨_, rfl, ?_⟩) | ((with_reducible refine zG 137 rfl ?_); refine zL (some 25) rfl rfl Tryd.func137 #[.slice A1 l1.length c1, .int .i64 x7_1] rfl ?_; (with_reducible refine (ulpref03_word.calls _ _ l1 x7_1 t613 _ ?side1 ?side2 A6.out).mono ?_); (case side1 => exact zk (C_below HR1.out bq)); (case side2 => exact HC1.out); rintro e w' ⟨rfl, ⟨nd, rfl⟩⟩; refine ⟨_, rfl, ?_⟩) | ((with_reducible refine gate_builtin (b := .append) (xs := #[.tmp 43, .tmp 45]) rfl ?_); at_builtin; refine R_append (Kd.int .u64) (w0 := w) w.heap.size rfl (.tmp 43) (.tmp 45) 23 43 (.int .u64 0) 8 rfl Tryd.underlying23 info43 rfl (by decide) (by omega) u5 x5_1 (IntKind.u64.wrap ((IntKind.u64.wrap (t612 - t613)) - x6_1)) [.int .u64 (IntKind.u64.wrap ((IntKind.u64.wrap (t612 - t613)) - x6_1))] (fun _ => True) (fun _ => False) rfl rfl ?aP (fun _ hk => hk.elim) ?aF ?aO ?aB ?aS ?aL ?_; (case aP => exact rfl); (case aB => exact bq); (case aF => exact (fun _ _ => trivial)); (case aO => exact (ru HO_5.out)); (case aS => exact (below_size bq)); (case aL => have := LMc16.out; omega); intro v624 w17 ho hb hg hat; rw [← Ny623.out] at ho; have n0_ := zA (hb); have n1_ := zA (ho); clear HB; clear HO_5; have HB := n0_; have HO625 := n1_; clear n0_ n1_; clear ho hb hg hat))
    (try simp only [← hji3])
    go_roundg k1
    case measure => have := HK1.out; omega
    case rel => exact ⟨(y623), (0), (wrap64 (x7_1 + 1)), zi, zi, (by first | exact H' | (simp only [hji3]; exact H') | (simp only [hji3] at H' ⊢; exact H')), ⟨by have := HK1.out; omega⟩, ⟨ru HO625.out⟩, ⟨bq⟩⟩
   rw [if_neg c4] at H
   have c4b0 := decide_eq_false c4
   clear c4
   obtain ⟨t609, A18, H⟩ := zh H
   obtain rfl := Option.some.inj H
   obtain ⟨Ao19, co19, eo19⟩ := R_slice HO_5.out
   subst eo19
   go_wp2_with (first | ((with_reducible refine zG 74 rfl ?_); refine zL (some 48) rfl rfl Tryd.func74 #[.slice Ao19 x5_1.length co19] rfl ?_; (with_reducible refine (ulpref03_Norm.calls k1 _ _ x5_1 t609 _ ?side1 ?side2 A18.out).mono ?_); (case side1 => exact zk (R_reads' HO_5.out).2.2); (case side2 => exact (R_reads' HO_5.out).2.1); rintro e w20 ⟨v610, rfl, ho0, hb⟩; refine ⟨_, rfl, ?_⟩; have HO611 := zA (R_lower (R_new' ho0 (R_lt (ru HO_5.out))) (below_size bq)); replace HO_5 := zA (R_elder' (ru HO_5.out) (R_base ho0) hb); replace HB := ze hb; (try clear ho0)))
   go_ret
   exact ⟨_, by first | rfl | (simp [errW_none, errW_some] <;> rfl) | (simp only [← hji3]; first | rfl | (simp [errW_none, errW_some] <;> rfl)) | (simp [*, errW_none, errW_some] <;> rfl), ru (R_mono HO611.out (fun _ hk => trivial)), bq⟩
end Go.Proofs.YtemfckibdojbbaaDoor.PAll
