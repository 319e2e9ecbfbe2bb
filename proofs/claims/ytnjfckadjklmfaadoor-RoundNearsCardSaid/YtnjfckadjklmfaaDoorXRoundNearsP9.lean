/- Printed functions, merged by a program of this session. -/
import Derived.Test.YtnjfckadjklmfaaDoorXRoundNearsP0
import Derived.Test.YtnjfckadjklmfaaDoorXRoundNearsP7
import Derived.Test.YtnjfckadjklmfaaDoorXRoundNearsP8
import Derived.Test.YtnjfckadjklmfaaDoorXRoundNearsSh
namespace Go.Proofs.YtnjfckadjklmfaaDoor.PAll
open Go.RowKit Go.Proofs.YtnjfckadjklmfaaDoorW.PrintWords Go.Proofs.YtnjfckadjklmfaaDoorW.PrintLast Go.Proofs.YtnjfckadjklmfaaDoorW.PrintMore Go.Proofs.YtnjfckadjklmfaaDoorW.PrintWords.Kd
attribute [local go_sem] max2_int min2_int max_two min_two max_three min_three max_four min_four   -- for this text's walks alone
set_option linter.unusedVariables false
set_option linter.unusedSimpArgs false
attribute [local go_sem] fld75_0 fld75_1 fld75_2 ext118 ext119
def ulpref03_Add.l0 : Nat → List Int → List Int → List Int → Int → Int → Option (List Int)
 | 0, _, _, _, _, _ => none
 | k + 1, x0, x1, x5, x6, x7 => if x7 < (mx (x0.length : Int) (x1.length : Int)) then ((ulpref03_word.f x0 x7).bind fun t325 => ((ulpref03_word.f x1 x7).bind fun t326 => (if (IntKind.u64.wrap ((IntKind.u64.wrap (t325 + t326)) + x6)) < t325 then (if x5.length < 17592186044416 then (ulpref03_Add.l0 k x0 x1 (x5 ++ [IntKind.u64.wrap ((IntKind.u64.wrap (t325 + t326)) + x6)]) 1 (wrap64 (x7 + 1))) else (none)) else (if (IntKind.u64.wrap ((IntKind.u64.wrap (t325 + t326)) + x6)) = t325 then (if x6 = 1 then (if t326 > 0 then (if x5.length < 17592186044416 then (ulpref03_Add.l0 k x0 x1 (x5 ++ [IntKind.u64.wrap ((IntKind.u64.wrap (t325 + t326)) + x6)]) 1 (wrap64 (x7 + 1))) else (none)) else (if x5.length < 17592186044416 then (ulpref03_Add.l0 k x0 x1 (x5 ++ [IntKind.u64.wrap ((IntKind.u64.wrap (t325 + t326)) + x6)]) 0 (wrap64 (x7 + 1))) else (none))) else (if x5.length < 17592186044416 then (ulpref03_Add.l0 k x0 x1 (x5 ++ [IntKind.u64.wrap ((IntKind.u64.wrap (t325 + t326)) + x6)]) 0 (wrap64 (x7 + 1))) else (none))) else (if x5.length < 17592186044416 then (ulpref03_Add.l0 k x0 x1 (x5 ++ [IntKind.u64.wrap ((IntKind.u64.wrap (t325 + t326)) + x6)]) 0 (wrap64 (x7 + 1))) else (none)))))) else (if x5.length < 17592186044416 then ((ulpref03_Norm.f k (x5 ++ [x6])).bind fun t322 => (some t322)) else (none))
def ulpref03_Add.f (k : Nat) (l0 : List Int) (l1 : List Int) : Option (List Int) := ulpref03_Add.l0 k l0 l1 ([] : List Int) 0 0
set_option maxHeartbeats 8000000 in
set_option maxRecDepth 100000 in
theorem ulpref03_Add.calls (k : Nat) (A0 : Option Addr) (c0 : Nat) (l0 : List Int) (A1 : Option Addr) (c1 : Nat) (l1 : List Int) (r : List Int) (w : World) (hr0 : Kd.C (Kd.int .u64) w A0 l0.length l0) (hc0 : l0.length ≤ c0) (hr1 : Kd.C (Kd.int .u64) w A1 l1.length l1) (hc1 : l1.length ≤ c1) (h : ulpref03_Add.f k l0 l1 = some r) :
  Calls Tryd.prog 100 #[.slice A0 l0.length c0, .slice A1 l1.length c1] w fun e w' => ∃ v0_ : Value, e = .returned (v0_) ∧ Kd.R (Kd.int .u64) 26 w' w.heap.size (fun _ => True) v0_ r ∧ Below w.heap.size w w' := by
 have HR0 := zA hr0
 have HC0 := zA hc0
 clear hr0 hc0
 have HR1 := zA hr1
 have HC1 := zA hc1
 clear hr1 hc1
 have HB := zA (Below.refl w.heap.size w)
 have H : (ulpref03_Add.l0 k l0 l1 ([] : List Int) 0 0) = some r := h
 clear h
 have H' := zA H
 clear H
 go_enter Tryd.func100, Tryd.ntmps100
 go_wp2
 go_loopg [5, 6, 7] k (fun kq v5 v6 v7 w' => ∃ (x5_1 : List Int) (x6_1 : Int) (x7_1 : Int), v6 = .int .u64 x6_1 ∧ v7 = .int .i64 x7_1 ∧ Aside0 (ulpref03_Add.l0 kq l0 l1 x5_1 x6_1 x7_1 = some r) ∧ Aside0 (kq ≤ k) ∧ Aside0 (Kd.R (Kd.int .u64) 26 w' w.heap.size (fun _ => True) v5 x5_1) ∧ Aside0 (Below w.heap.size w w'))
 case atStart => exact ⟨(([] : List Int)), (0), (0), zi, zi, H', ⟨Nat.le_refl _⟩, ⟨by first | exact R_nil _ _ _ _ _ | exact Kd.N_nil _ _ _ _ _ | exact V_nil _ _ _ _ _ | exact Kd.Q_nil _ _ _ _ _ | exact Kd.S_nil _ _ _ _ _⟩, ⟨bq⟩⟩
 case round =>
  clear H'
  try clear c1
  obtain ⟨x5_1, x6_1, x7_1, rfl, rfl, HA, HK1, HO_5, HB⟩ := hrel
  cases gk with
  | zero => exact absurd HA.out (by simp [ulpref03_Add.l0])
  | succ k1 =>
   have H := HA.out
   clear HA
   simp only [ulpref03_Add.l0] at H
   obtain ⟨ji3, hji3⟩ : ∃ j_ : Int, (mx (l0.length : Int) (l1.length : Int)) = j_ := ⟨_, rfl⟩
   replace H : (if x7_1 < (ji3) then ((ulpref03_word.f l0 x7_1).bind fun t325 => ((ulpref03_word.f l1 x7_1).bind fun t326 => (if (IntKind.u64.wrap ((IntKind.u64.wrap (t325 + t326)) + x6_1)) < t325 then (if x5_1.length < 17592186044416 then (ulpref03_Add.l0 k1 l0 l1 (x5_1 ++ [IntKind.u64.wrap ((IntKind.u64.wrap (t325 + t326)) + x6_1)]) 1 (wrap64 (x7_1 + 1))) else (none)) else (if (IntKind.u64.wrap ((IntKind.u64.wrap (t325 + t326)) + x6_1)) = t325 then (if x6_1 = 1 then (if t326 > 0 then (if x5_1.length < 17592186044416 then (ulpref03_Add.l0 k1 l0 l1 (x5_1 ++ [IntKind.u64.wrap ((IntKind.u64.wrap (t325 + t326)) + x6_1)]) 1 (wrap64 (x7_1 + 1))) else (none)) else (if x5_1.length < 17592186044416 then (ulpref03_Add.l0 k1 l0 l1 (x5_1 ++ [IntKind.u64.wrap ((IntKind.u64.wrap (t325 + t326)) + x6_1)]) 0 (wrap64 (x7_1 + 1))) else (none))) else (if x5_1.length < 17592186044416 then (ulpref03_Add.l0 k1 l0 l1 (x5_1 ++ [IntKind.u64.wrap ((IntKind.u64.wrap (t325 + t326)) + x6_1)]) 0 (wrap64 (x7_1 + 1))) else (none))) else (if x5_1.length < 17592186044416 then (ulpref03_Add.l0 k1 l0 l1 (x5_1 ++ [IntKind.u64.wrap ((IntKind.u64.wrap (t325 + t326)) + x6_1)]) 0 (wrap64 (x7_1 + 1))) else (none)))))) else (if x5_1.length < 17592186044416 then ((ulpref03_Norm.f k1 (x5_1 ++ [x6_1])).bind fun t322 => (some t322)) else (none))) = some r := zQ hji3 H
   have hji3_ : (if (l0.length : Int) < (l1.length : Int) then (l1.length : Int) else (l0.length : Int)) = ji3 := hji3
   have hji3n : (if l0.length < l1.length then (l1.length : Int) else (l0.length : Int)) = ji3 := by rw [← hji3_]; (repeat' split) <;> omega
   by_cases c4 : x7_1 < (ji3)
   ·rw [if_pos c4] at H
    have c4b0 := decide_eq_true c4
    clear c4
    obtain ⟨t325, A5, H⟩ := zh H
    obtain ⟨t326, A6, H⟩ := zh H
    by_cases c7 : (IntKind.u64.wrap ((IntKind.u64.wrap (t325 + t326)) + x6_1)) < t325
    ·rw [if_pos c7] at H
     have c7b0 : decide ((IntKind.u64.wrap ((IntKind.u64.wrap (t325 + t326)) + x6_1)) < t325) = true := decide_eq_true c7
     clear c7
     replace H := dn H
     obtain ⟨c8, H⟩ := H
     have LMc8 := zA c8
     clear c8
     obtain ⟨y327, hy327⟩ : ∃ y_ : List Int, y_ = (x5_1 ++ [IntKind.u64.wrap ((IntKind.u64.wrap (t325 + t326)) + x6_1)]) := ⟨_, rfl⟩
     replace H : (ulpref03_Add.l0 k1 l0 l1 y327 1 (wrap64 (x7_1 + 1))) = some r := zR hy327 H
     have Ny327 := zA hy327
     clear hy327
     have H' := zA H
     clear H
     go_wp2_with (first | ((with_reducible refine zG 102 rfl ?_); refine zL (some 22) rfl rfl Tryd.func102 #[.slice A0 l0.length c0, .int .i64 x7_1] rfl ?_; (with_reducible refine (ulpref03_word.calls _ _ l0 x7_1 t325 _ ?side1 ?side2 A5.out).mono ?_); (case side1 => exact zk (C_below HR0.out HB.out)); (case side2 => exact HC0.out); rintro e w' ⟨rfl, ⟨nd, rfl⟩⟩; refine ⟨_, rfl, ?_⟩) | ((with_reducible refine zG 102 rfl ?_); refine zL (some 25) rfl rfl Tryd.func102 #[.slice A1 l1.length c1, .int .i64 x7_1] rfl ?_; (with_reducible refine (ulpref03_word.calls _ _ l1 x7_1 t326 _ ?side1 ?side2 A6.out).mono ?_); (case side1 => exact zk (C_below HR1.out bq)); (case side2 => exact HC1.out); rintro e w' ⟨rfl, ⟨nd, rfl⟩⟩; refine ⟨_, rfl, ?_⟩) | ((with_reducible refine gate_builtin (b := .append) (xs := #[.tmp 47, .tmp 49]) rfl ?_); at_builtin; refine R_append (Kd.int .u64) (w0 := w) w.heap.size rfl (.tmp 47) (.tmp 49) 23 26 (.int .u64 0) 8 rfl Tryd.underlying23 info26 rfl (by decide) (by omega) u5 x5_1 (IntKind.u64.wrap ((IntKind.u64.wrap (t325 + t326)) + x6_1)) [.int .u64 (IntKind.u64.wrap ((IntKind.u64.wrap (t325 + t326)) + x6_1))] (fun _ => True) (fun _ => False) rfl rfl ?aP (fun _ hk => hk.elim) ?aF ?aO ?aB ?aS ?aL ?_; (case aP => exact rfl); (case aB => exact bq); (case aF => exact (fun _ _ => trivial)); (case aO => exact (ru HO_5.out)); (case aS => exact (below_size bq)); (case aL => have := LMc8.out; omega); intro v328 w9 ho hb hg hat; rw [← Ny327.out] at ho; have n0_ := zA (hb); have n1_ := zA (ho); clear HB; clear HO_5; have HB := n0_; have HO329 := n1_; clear n0_ n1_; clear ho hb hg hat))
     (try simp only [← hji3])
     go_roundg k1
     case measure => have := HK1.out; omega
     case rel => exact ⟨(y327), (1), (wrap64 (x7_1 + 1)), zi, zi, (by first | exact H' | (simp only [hji3]; exact H') | (simp only [hji3] at H' ⊢; exact H')), ⟨by have := HK1.out; omega⟩, ⟨ru HO329.out⟩, ⟨bq⟩⟩
    rw [if_neg c7] at H
    have c7b0 : decide ((IntKind.u64.wrap ((IntKind.u64.wrap (t325 + t326)) + x6_1)) < t325) = false := decide_eq_false c7
    clear c7
    by_cases c10 : (IntKind.u64.wrap ((IntKind.u64.wrap (t325 + t326)) + x6_1)) = t325
    ·rw [if_pos c10] at H
     have c10b0 := beq_iff_eq.mpr c10
     have c10b1 := bne_eq_false_iff_eq.mpr c10
     clear c10
     by_cases c11 : x6_1 = 1
     ·rw [if_pos c11] at H
      have c11b0 := beq_iff_eq.mpr c11
      have c11b1 := bne_eq_false_iff_eq.mpr c11
      clear c11
      by_cases c12 : t326 > 0
      ·rw [if_pos c12] at H
       have c12b0 := decide_eq_true c12
       clear c12
       replace H := dn H
       obtain ⟨c13, H⟩ := H
       have LMc13 := zA c13
       clear c13
       obtain ⟨y330, hy330⟩ : ∃ y_ : List Int, y_ = (x5_1 ++ [IntKind.u64.wrap ((IntKind.u64.wrap (t325 + t326)) + x6_1)]) := ⟨_, rfl⟩
       replace H : (ulpref03_Add.l0 k1 l0 l1 y330 1 (wrap64 (x7_1 + 1))) = some r := zR hy330 H
       have Ny330 := zA hy330
       clear hy330
       have H' := zA H
       clear H
       go_wp2_with (first | ((with_reducible refine zG 102 rfl ?_); refine zL (some 22) rfl rfl Tryd.func102 #[.slice A0 l0.length c0, .int .i64 x7_1] rfl ?_; (with_reducible refine (ulpref03_word.calls _ _ l0 x7_1 t325 _ ?side1 ?side2 A5.out).mono ?_); (case side1 => exact zk (C_below HR0.out HB.out)); (case side2 => exact HC0.out); rintro e w' ⟨rfl, ⟨nd, rfl⟩⟩; refine ⟨_, rfl, ?_⟩) | ((with_reducible refine zG 102 rfl ?_); refine zL (some 25) rfl rfl Tryd.func102 #[.slice A1 l1.length c1, .int .i64 x7_1] rfl ?_; (with_reducible refine (ulpref03_word.calls _ _ l1 x7_1 t326 _ ?side1 ?side2 A6.out).mono ?_); (case side1 => exact zk (C_below HR1.out bq)); (case side2 => exact HC1.out); rintro e w' ⟨rfl, ⟨nd, rfl⟩⟩; refine ⟨_, rfl, ?_⟩) | ((with_reducible refine gate_builtin (b := .append) (xs := #[.tmp 47, .tmp 49]) rfl ?_); at_builtin; refine R_append (Kd.int .u64) (w0 := w) w.heap.size rfl (.tmp 47) (.tmp 49) 23 26 (.int .u64 0) 8 rfl Tryd.underlying23 info26 rfl (by decide) (by omega) u5 x5_1 (IntKind.u64.wrap ((IntKind.u64.wrap (t325 + t326)) + x6_1)) [.int .u64 (IntKind.u64.wrap ((IntKind.u64.wrap (t325 + t326)) + x6_1))] (fun _ => True) (fun _ => False) rfl rfl ?aP (fun _ hk => hk.elim) ?aF ?aO ?aB ?aS ?aL ?_; (case aP => exact rfl); (case aB => exact bq); (case aF => exact (fun _ _ => trivial)); (case aO => exact (ru HO_5.out)); (case aS => exact (below_size bq)); (case aL => have := LMc13.out; omega); intro v331 w14 ho hb hg hat; rw [← Ny330.out] at ho; have n0_ := zA (hb); have n1_ := zA (ho); clear HB; clear HO_5; have HB := n0_; have HO332 := n1_; clear n0_ n1_; clear ho hb hg hat))
       (try simp only [← hji3])
       go_roundg k1
       case measure => have := HK1.out; omega
       case rel => exact ⟨(y330), (1), (wrap64 (x7_1 + 1)), zi, zi, (by first | exact H' | (simp only [hji3]; exact H') | (simp only [hji3] at H' ⊢; exact H')), ⟨by have := HK1.out; omega⟩, ⟨ru HO332.out⟩, ⟨bq⟩⟩
      rw [if_neg c12] at H
      have c12b0 := decide_eq_false c12
      clear c12
      replace H := dn H
      obtain ⟨c15, H⟩ := H
      have LMc15 := zA c15
      clear c15
      obtain ⟨y333, hy333⟩ : ∃ y_ : List Int, y_ = (x5_1 ++ [IntKind.u64.wrap ((IntKind.u64.wrap (t325 + t326)) + x6_1)]) := ⟨_, rfl⟩
      replace H : (ulpref03_Add.l0 k1 l0 l1 y333 0 (wrap64 (x7_1 + 1))) = some r := zR hy333 H
      have Ny333 := zA hy333
      clear hy333
      have H' := zA H
      clear H
      go_wp2_with (first | ((with_reducible refine zG 102 rfl ?_); refine zL (some 22) rfl rfl Tryd.func102 #[.slice A0 l0.length c0, .int .i64 x7_1] rfl ?_; (with_reducible refine (ulpref03_word.calls _ _ l0 x7_1 t325 _ ?side1 ?side2 A5.out).mono ?_); (case side1 => exact zk (C_below HR0.out HB.out)); (case side2 => exact HC0.out); rintro e w' ⟨rfl, ⟨nd, rfl⟩⟩; refine ⟨_, rfl, ?_⟩) | ((with_reducible refine zG 102 rfl ?_); refine zL (some 25) rfl rfl Tryd.func102 #[.slice A1 l1.length c1, .int .i64 x7_1] rfl ?_; (with_reducible refine (ulpref03_word.calls _ _ l1 x7_1 t326 _ ?side1 ?side2 A6.out).mono ?_); (case side1 => exact zk (C_below HR1.out bq)); (case side2 => exact HC1.out); rintro e w' ⟨rfl, ⟨nd, rfl⟩⟩; refine ⟨_, rfl, ?_⟩) | ((with_reducible refine gate_builtin (b := .append) (xs := #[.tmp 47, .tmp 49]) rfl ?_); at_builtin; refine R_append (Kd.int .u64) (w0 := w) w.heap.size rfl (.tmp 47) (.tmp 49) 23 26 (.int .u64 0) 8 rfl Tryd.underlying23 info26 rfl (by decide) (by omega) u5 x5_1 (IntKind.u64.wrap ((IntKind.u64.wrap (t325 + t326)) + x6_1)) [.int .u64 (IntKind.u64.wrap ((IntKind.u64.wrap (t325 + t326)) + x6_1))] (fun _ => True) (fun _ => False) rfl rfl ?aP (fun _ hk => hk.elim) ?aF ?aO ?aB ?aS ?aL ?_; (case aP => exact rfl); (case aB => exact bq); (case aF => exact (fun _ _ => trivial)); (case aO => exact (ru HO_5.out)); (case aS => exact (below_size bq)); (case aL => have := LMc15.out; omega); intro v334 w16 ho hb hg hat; rw [← Ny333.out] at ho; have n0_ := zA (hb); have n1_ := zA (ho); clear HB; clear HO_5; have HB := n0_; have HO335 := n1_; clear n0_ n1_; clear ho hb hg hat))
      (try simp only [← hji3])
      go_roundg k1
      case measure => have := HK1.out; omega
      case rel => exact ⟨(y333), (0), (wrap64 (x7_1 + 1)), zi, zi, (by first | exact H' | (simp only [hji3]; exact H') | (simp only [hji3] at H' ⊢; exact H')), ⟨by have := HK1.out; omega⟩, ⟨ru HO335.out⟩, ⟨bq⟩⟩
     rw [if_neg c11] at H
     have c11b0 := beq_eq_false_iff_ne.mpr c11
     have c11b1 := bne_iff_ne.mpr c11
     replace H := dn H
     obtain ⟨c17, H⟩ := H
     have LMc17 := zA c17
     clear c17
     obtain ⟨y336, hy336⟩ : ∃ y_ : List Int, y_ = (x5_1 ++ [IntKind.u64.wrap ((IntKind.u64.wrap (t325 + t326)) + x6_1)]) := ⟨_, rfl⟩
     replace H : (ulpref03_Add.l0 k1 l0 l1 y336 0 (wrap64 (x7_1 + 1))) = some r := zR hy336 H
     have Ny336 := zA hy336
     clear hy336
     have H' := zA H
     clear H
     go_wp2_with (first | ((with_reducible refine zG 102 rfl ?_); refine zL (some 22) rfl rfl Tryd.func102 #[.slice A0 l0.length c0, .int .i64 x7_1] rfl ?_; (with_reducible refine (ulpref03_word.calls _ _ l0 x7_1 t325 _ ?side1 ?side2 A5.out).mono ?_); (case side1 => exact zk (C_below HR0.out HB.out)); (case side2 => exact HC0.out); rintro e w' ⟨rfl, ⟨nd, rfl⟩⟩; refine ⟨_, rfl, ?_⟩) | ((with_reducible refine zG 102 rfl ?_); refine zL (some 25) rfl rfl Tryd.func102 #[.slice A1 l1.length c1, .int .i64 x7_1] rfl ?_; (with_reducible refine (ulpref03_word.calls _ _ l1 x7_1 t326 _ ?side1 ?side2 A6.out).mono ?_); (case side1 => exact zk (C_below HR1.out bq)); (case side2 => exact HC1.out); rintro e w' ⟨rfl, ⟨nd, rfl⟩⟩; refine ⟨_, rfl, ?_⟩) | ((with_reducible refine gate_builtin (b := .append) (xs := #[.tmp 47, .tmp 49]) rfl ?_); at_builtin; refine R_append (Kd.int .u64) (w0 := w) w.heap.size rfl (.tmp 47) (.tmp 49) 23 26 (.int .u64 0) 8 rfl Tryd.underlying23 info26 rfl (by decide) (by omega) u5 x5_1 (IntKind.u64.wrap ((IntKind.u64.wrap (t325 + t326)) + x6_1)) [.int .u64 (IntKind.u64.wrap ((IntKind.u64.wrap (t325 + t326)) + x6_1))] (fun _ => True) (fun _ => False) rfl rfl ?aP (fun _ hk => hk.elim) ?aF ?aO ?aB ?aS ?aL ?_; (case aP => exact rfl); (case aB => exact bq); (case aF => exact (fun _ _ => trivial)); (case aO => exact (ru HO_5.out)); (case aS => exact (below_size bq)); (case aL => have := LMc17.out; omega); intro v337 w18 ho hb hg hat; rw [← Ny336.out] at ho; have n0_ := zA (hb); have n1_ := zA (ho); clear HB; clear HO_5; have HB := n0_; have HO338 := n1_; clear n0_ n1_; clear ho hb hg hat))
     (try simp only [← hji3])
     go_roundg k1
     case measure => have := HK1.out; omega
     case rel => exact ⟨(y336), (0), (wrap64 (x7_1 + 1)), zi, zi, (by first | exact H' | (simp only [hji3]; exact H') | (simp only [hji3] at H' ⊢; exact H')), ⟨by have := HK1.out; omega⟩, ⟨ru HO338.out⟩, ⟨bq⟩⟩
    rw [if_neg c10] at H
    have c10b0 := beq_eq_false_iff_ne.mpr c10
    have c10b1 := bne_iff_ne.mpr c10
    replace H := dn H
    obtain ⟨c19, H⟩ := H
    have LMc19 := zA c19
    clear c19
    obtain ⟨y339, hy339⟩ : ∃ y_ : List Int, y_ = (x5_1 ++ [IntKind.u64.wrap ((IntKind.u64.wrap (t325 + t326)) + x6_1)]) := ⟨_, rfl⟩
    replace H : (ulpref03_Add.l0 k1 l0 l1 y339 0 (wrap64 (x7_1 + 1))) = some r := zR hy339 H
    have Ny339 := zA hy339
    clear hy339
    have H' := zA H
    clear H
    go_wp2_with (first | ((with_reducible refine zG 102 rfl ?_); refine zL (some 22) rfl rfl Tryd.func102 #[.slice A0 l0.length c0, .int .i64 x7_1] rfl ?_; (with_reducible refine (ulpref03_word.calls _ _ l0 x7_1 t325 _ ?side1 ?side2 A5.out).mono ?_); (case side1 => exact zk (C_below HR0.out HB.out)); (case side2 => exact HC0.out); rintro e w' ⟨rfl, ⟨nd, rfl⟩⟩; refine ⟨_, rfl, ?_⟩) | ((with_reducible refine zG 102 rfl ?_); refine zL (some 25) rfl rfl Tryd.func102 #[.slice A1 l1.length c1, .int .i64 x7_1] rfl ?_; (with_reducible refine (ulpref03_word.calls _ _ l1 x7_1 t326 _ ?side1 ?side2 A6.out).mono ?_); (case side1 => exact zk (C_below HR1.out bq)); (case side2 => exact HC1.out); rintro e w' ⟨rfl, ⟨nd, rfl⟩⟩; refine ⟨_, rfl, ?_⟩) | ((with_reducible refine gate_builtin (b := .append) (xs := #[.tmp 47, .tmp 49]) rfl ?_); at_builtin; refine R_append (Kd.int .u64) (w0 := w) w.heap.size rfl (.tmp 47) (.tmp 49) 23 26 (.int .u64 0) 8 rfl Tryd.underlying23 info26 rfl (by decide) (by omega) u5 x5_1 (IntKind.u64.wrap ((IntKind.u64.wrap (t325 + t326)) + x6_1)) [.int .u64 (IntKind.u64.wrap ((IntKind.u64.wrap (t325 + t326)) + x6_1))] (fun _ => True) (fun _ => False) rfl rfl ?aP (fun _ hk => hk.elim) ?aF ?aO ?aB ?aS ?aL ?_; (case aP => exact rfl); (case aB => exact bq); (case aF => exact (fun _ _ => trivial)); (case aO => exact (ru HO_5.out)); (case aS => exact (below_size bq)); (case aL => have := LMc19.out; omega); intro v340 w20 ho hb hg hat; rw [← Ny339.out] at ho; have n0_ := zA (hb); have n1_ := zA (ho); clear HB; clear HO_5; have HB := n0_; have HO341 := n1_; clear n0_ n1_; clear ho hb hg hat))
    (try simp only [← hji3])
    go_roundg k1
    case measure => have := HK1.out; omega
    case rel => exact ⟨(y339), (0), (wrap64 (x7_1 + 1)), zi, zi, (by first | exact H' | (simp only [hji3]; exact H') | (simp only [hji3] at H' ⊢; exact H')), ⟨by have := HK1.out; omega⟩, ⟨ru HO341.out⟩, ⟨bq⟩⟩
   rw [if_neg c4] at H
   have c4b0 := decide_eq_false c4
   clear c4
   replace H := dn H
   obtain ⟨c21, H⟩ := H
   have LMc21 := zA c21
   clear c21
   obtain ⟨y319, hy319⟩ : ∃ y_ : List Int, y_ = (x5_1 ++ [x6_1]) := ⟨_, rfl⟩
   replace H : ((ulpref03_Norm.f k1 y319).bind fun t322 => (some t322)) = some r := zR hy319 H
   have Ny319 := zA hy319
   clear hy319
   obtain ⟨t322, A22, H⟩ := zh H
   obtain rfl := Option.some.inj H
   go_wp2_with (first | ((with_reducible refine gate_builtin (b := .append) (xs := #[.tmp 51, .tmp 53]) rfl ?_); at_builtin; refine R_append (Kd.int .u64) (w0 := w) w.heap.size rfl (.tmp 51) (.tmp 53) 23 26 (.int .u64 0) 8 rfl Tryd.underlying23 info26 rfl (by decide) (by omega) u5 x5_1 x6_1 [.int .u64 x6_1] (fun _ => True) (fun _ => False) rfl rfl ?aP (fun _ hk => hk.elim) ?aF ?aO ?aB ?aS ?aL ?_; (case aP => exact rfl); (case aB => exact bq); (case aF => exact (fun _ _ => trivial)); (case aO => exact (ru HO_5.out)); (case aS => exact (below_size bq)); (case aL => have := LMc21.out; omega); intro v320 w23 ho hb hg hat; rw [← Ny319.out] at ho; have n0_ := zA (hb); have n1_ := zA (ho); clear HB; clear HO_5; have HB := n0_; have HO321 := n1_; clear n0_ n1_; clear ho hb hg hat; obtain ⟨Ao24, co24, eo24⟩ := R_slice HO321.out; subst eo24) | ((with_reducible refine zG 45 rfl ?_); refine zL (some 55) rfl rfl Tryd.func45 #[.slice Ao24 y319.length co24] rfl ?_; (with_reducible refine (ulpref03_Norm.calls k1 _ _ y319 t322 _ ?side1 ?side2 A22.out).mono ?_); (case side1 => exact zk (R_reads' HO321.out).2.2); (case side2 => exact (R_reads' HO321.out).2.1); rintro e w25 ⟨v323, rfl, ho0, hb⟩; refine ⟨_, rfl, ?_⟩; have HO324 := zA (R_lower (R_new' ho0 (R_lt (ru HO321.out))) (below_size bq)); replace HO321 := zA (R_elder' (ru HO321.out) (R_base ho0) hb); replace HB := ze hb; (try clear ho0)))
   go_ret
   exact ⟨_, by first | rfl | (simp [errW_none, errW_some] <;> rfl) | (simp only [← hji3]; first | rfl | (simp [errW_none, errW_some] <;> rfl)) | (simp [*, errW_none, errW_some] <;> rfl), ru (R_mono HO324.out (fun _ hk => trivial)), bq⟩
def ulpref03_Of.f (k : Nat) (a0 : Int) : Option (List Int) := (ulpref03_Norm.f k (([a0] : List Int))).bind fun t345 => (some t345)
set_option maxHeartbeats 8000000 in
set_option maxRecDepth 100000 in
theorem ulpref03_Of.calls (k : Nat) (a0 : Int) (r : List Int) (w : World) (h : ulpref03_Of.f k a0 = some r) :
  Calls Tryd.prog 101 #[.int .u64 a0] w fun e w' => ∃ v0_ : Value, e = .returned (v0_) ∧ Kd.R (Kd.int .u64) 26 w' w.heap.size (fun _ => True) v0_ r ∧ Below w.heap.size w w' := by
 have HB := zA (Below.refl w.heap.size w)
 have H : ((ulpref03_Norm.f k (([a0] : List Int))).bind fun t345 => (some t345)) = some r := h
 clear h
 obtain ⟨y342, hy342⟩ : ∃ y_ : List Int, y_ = (([a0] : List Int)) := ⟨_, rfl⟩
 replace H : ((ulpref03_Norm.f k y342).bind fun t345 => (some t345)) = some r := zR hy342 H
 have Ny342 := zA hy342
 clear hy342
 obtain ⟨t345, A2, H⟩ := zh H
 obtain rfl := Option.some.inj H
 go_enter Tryd.func101, Tryd.ntmps101
 go_wp2_with (first | ((with_reducible refine zD 4 rfl ?_); refine R_lit (Kd.int .u64) _ 26 ?hg (N := 4) ?hd (xs := ([a0] : List Int)) (inner := [.int .u64 a0]) (ok := fun _ => True) (okp := fun _ => True) ?hr ?hp (fun _ hk => hk) trivial (Below.refl _ _) (Nat.le_refl _) (by simp) ?_; (case hd => rfl); (case hg => rfl); (case hr => first | (go_simp; done) | (go_simp; rfl)); (case hp => exact (Reps.one (show Kd.M (Kd.int .u64) _ _ _ a0 [.int .u64 a0] from rfl) (Reps.none _ _))); intro v343 w3 ho4 hb hg_ hnew_; clear hg_ hnew_; (first | rw [← Ny342.out] at ho4 | (simp only [Int.reduceToNat] at ho4; rw [← Ny342.out] at ho4)); have HO344 := zA (R_lower ho4 (below_size bq)); replace HB := ze hb; clear hb ho4; obtain ⟨Ao5, co5, eo5⟩ := R_slice HO344.out; subst eo5) | ((with_reducible refine zG 45 rfl ?_); refine zL (some 5) rfl rfl Tryd.func45 #[.slice Ao5 y342.length co5] rfl ?_; (with_reducible refine (ulpref03_Norm.calls k _ _ y342 t345 _ ?side1 ?side2 A2.out).mono ?_); (case side1 => exact zk (R_reads' HO344.out).2.2); (case side2 => exact (R_reads' HO344.out).2.1); rintro e w6 ⟨v346, rfl, ho0, hb⟩; refine ⟨_, rfl, ?_⟩; have HO347 := zA (R_lower (R_new' ho0 (R_lt (ru HO344.out))) (below_size bq)); replace HO344 := zA (R_elder' (ru HO344.out) (R_base ho0) hb); replace HB := ze hb; (try clear ho0)))
 go_ret
 exact ⟨_, er, ru (R_mono HO347.out (fun _ hk => trivial)), bq⟩
def ulpref05_cut.j0 : Nat → List Int → Bool → Option (List Int × Bool)
 | 0, _, _ => none
 | k + 1, x9, x50 => if x50 = true then ((ulpref03_Of.f k 1).bind fun t361 => ((ulpref03_Add.f k x9 t361).bind fun t364 => (some (t364, true)))) else (some (x9, true))
def ulpref05_cut.f (k : Nat) (l0 : List Int) (a1 : Int) (a2 : Int) : Option (List Int × Bool) := if a1 ≥ a2 then ((ulpref03_Shl.f k l0 (wrap64 (a1 - a2))).bind fun t348 => (some (t348, false))) else ((ulpref03_Norm.f k l0).bind fun t351 => ((ulpref03_Shr.f k t351 (wrap64 (a2 - a1))).bind fun bt354 => (if bt354.2 = true then ((ulpref03_Bit.f l0 (wrap64 ((wrap64 (a2 - a1)) - 1))).bind fun t358 => ((ulpref03_Low.f k l0).bind fun t359 => (if t358 = true then (if t359 < (wrap64 ((wrap64 (a2 - a1)) - 1)) then (ulpref05_cut.j0 k bt354.1 true) else ((ulpref03_Bit.f bt354.1 0).bind fun t360 => (ulpref05_cut.j0 k bt354.1 t360))) else (ulpref05_cut.j0 k bt354.1 false)))) else (some (bt354.1, false)))))
set_option maxHeartbeats 8000000 in
set_option maxRecDepth 100000 in
theorem ulpref05_cut.calls (k : Nat) (A0 : Option Addr) (c0 : Nat) (l0 : List Int) (a1 : Int) (a2 : Int) (r1 : List Int) (r2 : Bool) (w : World) (hr0 : Kd.C (Kd.int .u64) w A0 l0.length l0) (hc0 : l0.length ≤ c0) (h : ulpref05_cut.f k l0 a1 a2 = some (r1, r2)) :
  Calls Tryd.prog 71 #[.slice A0 l0.length c0, .int .i64 a1, .int .i64 a2] w fun e w' => ∃ v0_ : Value, e = .returned (.tuple #[v0_, .bool r2]) ∧ Kd.R (Kd.int .u64) 26 w' w.heap.size (fun _ => True) v0_ r1 ∧ Below w.heap.size w w' := by
 have HR0 := zA hr0
 have HC0 := zA hc0
 clear hr0 hc0
 have HB := zA (Below.refl w.heap.size w)
 have H : (if a1 ≥ a2 then ((ulpref03_Shl.f k l0 (wrap64 (a1 - a2))).bind fun t348 => (some (t348, false))) else ((ulpref03_Norm.f k l0).bind fun t351 => ((ulpref03_Shr.f k t351 (wrap64 (a2 - a1))).bind fun bt354 => (if bt354.2 = true then ((ulpref03_Bit.f l0 (wrap64 ((wrap64 (a2 - a1)) - 1))).bind fun t358 => ((ulpref03_Low.f k l0).bind fun t359 => (if t358 = true then (if t359 < (wrap64 ((wrap64 (a2 - a1)) - 1)) then (ulpref05_cut.j0 k bt354.1 true) else ((ulpref03_Bit.f bt354.1 0).bind fun t360 => (ulpref05_cut.j0 k bt354.1 t360))) else (ulpref05_cut.j0 k bt354.1 false)))) else (some (bt354.1, false)))))) = some (r1, r2) := h
 clear h
 by_cases c4 : a1 ≥ a2
 ·rw [if_pos c4] at H
  have c4b0 := decide_eq_true c4
  clear c4
  obtain ⟨t348, A5, H⟩ := zh H
  simp only [Option.some.injEq, Prod.mk.injEq] at H
  obtain ⟨rfl, rfl⟩ := H
  go_enter Tryd.func71, Tryd.ntmps71
  go_wp2_with (first | ((with_reducible refine zG 97 rfl ?_); refine zL (some 20) rfl rfl Tryd.func97 #[.slice A0 l0.length c0, .int .i64 (wrap64 (a1 - a2))] rfl ?_; (with_reducible refine (ulpref03_Shl.calls k _ _ l0 (wrap64 (a1 - a2)) t348 _ ?side1 ?side2 A5.out).mono ?_); (case side1 => exact zk HR0.out); (case side2 => exact HC0.out); rintro e w6 ⟨v349, rfl, ho0, hb⟩; refine ⟨_, rfl, ?_⟩; have HO350 := zA (R_lower ho0 (below_size bq)); replace HB := ze hb; (try clear ho0)))
  go_ret2
  exact ⟨_, er, ru HO350.out, bq⟩
 rw [if_neg c4] at H
 have c4b0 := decide_eq_false c4
 clear c4
 obtain ⟨t351, A7, H⟩ := zh H
 obtain ⟨⟨t354, t355⟩, A8, H⟩ := zh H
 (try dsimp only at H)
 by_cases c9 : t355 = true
 ·subst c9
  rw [if_pos rfl] at H
  obtain ⟨t358, A10, H⟩ := zh H
  obtain ⟨t359, A11, H⟩ := zh H
  have HC12 := zA H
  clear H
  go_enter Tryd.func71, Tryd.ntmps71
  go_upto_region 9 with (first | ((with_reducible refine zG 45 rfl ?_); refine zL (some 26) rfl rfl Tryd.func45 #[.slice A0 l0.length c0] rfl ?_; (with_reducible refine (ulpref03_Norm.calls k _ _ l0 t351 _ ?side1 ?side2 A7.out).mono ?_); (case side1 => exact zk HR0.out); (case side2 => exact HC0.out); rintro e w13 ⟨v352, rfl, ho0, hb⟩; refine ⟨_, rfl, ?_⟩; have HO353 := zA (R_lower ho0 (below_size bq)); replace HB := ze hb; (try clear ho0); obtain ⟨Ao14, co14, eo14⟩ := R_slice HO353.out; subst eo14) | ((with_reducible refine zG 72 rfl ?_); refine zL (some 28) rfl rfl Tryd.func72 #[.slice Ao14 t351.length co14, .int .i64 (wrap64 (a2 - a1))] rfl ?_; (with_reducible refine (ulpref03_Shr.calls k _ _ t351 (wrap64 (a2 - a1)) t354 true _ ?side1 ?side2 A8.out).mono ?_); (case side1 => exact zk (R_reads' HO353.out).2.2); (case side2 => exact (R_reads' HO353.out).2.1); rintro e w15 ⟨v356, rfl, ho0, hb⟩; refine ⟨_, rfl, ?_⟩; have HO357 := zA (R_lower (R_new' ho0 (R_lt (ru HO353.out))) (below_size bq)); replace HO353 := zA (R_elder' (ru HO353.out) (R_base ho0) hb); replace HB := ze hb; (try clear ho0)) | ((with_reducible refine zG 98 rfl ?_); refine zL (some 37) rfl rfl Tryd.func98 #[.slice A0 l0.length c0, .int .i64 (wrap64 ((wrap64 (a2 - a1)) - 1))] rfl ?_; (with_reducible refine (ulpref03_Bit.calls _ _ l0 (wrap64 ((wrap64 (a2 - a1)) - 1)) t358 _ ?side1 ?side2 A10.out).mono ?_); (case side1 => exact zk (C_below HR0.out HB.out)); (case side2 => exact HC0.out); rintro e w' ⟨rfl, ⟨nd, rfl⟩⟩; refine ⟨_, rfl, ?_⟩) | ((with_reducible refine zG 99 rfl ?_); refine zL (some 39) rfl rfl Tryd.func99 #[.slice A0 l0.length c0] rfl ?_; (with_reducible refine (ulpref03_Low.calls k _ _ l0 t359 _ ?side1 ?side2 A11.out).mono ?_); (case side1 => exact zk (C_below HR0.out bq)); (case side2 => exact HC0.out); rintro e w16 ⟨rfl, hb⟩; refine ⟨_, rfl, ?_⟩; replace HO353 := zA (R_below (ru HO353.out) hb); replace HO357 := zA (R_below (ru HO357.out) hb); replace HB := ze hb))
  (try simp only [Act.put, List.setIfInBounds_toArray, List.set_cons_zero, List.set_cons_succ])
  generalize hov_ : decide (t359 < (wrap64 ((wrap64 (a2 - a1)) - 1))) = ov_
  go_cut [50] (fun v50 wc => ∃ (kq : Nat) (x50_11 : Bool), v50 = .bool x50_11 ∧ Aside0 (ulpref05_cut.j0 kq t354 x50_11 = some (r1, r2)) ∧ Aside0 (kq ≤ k) ∧ Aside0 (Kd.R (Kd.int .u64) 26 wc w.heap.size (fun _ => True) v356 t354) ∧ Aside0 (Below w.heap.size w wc))
  case first =>
   have H := HC12.out
   clear HC12
   by_cases c17 : t358 = true
   ·subst c17
    rw [if_pos rfl] at H
    by_cases c18 : t359 < (wrap64 ((wrap64 (a2 - a1)) - 1))
    ·rw [if_pos c18] at H
     have c18b0 : decide (t359 < (wrap64 ((wrap64 (a2 - a1)) - 1))) = true := decide_eq_true c18
     clear c18
     have qo_ : ov_ = _ := hov_.symm.trans c18b0
     subst qo_
     have H' := zA H
     clear H
     go_wp2
     go_meet
     case rel => exact ⟨_, (true), zi, H', ⟨by first | omega | exact Nat.le_refl _⟩, ⟨ru (R_mono HO357.out (fun _ hk => trivial))⟩, ⟨bq⟩⟩
    rw [if_neg c18] at H
    have c18b0 : decide (t359 < (wrap64 ((wrap64 (a2 - a1)) - 1))) = false := decide_eq_false c18
    clear c18
    have qo_ : ov_ = _ := hov_.symm.trans c18b0
    subst qo_
    obtain ⟨t360, A19, H⟩ := zh H
    have H' := zA H
    clear H
    obtain ⟨Ao20, co20, eo20⟩ := R_slice HO357.out
    subst eo20
    go_wp2_with (first | (go_at_call 98; (with_reducible refine (ulpref03_Bit.calls _ _ t354 0 t360 _ ?side1 ?side2 A19.out).mono ?_); (case side1 => exact zk (R_reads' HO357.out).2.2); (case side2 => exact (R_reads' HO357.out).2.1); rintro e w' ⟨rfl, ⟨nd, rfl⟩⟩))
    go_meet
    case rel => exact ⟨_, (t360), zi, H', ⟨by first | omega | exact Nat.le_refl _⟩, ⟨ru (R_mono HO357.out (fun _ hk => trivial))⟩, ⟨bq⟩⟩
   replace c17 := Bool.eq_false_iff.mpr c17
   subst c17
   rw [if_neg (show ¬ (false = true) by decide)] at H
   have H' := zA H
   clear H
   go_wp2
   go_meet
   case rel => exact ⟨_, (false), zi, H', ⟨by first | omega | exact Nat.le_refl _⟩, ⟨ru (R_mono HO357.out (fun _ hk => trivial))⟩, ⟨bq⟩⟩
  case rest =>
   clear HC12
   try clear c1
   try clear c4
   try clear c4b0
   try clear c7
   try clear c9
   try clear c17
   try clear c18
   try clear c18b0
   obtain ⟨kq, x50_11, rfl, HA, HJ11, HO_9, HB⟩ := hcut
   cases kq with
   | zero => exact absurd HA.out (by simp [ulpref05_cut.j0])
   | succ kj11 =>
    have H := HA.out
    clear HA
    simp only [ulpref05_cut.j0] at H
    by_cases c21 : x50_11 = true
    ·subst c21
     rw [if_pos rfl] at H
     obtain ⟨t361, A22, H⟩ := zh H
     obtain ⟨t364, A23, H⟩ := zh H
     simp only [Option.some.injEq, Prod.mk.injEq] at H
     obtain ⟨rfl, rfl⟩ := H
     go_wp2_with (first | ((with_reducible refine zG 101 rfl ?_); refine zL (some 52) rfl rfl Tryd.func101 #[.int .u64 1] rfl ?_; (with_reducible refine (ulpref03_Of.calls kj11 1 t361 _ A22.out).mono ?_); rintro e w24 ⟨v362, rfl, ho0, hb⟩; refine ⟨_, rfl, ?_⟩; have HO363 := zA (R_lower (R_new' ho0 (R_lt (ru HO_9.out))) (below_size bq)); replace HO_9 := zA (R_elder' (ru HO_9.out) (R_base ho0) hb); replace HB := ze hb; (try clear ho0); obtain ⟨Ao25, co25, eo25⟩ := R_slice HO_9.out; subst eo25; obtain ⟨Ao26, co26, eo26⟩ := R_slice HO363.out; subst eo26) | ((with_reducible refine zG 100 rfl ?_); refine zL (some 53) rfl rfl Tryd.func100 #[.slice Ao25 t354.length co25, .slice Ao26 t361.length co26] rfl ?_; (with_reducible refine (ulpref03_Add.calls kj11 _ _ t354 _ _ t361 t364 _ ?side1 ?side2 ?side3 ?side4 A23.out).mono ?_); (case side1 => exact zk (R_reads' HO_9.out).2.2); (case side2 => exact (R_reads' HO_9.out).2.1); (case side3 => exact zk (R_reads' HO363.out).2.2); (case side4 => exact (R_reads' HO363.out).2.1); rintro e w27 ⟨v365, rfl, ho0, hb⟩; refine ⟨_, rfl, ?_⟩; have HO366 := zA (R_lower (R_new' (R_new' ho0 (R_lt (ru HO_9.out))) (R_lt (ru HO363.out))) (below_size bq)); replace HO_9 := zA (R_elder' (ru HO_9.out) (R_base ho0) hb); replace HO363 := zA (R_elder' (ru HO363.out) (R_base ho0) hb); replace HB := ze hb; (try clear ho0)))
     go_ret2
     exact ⟨_, er, ru (R_mono HO366.out (fun _ hk => trivial)), bq⟩
    replace c21 := Bool.eq_false_iff.mpr c21
    subst c21
    rw [if_neg (show ¬ (false = true) by decide)] at H
    simp only [Option.some.injEq, Prod.mk.injEq] at H
    obtain ⟨rfl, rfl⟩ := H
    go_wp2
    go_ret2
    exact ⟨_, er, ru HO_9.out, bq⟩
 replace c9 := Bool.eq_false_iff.mpr c9
 subst c9
 rw [if_neg (show ¬ (false = true) by decide)] at H
 simp only [Option.some.injEq, Prod.mk.injEq] at H
 obtain ⟨rfl, rfl⟩ := H
 go_enter Tryd.func71, Tryd.ntmps71
 go_wp2_with (first | ((with_reducible refine zG 45 rfl ?_); refine zL (some 26) rfl rfl Tryd.func45 #[.slice A0 l0.length c0] rfl ?_; (with_reducible refine (ulpref03_Norm.calls k _ _ l0 t351 _ ?side1 ?side2 A7.out).mono ?_); (case side1 => exact zk HR0.out); (case side2 => exact HC0.out); rintro e w28 ⟨v352, rfl, ho0, hb⟩; refine ⟨_, rfl, ?_⟩; have HO353 := zA (R_lower ho0 (below_size bq)); replace HB := ze hb; (try clear ho0); obtain ⟨Ao29, co29, eo29⟩ := R_slice HO353.out; subst eo29) | ((with_reducible refine zG 72 rfl ?_); refine zL (some 28) rfl rfl Tryd.func72 #[.slice Ao29 t351.length co29, .int .i64 (wrap64 (a2 - a1))] rfl ?_; (with_reducible refine (ulpref03_Shr.calls k _ _ t351 (wrap64 (a2 - a1)) t354 false _ ?side1 ?side2 A8.out).mono ?_); (case side1 => exact zk (R_reads' HO353.out).2.2); (case side2 => exact (R_reads' HO353.out).2.1); rintro e w30 ⟨v356, rfl, ho0, hb⟩; refine ⟨_, rfl, ?_⟩; have HO357 := zA (R_lower (R_new' ho0 (R_lt (ru HO353.out))) (below_size bq)); replace HO353 := zA (R_elder' (ru HO353.out) (R_base ho0) hb); replace HB := ze hb; (try clear ho0)))
 go_ret2
 exact ⟨_, er, ru (R_mono HO357.out (fun _ hk => trivial)), bq⟩
def ulpref05_tiny.f (k : Nat) (a0_0 : Bool) (l0_1 : List Int) (a0_2 : Int) : Option (Bool) := (ulpref03_Len.f k l0_1).bind fun t368 => (if t368 = 0 then (some false) else ((ulpref05_top.f k a0_0 l0_1 a0_2).bind fun t369 => (if t369 > (-1022) then (some false) else (if t369 < (-1022) then (some true) else ((ulpref05_cut.f k l0_1 a0_2 (wrap64 (t369 - 53))).bind fun bt370 => ((ulpref03_Len.f k bt370.1).bind fun t374 => (some (decide (t374 ≤ 53)))))))))
set_option maxHeartbeats 8000000 in
set_option maxRecDepth 100000 in
theorem ulpref05_tiny.calls (k : Nat) (a0_0 : Bool) (A0_1 : Option Addr) (c0_1 : Nat) (l0_1 : List Int) (a0_2 : Int) (r : Bool) (w : World) (hr0_1 : Kd.C (Kd.int .u64) w A0_1 l0_1.length l0_1) (hc0_1 : l0_1.length ≤ c0_1) (h : ulpref05_tiny.f k a0_0 l0_1 a0_2 = some r) :
  Calls Tryd.prog 37 #[.agg #[.bool a0_0, .slice A0_1 l0_1.length c0_1, .int .i64 a0_2]] w fun e w' => e = .returned (.bool r) ∧ Below w.heap.size w w' := by
 have hu25 := Tryd.underlying25
 have HR0_1 := zA hr0_1
 have HC0_1 := zA hc0_1
 clear hr0_1 hc0_1
 have HB := zA (Below.refl w.heap.size w)
 have H : ((ulpref03_Len.f k l0_1).bind fun t368 => (if t368 = 0 then (some false) else ((ulpref05_top.f k a0_0 l0_1 a0_2).bind fun t369 => (if t369 > (-1022) then (some false) else (if t369 < (-1022) then (some true) else ((ulpref05_cut.f k l0_1 a0_2 (wrap64 (t369 - 53))).bind fun bt370 => ((ulpref03_Len.f k bt370.1).bind fun t374 => (some (decide (t374 ≤ 53)))))))))) = some r := h
 clear h
 obtain ⟨t368, A2, H⟩ := zh H
 by_cases c3 : t368 = 0
 ·rw [if_pos c3] at H
  have c3b0 := beq_iff_eq.mpr c3
  have c3b1 := bne_eq_false_iff_eq.mpr c3
  clear c3
  obtain rfl := Option.some.inj H
  go_enter Tryd.func37, Tryd.ntmps37
  go_wp2_with (first | ((with_reducible refine zD 1 rfl ?_); refine zn (N := 1) (cs := #[.bool a0_0, .slice A0_1 l0_1.length c0_1, .int .i64 a0_2]) (t := 25) rfl rfl ?_; intro gb367 hg w4 hbox hb; have BK367 := zA (hbox); have GW367 := zw hg; replace HB := ze hb; clear hb hbox hg; obtain ⟨_, _, _, _, _, _⟩ := zc BK367) | ((with_reducible refine zG 69 rfl ?_); refine zL (some 8) rfl rfl Tryd.func69 #[.slice A0_1 l0_1.length c0_1] rfl ?_; (with_reducible refine (ulpref03_Len.calls k _ _ l0_1 t368 _ ?side1 ?side2 A2.out).mono ?_); (case side1 => exact zk (C_below HR0_1.out HB.out)); (case side2 => exact HC0_1.out); rintro e w6 ⟨rfl, hb⟩; refine ⟨_, rfl, ?_⟩; replace BK367 := zb BK367 hb; replace HB := zf hb))
  go_ret
  exact ⟨er, zs⟩
 rw [if_neg c3] at H
 have c3b0 := beq_eq_false_iff_ne.mpr c3
 have c3b1 := bne_iff_ne.mpr c3
 obtain ⟨t369, A7, H⟩ := zh H
 by_cases c8 : t369 > (-1022)
 ·rw [if_pos c8] at H
  have c8b0 := decide_eq_true c8
  clear c8
  obtain rfl := Option.some.inj H
  go_enter Tryd.func37, Tryd.ntmps37
  go_wp2_with (first | ((with_reducible refine zD 1 rfl ?_); refine zn (N := 1) (cs := #[.bool a0_0, .slice A0_1 l0_1.length c0_1, .int .i64 a0_2]) (t := 25) rfl rfl ?_; intro gb367 hg w9 hbox hb; have BK367 := zA (hbox); have GW367 := zw hg; replace HB := ze hb; clear hb hbox hg; obtain ⟨_, _, _, _, _, _⟩ := zc BK367) | ((with_reducible refine zG 69 rfl ?_); refine zL (some 8) rfl rfl Tryd.func69 #[.slice A0_1 l0_1.length c0_1] rfl ?_; (with_reducible refine (ulpref03_Len.calls k _ _ l0_1 t368 _ ?side1 ?side2 A2.out).mono ?_); (case side1 => exact zk (C_below HR0_1.out HB.out)); (case side2 => exact HC0_1.out); rintro e w11 ⟨rfl, hb⟩; refine ⟨_, rfl, ?_⟩; replace BK367 := zb BK367 hb; replace HB := zf hb; obtain ⟨hcz12_0, hcz12_1, hcz12_2, hfz12_0, hfz12_1, hfz12_2⟩ := zc BK367) | ((with_reducible refine zG 70 rfl ?_); refine zL (some 11) rfl rfl Tryd.func70 #[.agg #[.bool a0_0, .slice A0_1 l0_1.length c0_1, .int .i64 a0_2]] rfl ?_; (with_reducible refine (ulpref05_top.calls k a0_0 _ _ l0_1 a0_2 t369 _ ?side1 ?side2 A7.out).mono ?_); (case side1 => exact zk (C_below HR0_1.out HB.out)); (case side2 => exact HC0_1.out); rintro e w13 ⟨rfl, hb⟩; refine ⟨_, rfl, ?_⟩; replace BK367 := zb BK367 hb; replace HB := zf hb))
  go_ret
  exact ⟨er, zs⟩
 rw [if_neg c8] at H
 have c8b0 := decide_eq_false c8
 clear c8
 by_cases c14 : t369 < (-1022)
 ·rw [if_pos c14] at H
  have c14b0 := decide_eq_true c14
  clear c14
  obtain rfl := Option.some.inj H
  go_enter Tryd.func37, Tryd.ntmps37
  go_wp2_with (first | ((with_reducible refine zD 1 rfl ?_); refine zn (N := 1) (cs := #[.bool a0_0, .slice A0_1 l0_1.length c0_1, .int .i64 a0_2]) (t := 25) rfl rfl ?_; intro gb367 hg w15 hbox hb; have BK367 := zA (hbox); have GW367 := zw hg; replace HB := ze hb; clear hb hbox hg; obtain ⟨_, _, _, _, _, _⟩ := zc BK367) | ((with_reducible refine zG 69 rfl ?_); refine zL (some 8) rfl rfl Tryd.func69 #[.slice A0_1 l0_1.length c0_1] rfl ?_; (with_reducible refine (ulpref03_Len.calls k _ _ l0_1 t368 _ ?side1 ?side2 A2.out).mono ?_); (case side1 => exact zk (C_below HR0_1.out HB.out)); (case side2 => exact HC0_1.out); rintro e w17 ⟨rfl, hb⟩; refine ⟨_, rfl, ?_⟩; replace BK367 := zb BK367 hb; replace HB := zf hb; obtain ⟨hcz18_0, hcz18_1, hcz18_2, hfz18_0, hfz18_1, hfz18_2⟩ := zc BK367) | ((with_reducible refine zG 70 rfl ?_); refine zL (some 11) rfl rfl Tryd.func70 #[.agg #[.bool a0_0, .slice A0_1 l0_1.length c0_1, .int .i64 a0_2]] rfl ?_; (with_reducible refine (ulpref05_top.calls k a0_0 _ _ l0_1 a0_2 t369 _ ?side1 ?side2 A7.out).mono ?_); (case side1 => exact zk (C_below HR0_1.out HB.out)); (case side2 => exact HC0_1.out); rintro e w19 ⟨rfl, hb⟩; refine ⟨_, rfl, ?_⟩; replace BK367 := zb BK367 hb; replace HB := zf hb))
  go_ret
  exact ⟨er, zs⟩
 rw [if_neg c14] at H
 have c14b0 := decide_eq_false c14
 clear c14
 obtain ⟨⟨t370, t371⟩, A20, H⟩ := zh H
 (try dsimp only at H)
 obtain ⟨t374, A21, H⟩ := zh H
 obtain rfl := Option.some.inj H
 go_enter Tryd.func37, Tryd.ntmps37
 go_wp2_with (first | ((with_reducible refine zD 1 rfl ?_); refine zn (N := 1) (cs := #[.bool a0_0, .slice A0_1 l0_1.length c0_1, .int .i64 a0_2]) (t := 25) rfl rfl ?_; intro gb367 hg w22 hbox hb; have BK367 := zA (hbox); have GW367 := zw hg; replace HB := ze hb; clear hb hbox hg; obtain ⟨_, _, _, _, _, _⟩ := zc BK367) | ((with_reducible refine zG 69 rfl ?_); refine zL (some 8) rfl rfl Tryd.func69 #[.slice A0_1 l0_1.length c0_1] rfl ?_; (with_reducible refine (ulpref03_Len.calls k _ _ l0_1 t368 _ ?side1 ?side2 A2.out).mono ?_); (case side1 => exact zk (C_below HR0_1.out HB.out)); (case side2 => exact HC0_1.out); rintro e w24 ⟨rfl, hb⟩; refine ⟨_, rfl, ?_⟩; replace BK367 := zb BK367 hb; replace HB := zf hb; obtain ⟨hcz25_0, hcz25_1, hcz25_2, hfz25_0, hfz25_1, hfz25_2⟩ := zc BK367) | ((with_reducible refine zG 70 rfl ?_); refine zL (some 11) rfl rfl Tryd.func70 #[.agg #[.bool a0_0, .slice A0_1 l0_1.length c0_1, .int .i64 a0_2]] rfl ?_; (with_reducible refine (ulpref05_top.calls k a0_0 _ _ l0_1 a0_2 t369 _ ?side1 ?side2 A7.out).mono ?_); (case side1 => exact zk (C_below HR0_1.out HB.out)); (case side2 => exact HC0_1.out); rintro e w26 ⟨rfl, hb⟩; refine ⟨_, rfl, ?_⟩; replace BK367 := zb BK367 hb; replace HB := zf hb; obtain ⟨hcz27_0, hcz27_1, hcz27_2, hfz27_0, hfz27_1, hfz27_2⟩ := zc BK367) | ((with_reducible refine zG 71 rfl ?_); refine zL (some 23) rfl rfl Tryd.func71 #[.slice A0_1 l0_1.length c0_1, .int .i64 a0_2, .int .i64 (wrap64 (t369 - 53))] rfl ?_; (with_reducible refine (ulpref05_cut.calls k _ _ l0_1 a0_2 (wrap64 (t369 - 53)) t370 t371 _ ?side1 ?side2 A20.out).mono ?_); (case side1 => exact zk (C_below HR0_1.out HB.out)); (case side2 => exact HC0_1.out); rintro e w28 ⟨v372, rfl, ho0, hb⟩; refine ⟨_, rfl, ?_⟩; have HO373 := zA (R_lower ho0 (below_size zs)); replace BK367 := zb BK367 hb; replace HB := zf hb; (try clear ho0); obtain ⟨Ao29, co29, eo29⟩ := R_slice HO373.out; subst eo29) | ((with_reducible refine zG 69 rfl ?_); refine zL (some 27) rfl rfl Tryd.func69 #[.slice Ao29 t370.length co29] rfl ?_; (with_reducible refine (ulpref03_Len.calls k _ _ t370 t374 _ ?side1 ?side2 A21.out).mono ?_); (case side1 => exact zk (R_reads' HO373.out).2.2); (case side2 => exact (R_reads' HO373.out).2.1); rintro e w30 ⟨rfl, hb⟩; refine ⟨_, rfl, ?_⟩; replace HO373 := zA (R_below (ru HO373.out) hb); replace BK367 := zb BK367 hb; replace HB := zf hb))
 go_ret
 exact ⟨er, zs⟩
end Go.Proofs.YtnjfckadjklmfaaDoor.PAll
