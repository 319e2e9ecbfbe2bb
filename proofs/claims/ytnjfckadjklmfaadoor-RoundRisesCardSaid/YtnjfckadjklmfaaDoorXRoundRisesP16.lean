/- Printed functions, merged by a program of this session. -/
import Derived.Test.YtnjfckadjklmfaaDoorXRoundRisesP0
import Derived.Test.YtnjfckadjklmfaaDoorXRoundRisesP14
import Derived.Test.YtnjfckadjklmfaaDoorXRoundRisesP15
import Derived.Test.YtnjfckadjklmfaaDoorXRoundRisesSh
namespace Go.Proofs.YtnjfckadjklmfaaDoor.PAll
open Go.RowKit Go.Proofs.YtnjfckadjklmfaaDoorW.PrintWords Go.Proofs.YtnjfckadjklmfaaDoorW.PrintLast Go.Proofs.YtnjfckadjklmfaaDoorW.PrintMore Go.Proofs.YtnjfckadjklmfaaDoorW.PrintWords.Kd
attribute [local go_sem] max2_int min2_int max_two min_two max_three min_three max_four min_four   -- for this text's walks alone
set_option linter.unusedVariables false
set_option linter.unusedSimpArgs false
attribute [local go_sem] fld75_0 fld75_1 fld75_2 ext118 ext119
def ulpref03_Add.l0 : Nat → List Int → List Int → List Int → Int → Int → Option (List Int)
 | 0, _, _, _, _, _ => none
 | k + 1, x0, x1, x5, x6, x7 => if x7 < (mx (x0.length : Int) (x1.length : Int)) then ((ulpref03_word.f x0 x7).bind fun a1 => ((ulpref03_word.f x1 x7).bind fun a2 => (if (IntKind.u64.wrap ((IntKind.u64.wrap (a1 + a2)) + x6)) < a1 then (if x5.length < 17592186044416 then (ulpref03_Add.l0 k x0 x1 (x5 ++ [IntKind.u64.wrap ((IntKind.u64.wrap (a1 + a2)) + x6)]) 1 (wrap64 (x7 + 1))) else (none)) else (if (IntKind.u64.wrap ((IntKind.u64.wrap (a1 + a2)) + x6)) = a1 then (if x6 = 1 then (if a2 > 0 then (if x5.length < 17592186044416 then (ulpref03_Add.l0 k x0 x1 (x5 ++ [IntKind.u64.wrap ((IntKind.u64.wrap (a1 + a2)) + x6)]) 1 (wrap64 (x7 + 1))) else (none)) else (if x5.length < 17592186044416 then (ulpref03_Add.l0 k x0 x1 (x5 ++ [IntKind.u64.wrap ((IntKind.u64.wrap (a1 + a2)) + x6)]) 0 (wrap64 (x7 + 1))) else (none))) else (if x5.length < 17592186044416 then (ulpref03_Add.l0 k x0 x1 (x5 ++ [IntKind.u64.wrap ((IntKind.u64.wrap (a1 + a2)) + x6)]) 0 (wrap64 (x7 + 1))) else (none))) else (if x5.length < 17592186044416 then (ulpref03_Add.l0 k x0 x1 (x5 ++ [IntKind.u64.wrap ((IntKind.u64.wrap (a1 + a2)) + x6)]) 0 (wrap64 (x7 + 1))) else (none)))))) else (if x5.length < 17592186044416 then ((ulpref03_Norm.f k (x5 ++ [x6])).bind fun a3 => (some a3)) else (none))
def ulpref03_Add.f (k : Nat) (l0 : List Int) (l1 : List Int) : Option (List Int) := ulpref03_Add.l0 k l0 l1 ([] : List Int) 0 0
set_option maxHeartbeats 8000000 in
set_option maxRecDepth 100000 in
theorem ulpref03_Add.calls (k : Nat) (A0 : Option Addr) (c0 : Nat) (l0 : List Int) (A1 : Option Addr) (c1 : Nat) (l1 : List Int) (r : List Int) (w : World) (hr0 : Kd.C (Kd.int .u64) w A0 l0.length l0) (hc0 : l0.length ≤ c0) (hr1 : Kd.C (Kd.int .u64) w A1 l1.length l1) (hc1 : l1.length ≤ c1) (h : ulpref03_Add.f k l0 l1 = some r) :
  Calls Tryd.prog 100 #[.slice A0 l0.length c0, .slice A1 l1.length c1] w fun e w' => ∃ v0_ : Value, e = .returned (v0_) ∧ Kd.R (Kd.int .u64) 26 w' w.heap.size (fun _ => True) v0_ r ∧ Below w.heap.size w w' := by
 have ai := zA hr0;have aj := zA hc0;clear hr0 hc0;have ak := zA hr1;have al := zA hc1;clear hr1 hc1;have HB := zA (Below.refl w.heap.size w);have H : (ulpref03_Add.l0 k l0 l1 ([] : List Int) 0 0) = some r := h;clear h;have H' := zA H;clear H;go_enter Tryd.func100, Tryd.ntmps100
 go_wp2
 go_loopg [5, 6, 7] k (fun kq v5 v6 v7 w' => ∃ (a5 : List Int) (a3 : Int) (a1 : Int), v6 = .int .u64 a3 ∧ v7 = .int .i64 a1 ∧ Aside0 (ulpref03_Add.l0 kq l0 l1 a5 a3 a1 = some r) ∧ Aside0 (kq ≤ k) ∧ Aside0 (Kd.R (Kd.int .u64) 26 w' w.heap.size (fun _ => True) v5 a5) ∧ Aside0 (Below w.heap.size w w'))
 case atStart => exact ⟨(([] : List Int)), (0), (0), zi, zi, H', ⟨Nat.le_refl _⟩, ⟨by first | exact R_nil _ _ _ _ _ | exact Kd.N_nil _ _ _ _ _ | exact V_nil _ _ _ _ _ | exact Kd.Q_nil _ _ _ _ _ | exact Kd.S_nil _ _ _ _ _⟩, ⟨bq⟩⟩
 case round =>
  clear H'
  try clear c1
  obtain ⟨a5, a3, a1, rfl, rfl, HA, HK1, a9, HB⟩ := hrel
  cases gk with
  | zero => exact absurd HA.out (by simp [ulpref03_Add.l0])
  | succ k1 =>
   have H := HA.out;clear HA;simp only [ulpref03_Add.l0] at H;obtain ⟨an, a8⟩ : ∃ j_ : Int, (mx (l0.length : Int) (l1.length : Int)) = j_ := ⟨_, rfl⟩;replace H : (if a1 < (an) then ((ulpref03_word.f l0 a1).bind fun a2 => ((ulpref03_word.f l1 a1).bind fun a4 => (if (IntKind.u64.wrap ((IntKind.u64.wrap (a2 + a4)) + a3)) < a2 then (if a5.length < 17592186044416 then (ulpref03_Add.l0 k1 l0 l1 (a5 ++ [IntKind.u64.wrap ((IntKind.u64.wrap (a2 + a4)) + a3)]) 1 (wrap64 (a1 + 1))) else (none)) else (if (IntKind.u64.wrap ((IntKind.u64.wrap (a2 + a4)) + a3)) = a2 then (if a3 = 1 then (if a4 > 0 then (if a5.length < 17592186044416 then (ulpref03_Add.l0 k1 l0 l1 (a5 ++ [IntKind.u64.wrap ((IntKind.u64.wrap (a2 + a4)) + a3)]) 1 (wrap64 (a1 + 1))) else (none)) else (if a5.length < 17592186044416 then (ulpref03_Add.l0 k1 l0 l1 (a5 ++ [IntKind.u64.wrap ((IntKind.u64.wrap (a2 + a4)) + a3)]) 0 (wrap64 (a1 + 1))) else (none))) else (if a5.length < 17592186044416 then (ulpref03_Add.l0 k1 l0 l1 (a5 ++ [IntKind.u64.wrap ((IntKind.u64.wrap (a2 + a4)) + a3)]) 0 (wrap64 (a1 + 1))) else (none))) else (if a5.length < 17592186044416 then (ulpref03_Add.l0 k1 l0 l1 (a5 ++ [IntKind.u64.wrap ((IntKind.u64.wrap (a2 + a4)) + a3)]) 0 (wrap64 (a1 + 1))) else (none)))))) else (if a5.length < 17592186044416 then ((ulpref03_Norm.f k1 (a5 ++ [a3])).bind fun ab => (some ab)) else (none))) = some r := zQ a8 H;have hji3_ : (if (l0.length : Int) < (l1.length : Int) then (l1.length : Int) else (l0.length : Int)) = an := a8
   have hji3n : (if l0.length < l1.length then (l1.length : Int) else (l0.length : Int)) = an := by rw [← hji3_]; (repeat' split) <;> omega
   by_cases c4 : a1 < (an)
   ·rw [if_pos c4] at H;have az := decide_eq_true c4;clear c4;obtain ⟨a2, A5, H⟩ := zh H;obtain ⟨a4, A6, H⟩ := zh H
    by_cases c7 : (IntKind.u64.wrap ((IntKind.u64.wrap (a2 + a4)) + a3)) < a2
    ·rw [if_pos c7] at H;have aZ : decide ((IntKind.u64.wrap ((IntKind.u64.wrap (a2 + a4)) + a3)) < a2) = true := decide_eq_true c7;clear c7;replace H := dn H;obtain ⟨c8, H⟩ := H;have b1 := zA c8;clear c8;obtain ⟨ao, ac⟩ : ∃ y_ : List Int, y_ = (a5 ++ [IntKind.u64.wrap ((IntKind.u64.wrap (a2 + a4)) + a3)]) := ⟨_, rfl⟩;replace H : (ulpref03_Add.l0 k1 l0 l1 ao 1 (wrap64 (a1 + 1))) = some r := zR ac H;have aw := zA ac;clear ac;have H' := zA H;clear H
     go_wp2_with (first | ((with_reducible refine zG 102 rfl ?_); refine zL (some 22) rfl rfl Tryd.func102 #[.slice A0 l0.length c0, .int .i64 a1] rfl ?_; (with_reducible refine (ulpref03_word.calls _ _ l0 a1 a2 _ ?a6 ?a7 A5.out).mono ?_); (case a6 => exact zk (C_below ai.out HB.out)); (case a7 => exact aj.out); rintro e w' ⟨rfl, ⟨nd, rfl⟩⟩; refine ⟨_, rfl, ?_⟩) | ((with_reducible refine zG 102 rfl ?_); refine zL (some 25) rfl rfl Tryd.func102 #[.slice A1 l1.length c1, .int .i64 a1] rfl ?_; (with_reducible refine (ulpref03_word.calls _ _ l1 a1 a4 _ ?a6 ?a7 A6.out).mono ?_); (case a6 => exact zk (C_below ak.out bq)); (case a7 => exact al.out); rintro e w' ⟨rfl, ⟨nd, rfl⟩⟩; refine ⟨_, rfl, ?_⟩) | ((with_reducible refine gate_builtin (b := .append) (xs := #[.tmp 47, .tmp 49]) rfl ?_); at_builtin; refine R_append (Kd.int .u64) (w0 := w) w.heap.size rfl (.tmp 47) (.tmp 49) 23 26 (.int .u64 0) 8 rfl Tryd.underlying23 info26 rfl (by decide) (by omega) u5 a5 (IntKind.u64.wrap ((IntKind.u64.wrap (a2 + a4)) + a3)) [.int .u64 (IntKind.u64.wrap ((IntKind.u64.wrap (a2 + a4)) + a3))] (fun _ => True) (fun _ => False) rfl rfl ?aP (fun _ hk => hk.elim) ?aF ?aO ?aB ?aS ?aL ?_; (case aP => exact rfl); (case aB => exact bq); (case aF => exact (fun _ _ => trivial)); (case aO => exact (ru a9.out)); (case aS => exact (below_size bq)); (case aL => have := b1.out; omega); intro v328 w9 ho hb hg hat; rw [← aw.out] at ho; have n0_ := zA (hb); have n1_ := zA (ho); clear HB; clear a9; have HB := n0_; have ax := n1_; clear n0_ n1_; clear ho hb hg hat))
     (try simp only [← a8])
     go_roundg k1
     case measure => have := HK1.out; omega
     case rel => exact ⟨(ao), (1), (wrap64 (a1 + 1)), zi, zi, (by first | exact H' | (simp only [a8]; exact H') | (simp only [a8] at H' ⊢; exact H')), ⟨by have := HK1.out; omega⟩, ⟨ru ax.out⟩, ⟨bq⟩⟩
    rw [if_neg c7] at H;have aZ : decide ((IntKind.u64.wrap ((IntKind.u64.wrap (a2 + a4)) + a3)) < a2) = false := decide_eq_false c7;clear c7
    by_cases c10 : (IntKind.u64.wrap ((IntKind.u64.wrap (a2 + a4)) + a3)) = a2
    ·rw [if_pos c10] at H;have ay := beq_iff_eq.mpr c10;have aA := bne_eq_false_iff_eq.mpr c10;clear c10
     by_cases c11 : a3 = 1
     ·rw [if_pos c11] at H;have aC := beq_iff_eq.mpr c11;have aD := bne_eq_false_iff_eq.mpr c11;clear c11
      by_cases c12 : a4 > 0
      ·rw [if_pos c12] at H;have aE := decide_eq_true c12;clear c12;replace H := dn H;obtain ⟨c13, H⟩ := H;have aG := zA c13;clear c13;obtain ⟨ap, ad⟩ : ∃ y_ : List Int, y_ = (a5 ++ [IntKind.u64.wrap ((IntKind.u64.wrap (a2 + a4)) + a3)]) := ⟨_, rfl⟩;replace H : (ulpref03_Add.l0 k1 l0 l1 ap 1 (wrap64 (a1 + 1))) = some r := zR ad H;have aH := zA ad;clear ad;have H' := zA H;clear H
       go_wp2_with (first | ((with_reducible refine zG 102 rfl ?_); refine zL (some 22) rfl rfl Tryd.func102 #[.slice A0 l0.length c0, .int .i64 a1] rfl ?_; (with_reducible refine (ulpref03_word.calls _ _ l0 a1 a2 _ ?a6 ?a7 A5.out).mono ?_); (case a6 => exact zk (C_below ai.out HB.out)); (case a7 => exact aj.out); rintro e w' ⟨rfl, ⟨nd, rfl⟩⟩; refine ⟨_, rfl, ?_⟩) | ((with_reducible refine zG 102 rfl ?_); refine zL (some 25) rfl rfl Tryd.func102 #[.slice A1 l1.length c1, .int .i64 a1] rfl ?_; (with_reducible refine (ulpref03_word.calls _ _ l1 a1 a4 _ ?a6 ?a7 A6.out).mono ?_); (case a6 => exact zk (C_below ak.out bq)); (case a7 => exact al.out); rintro e w' ⟨rfl, ⟨nd, rfl⟩⟩; refine ⟨_, rfl, ?_⟩) | ((with_reducible refine gate_builtin (b := .append) (xs := #[.tmp 47, .tmp 49]) rfl ?_); at_builtin; refine R_append (Kd.int .u64) (w0 := w) w.heap.size rfl (.tmp 47) (.tmp 49) 23 26 (.int .u64 0) 8 rfl Tryd.underlying23 info26 rfl (by decide) (by omega) u5 a5 (IntKind.u64.wrap ((IntKind.u64.wrap (a2 + a4)) + a3)) [.int .u64 (IntKind.u64.wrap ((IntKind.u64.wrap (a2 + a4)) + a3))] (fun _ => True) (fun _ => False) rfl rfl ?aP (fun _ hk => hk.elim) ?aF ?aO ?aB ?aS ?aL ?_; (case aP => exact rfl); (case aB => exact bq); (case aF => exact (fun _ _ => trivial)); (case aO => exact (ru a9.out)); (case aS => exact (below_size bq)); (case aL => have := aG.out; omega); intro v331 w14 ho hb hg hat; rw [← aH.out] at ho; have n0_ := zA (hb); have n1_ := zA (ho); clear HB; clear a9; have HB := n0_; have aI := n1_; clear n0_ n1_; clear ho hb hg hat))
       (try simp only [← a8])
       go_roundg k1
       case measure => have := HK1.out; omega
       case rel => exact ⟨(ap), (1), (wrap64 (a1 + 1)), zi, zi, (by first | exact H' | (simp only [a8]; exact H') | (simp only [a8] at H' ⊢; exact H')), ⟨by have := HK1.out; omega⟩, ⟨ru aI.out⟩, ⟨bq⟩⟩
      rw [if_neg c12] at H;have aE := decide_eq_false c12;clear c12;replace H := dn H;obtain ⟨c15, H⟩ := H;have aJ := zA c15;clear c15;obtain ⟨aq, ae⟩ : ∃ y_ : List Int, y_ = (a5 ++ [IntKind.u64.wrap ((IntKind.u64.wrap (a2 + a4)) + a3)]) := ⟨_, rfl⟩;replace H : (ulpref03_Add.l0 k1 l0 l1 aq 0 (wrap64 (a1 + 1))) = some r := zR ae H;have aK := zA ae;clear ae;have H' := zA H;clear H
      go_wp2_with (first | ((with_reducible refine zG 102 rfl ?_); refine zL (some 22) rfl rfl Tryd.func102 #[.slice A0 l0.length c0, .int .i64 a1] rfl ?_; (with_reducible refine (ulpref03_word.calls _ _ l0 a1 a2 _ ?a6 ?a7 A5.out).mono ?_); (case a6 => exact zk (C_below ai.out HB.out)); (case a7 => exact aj.out); rintro e w' ⟨rfl, ⟨nd, rfl⟩⟩; refine ⟨_, rfl, ?_⟩) | ((with_reducible refine zG 102 rfl ?_); refine zL (some 25) rfl rfl Tryd.func102 #[.slice A1 l1.length c1, .int .i64 a1] rfl ?_; (with_reducible refine (ulpref03_word.calls _ _ l1 a1 a4 _ ?a6 ?a7 A6.out).mono ?_); (case a6 => exact zk (C_below ak.out bq)); (case a7 => exact al.out); rintro e w' ⟨rfl, ⟨nd, rfl⟩⟩; refine ⟨_, rfl, ?_⟩) | ((with_reducible refine gate_builtin (b := .append) (xs := #[.tmp 47, .tmp 49]) rfl ?_); at_builtin; refine R_append (Kd.int .u64) (w0 := w) w.heap.size rfl (.tmp 47) (.tmp 49) 23 26 (.int .u64 0) 8 rfl Tryd.underlying23 info26 rfl (by decide) (by omega) u5 a5 (IntKind.u64.wrap ((IntKind.u64.wrap (a2 + a4)) + a3)) [.int .u64 (IntKind.u64.wrap ((IntKind.u64.wrap (a2 + a4)) + a3))] (fun _ => True) (fun _ => False) rfl rfl ?aP (fun _ hk => hk.elim) ?aF ?aO ?aB ?aS ?aL ?_; (case aP => exact rfl); (case aB => exact bq); (case aF => exact (fun _ _ => trivial)); (case aO => exact (ru a9.out)); (case aS => exact (below_size bq)); (case aL => have := aJ.out; omega); intro v334 w16 ho hb hg hat; rw [← aK.out] at ho; have n0_ := zA (hb); have n1_ := zA (ho); clear HB; clear a9; have HB := n0_; have aM := n1_; clear n0_ n1_; clear ho hb hg hat))
      (try simp only [← a8])
      go_roundg k1
      case measure => have := HK1.out; omega
      case rel => exact ⟨(aq), (0), (wrap64 (a1 + 1)), zi, zi, (by first | exact H' | (simp only [a8]; exact H') | (simp only [a8] at H' ⊢; exact H')), ⟨by have := HK1.out; omega⟩, ⟨ru aM.out⟩, ⟨bq⟩⟩
     rw [if_neg c11] at H;have aC := beq_eq_false_iff_ne.mpr c11;have aD := bne_iff_ne.mpr c11;replace H := dn H;obtain ⟨c17, H⟩ := H;have aN := zA c17;clear c17;obtain ⟨ar, af⟩ : ∃ y_ : List Int, y_ = (a5 ++ [IntKind.u64.wrap ((IntKind.u64.wrap (a2 + a4)) + a3)]) := ⟨_, rfl⟩;replace H : (ulpref03_Add.l0 k1 l0 l1 ar 0 (wrap64 (a1 + 1))) = some r := zR af H;have aQ := zA af;clear af;have H' := zA H;clear H
     go_wp2_with (first | ((with_reducible refine zG 102 rfl ?_); refine zL (some 22) rfl rfl Tryd.func102 #[.slice A0 l0.length c0, .int .i64 a1] rfl ?_; (with_reducible refine (ulpref03_word.calls _ _ l0 a1 a2 _ ?a6 ?a7 A5.out).mono ?_); (case a6 => exact zk (C_below ai.out HB.out)); (case a7 => exact aj.out); rintro e w' ⟨rfl, ⟨nd, rfl⟩⟩; refine ⟨_, rfl, ?_⟩) | ((with_reducible refine zG 102 rfl ?_); refine zL (some 25) rfl rfl Tryd.func102 #[.slice A1 l1.length c1, .int .i64 a1] rfl ?_; (with_reducible refine (ulpref03_word.calls _ _ l1 a1 a4 _ ?a6 ?a7 A6.out).mono ?_); (case a6 => exact zk (C_below ak.out bq)); (case a7 => exact al.out); rintro e w' ⟨rfl, ⟨nd, rfl⟩⟩; refine ⟨_, rfl, ?_⟩) | ((with_reducible refine gate_builtin (b := .append) (xs := #[.tmp 47, .tmp 49]) rfl ?_); at_builtin; refine R_append (Kd.int .u64) (w0 := w) w.heap.size rfl (.tmp 47) (.tmp 49) 23 26 (.int .u64 0) 8 rfl Tryd.underlying23 info26 rfl (by decide) (by omega) u5 a5 (IntKind.u64.wrap ((IntKind.u64.wrap (a2 + a4)) + a3)) [.int .u64 (IntKind.u64.wrap ((IntKind.u64.wrap (a2 + a4)) + a3))] (fun _ => True) (fun _ => False) rfl rfl ?aP (fun _ hk => hk.elim) ?aF ?aO ?aB ?aS ?aL ?_; (case aP => exact rfl); (case aB => exact bq); (case aF => exact (fun _ _ => trivial)); (case aO => exact (ru a9.out)); (case aS => exact (below_size bq)); (case aL => have := aN.out; omega); intro v337 w18 ho hb hg hat; rw [← aQ.out] at ho; have n0_ := zA (hb); have n1_ := zA (ho); clear HB; clear a9; have HB := n0_; have aR := n1_; clear n0_ n1_; clear ho hb hg hat))
     (try simp only [← a8])
     go_roundg k1
     case measure => have := HK1.out; omega
     case rel => exact ⟨(ar), (0), (wrap64 (a1 + 1)), zi, zi, (by first | exact H' | (simp only [a8]; exact H') | (simp only [a8] at H' ⊢; exact H')), ⟨by have := HK1.out; omega⟩, ⟨ru aR.out⟩, ⟨bq⟩⟩
    rw [if_neg c10] at H;have ay := beq_eq_false_iff_ne.mpr c10;have aA := bne_iff_ne.mpr c10;replace H := dn H;obtain ⟨c19, H⟩ := H;have aT := zA c19;clear c19;obtain ⟨au, ag⟩ : ∃ y_ : List Int, y_ = (a5 ++ [IntKind.u64.wrap ((IntKind.u64.wrap (a2 + a4)) + a3)]) := ⟨_, rfl⟩;replace H : (ulpref03_Add.l0 k1 l0 l1 au 0 (wrap64 (a1 + 1))) = some r := zR ag H;have aU := zA ag;clear ag;have H' := zA H;clear H
    go_wp2_with (first | ((with_reducible refine zG 102 rfl ?_); refine zL (some 22) rfl rfl Tryd.func102 #[.slice A0 l0.length c0, .int .i64 a1] rfl ?_; (with_reducible refine (ulpref03_word.calls _ _ l0 a1 a2 _ ?a6 ?a7 A5.out).mono ?_); (case a6 => exact zk (C_below ai.out HB.out)); (case a7 => exact aj.out); rintro e w' ⟨rfl, ⟨nd, rfl⟩⟩; refine ⟨_, rfl, ?_⟩) | ((with_reducible refine zG 102 rfl ?_); refine zL (some 25) rfl rfl Tryd.func102 #[.slice A1 l1.length c1, .int .i64 a1] rfl ?_; (with_reducible refine (ulpref03_word.calls _ _ l1 a1 a4 _ ?a6 ?a7 A6.out).mono ?_); (case a6 => exact zk (C_below ak.out bq)); (case a7 => exact al.out); rintro e w' ⟨rfl, ⟨nd, rfl⟩⟩; refine ⟨_, rfl, ?_⟩) | ((with_reducible refine gate_builtin (b := .append) (xs := #[.tmp 47, .tmp 49]) rfl ?_); at_builtin; refine R_append (Kd.int .u64) (w0 := w) w.heap.size rfl (.tmp 47) (.tmp 49) 23 26 (.int .u64 0) 8 rfl Tryd.underlying23 info26 rfl (by decide) (by omega) u5 a5 (IntKind.u64.wrap ((IntKind.u64.wrap (a2 + a4)) + a3)) [.int .u64 (IntKind.u64.wrap ((IntKind.u64.wrap (a2 + a4)) + a3))] (fun _ => True) (fun _ => False) rfl rfl ?aP (fun _ hk => hk.elim) ?aF ?aO ?aB ?aS ?aL ?_; (case aP => exact rfl); (case aB => exact bq); (case aF => exact (fun _ _ => trivial)); (case aO => exact (ru a9.out)); (case aS => exact (below_size bq)); (case aL => have := aT.out; omega); intro v340 w20 ho hb hg hat; rw [← aU.out] at ho; have n0_ := zA (hb); have n1_ := zA (ho); clear HB; clear a9; have HB := n0_; have aV := n1_; clear n0_ n1_; clear ho hb hg hat))
    (try simp only [← a8])
    go_roundg k1
    case measure => have := HK1.out; omega
    case rel => exact ⟨(au), (0), (wrap64 (a1 + 1)), zi, zi, (by first | exact H' | (simp only [a8]; exact H') | (simp only [a8] at H' ⊢; exact H')), ⟨by have := HK1.out; omega⟩, ⟨ru aV.out⟩, ⟨bq⟩⟩
   rw [if_neg c4] at H;have az := decide_eq_false c4;clear c4;replace H := dn H;obtain ⟨c21, H⟩ := H;have aW := zA c21;clear c21;obtain ⟨am, ah⟩ : ∃ y_ : List Int, y_ = (a5 ++ [a3]) := ⟨_, rfl⟩;replace H : ((ulpref03_Norm.f k1 am).bind fun ab => (some ab)) = some r := zR ah H;have aX := zA ah;clear ah;obtain ⟨ab, b5, H⟩ := zh H;obtain rfl := Option.some.inj H
   go_wp2_with (first | ((with_reducible refine gate_builtin (b := .append) (xs := #[.tmp 51, .tmp 53]) rfl ?_); at_builtin; refine R_append (Kd.int .u64) (w0 := w) w.heap.size rfl (.tmp 51) (.tmp 53) 23 26 (.int .u64 0) 8 rfl Tryd.underlying23 info26 rfl (by decide) (by omega) u5 a5 a3 [.int .u64 a3] (fun _ => True) (fun _ => False) rfl rfl ?aP (fun _ hk => hk.elim) ?aF ?aO ?aB ?aS ?aL ?_; (case aP => exact rfl); (case aB => exact bq); (case aF => exact (fun _ _ => trivial)); (case aO => exact (ru a9.out)); (case aS => exact (below_size bq)); (case aL => have := aW.out; omega); intro v320 w23 ho hb hg hat; rw [← aX.out] at ho; have n0_ := zA (hb); have n1_ := zA (ho); clear HB; clear a9; have HB := n0_; have aa := n1_; clear n0_ n1_; clear ho hb hg hat; obtain ⟨b2, b3, b4⟩ := R_slice aa.out; subst b4) | ((with_reducible refine zG 45 rfl ?_); refine zL (some 55) rfl rfl Tryd.func45 #[.slice b2 am.length b3] rfl ?_; (with_reducible refine (ulpref03_Norm.calls k1 _ _ am ab _ ?a6 ?a7 b5.out).mono ?_); (case a6 => exact zk (R_reads' aa.out).2.2); (case a7 => exact (R_reads' aa.out).2.1); rintro e w25 ⟨v323, rfl, av, hb⟩; refine ⟨_, rfl, ?_⟩; have aY := zA (R_lower (R_new' av (R_lt (ru aa.out))) (below_size bq)); replace aa := zA (R_elder' (ru aa.out) (R_base av) hb); replace HB := ze hb; (try clear av)))
   go_ret;exact ⟨_, by first | rfl | (simp [errW_none, errW_some] <;> rfl) | (simp only [← a8]; first | rfl | (simp [errW_none, errW_some] <;> rfl)) | (simp [*, errW_none, errW_some] <;> rfl), ru (R_mono aY.out (fun _ hk => trivial)), bq⟩
mutual
def ulpref03_Shr.l0 : Nat → List Int → Int → Bool → List Int → Int → Int → Option (List Int × Bool)
 | 0, _, _, _, _, _, _ => none
 | k + 1, x0, x1, x6, x24, x25, x26 => if x26 < x25 then (if 0 ≤ x26 then (if x26 < (x24.length : Int) then (if x6 = true then (ulpref03_Shr.l0 k x0 x1 true x24 x25 (wrap64 (x26 + 1))) else (ulpref03_Shr.l0 k x0 x1 ((rd x24 x26) != 0) x24 x25 (wrap64 (x26 + 1)))) else (none)) else (none)) else (ulpref03_Shr.l1 k x0 x1 x6 (IntKind.u64.wrap (Int.tmod x1 64)) ([] : List Int) (wrap64 (Int.tdiv x1 64)))
def ulpref03_Shr.l1 : Nat → List Int → Int → Bool → Int → List Int → Int → Option (List Int × Bool)
 | 0, _, _, _, _, _, _ => none
 | k + 1, x0, x1, x6, x9, x10, x11 => if x11 < (x0.length : Int) then (if 0 ≤ x11 then (if 0 ≤ x9 then (if x9 > 0 then ((ulpref03_word.f x0 (wrap64 (x11 + 1))).bind fun a1 => (if 0 ≤ (IntKind.u64.wrap (64 - x9)) then (if x10.length < 17592186044416 then (ulpref03_Shr.l1 k x0 x1 x6 x9 (x10 ++ [Go.bits .or .u64 (shr .u64 (rd x0 x11) x9) (shl .u64 a1 (IntKind.u64.wrap (64 - x9)))]) (wrap64 (x11 + 1))) else (none)) else (none))) else (if x10.length < 17592186044416 then (ulpref03_Shr.l1 k x0 x1 x6 x9 (x10 ++ [shr .u64 (rd x0 x11) x9]) (wrap64 (x11 + 1))) else (none))) else (none)) else (none)) else (if x9 > 0 then (if x6 = true then ((ulpref03_Norm.f k x10).bind fun a2 => (some (a2, true))) else (if 0 ≤ (wrap64 (Int.tdiv x1 64)) then (if (wrap64 (Int.tdiv x1 64)) < (x0.length : Int) then (if 0 ≤ (IntKind.u64.wrap (64 - x9)) then ((ulpref03_Norm.f k x10).bind fun a3 => (some (a3, ((shl .u64 (rd x0 (wrap64 (Int.tdiv x1 64))) (IntKind.u64.wrap (64 - x9))) != 0)))) else (none)) else (none)) else (none))) else ((ulpref03_Norm.f k x10).bind fun a4 => (some (a4, x6))))
end
def ulpref03_Shr.f (k : Nat) (l0 : List Int) (a1 : Int) : Option (List Int × Bool) := if a1 ≥ (wrap64 (64 * (l0.length : Int))) then ((ulpref03_Len.f k l0).bind fun a2 => (some (([] : List Int), decide (a2 > 0)))) else (if 0 ≤ (wrap64 (Int.tdiv a1 64)) then (if (wrap64 (Int.tdiv a1 64)) ≤ (l0.length : Int) then (ulpref03_Shr.l0 k l0 a1 false (l0.take ((wrap64 (Int.tdiv a1 64)) : Int).toNat) (max (wrap64 (Int.tdiv a1 64)) 0) 0) else (none)) else (none))
set_option maxHeartbeats 8000000 in
set_option maxRecDepth 100000 in
theorem ulpref03_Shr.calls (k : Nat) (A0 : Option Addr) (c0 : Nat) (l0 : List Int) (a1 : Int) (r1 : List Int) (r2 : Bool) (w : World) (hr0 : Kd.C (Kd.int .u64) w A0 l0.length l0) (hc0 : l0.length ≤ c0) (h : ulpref03_Shr.f k l0 a1 = some (r1, r2)) :
  Calls Tryd.prog 72 #[.slice A0 l0.length c0, .int .i64 a1] w fun e w' => ∃ v0_ : Value, e = .returned (.tuple #[v0_, .bool r2]) ∧ Kd.R (Kd.int .u64) 26 w' w.heap.size (fun _ => True) v0_ r1 ∧ Below w.heap.size w w' := by
 have au := zA hr0;have aG := zA hc0;clear hr0 hc0;have HB := zA (Below.refl w.heap.size w);have H : (if a1 ≥ (wrap64 (64 * (l0.length : Int))) then ((ulpref03_Len.f k l0).bind fun ax => (some (([] : List Int), decide (ax > 0)))) else (if 0 ≤ (wrap64 (Int.tdiv a1 64)) then (if (wrap64 (Int.tdiv a1 64)) ≤ (l0.length : Int) then (ulpref03_Shr.l0 k l0 a1 false (l0.take ((wrap64 (Int.tdiv a1 64)) : Int).toNat) (max (wrap64 (Int.tdiv a1 64)) 0) 0) else (none)) else (none))) = some (r1, r2) := h;clear h
 by_cases c3 : a1 ≥ (wrap64 (64 * (l0.length : Int)))
 ·rw [if_pos c3] at H;have ay := decide_eq_true c3;clear c3;obtain ⟨ax, A4, H⟩ := zh H;simp only [Option.some.injEq, Prod.mk.injEq] at H;obtain ⟨rfl, rfl⟩ := H;go_enter Tryd.func72, Tryd.ntmps72
  go_wp2_with (first | ((with_reducible refine zG 69 rfl ?_); refine zL (some 19) rfl rfl Tryd.func69 #[.slice A0 l0.length c0] rfl ?_; (with_reducible refine (ulpref03_Len.calls k _ _ l0 ax _ ?ad ?ae A4.out).mono ?_); (case ad => exact zk au.out); (case ae => exact aG.out); rintro e w5 ⟨rfl, hb⟩; refine ⟨_, rfl, ?_⟩; replace HB := ze hb))
  go_ret2
  exact ⟨_, er, by first | exact R_nil _ _ _ _ _ | exact Kd.N_nil _ _ _ _ _ | exact V_nil _ _ _ _ _ | exact Kd.Q_nil _ _ _ _ _ | exact Kd.S_nil _ _ _ _ _, bq⟩
 rw [if_neg c3] at H;have ay := decide_eq_false c3;clear c3;obtain ⟨a6, a8⟩ : ∃ j_ : Int, (wrap64 (Int.tdiv a1 64)) = j_ := ⟨_, rfl⟩;replace H : (if 0 ≤ (a6) then (if (a6) ≤ (l0.length : Int) then (ulpref03_Shr.l0 k l0 a1 false (l0.take ((a6) : Int).toNat) (max (a6) 0) 0) else (none)) else (none)) = some (r1, r2) := zQ a8 H;have hji6w : (IntKind.i64.wrap (Int.tdiv a1 64)) = a6 := (i64_w _).trans a8;replace H := dn H;obtain ⟨c7, H⟩ := H;have aH := eq_true c7;have aI := decide_eq_true c7;clear c7;replace H := dn H;obtain ⟨c8, H⟩ := H;have aJ := eq_true c8;have aK := decide_eq_true c8;clear c8;have H' := zA H;clear H;obtain ⟨i09, hi09, _, hsz9, _⟩ := info_parts info26;obtain ⟨hcut9, hA9, hC9⟩ := print_take_of (P := Tryd.prog) (Value.int .u64) 0 23 26 .i64 Tryd.underlying23 hi09 hsz9 A0 c0 l0 (a6) (od) (od) aG.out;have aC := zA (C_of_reads (h1 := fun _ => rfl) (hA9 _ (Kd.reads_of_C au.out)));have bl := zA hC9;clear hA9 hC9 hi09 hsz9;go_enter Tryd.func72, Tryd.ntmps72
 go_wp2
 go_loopg [6, 26] k (fun kq v6 v26 w' => ∃ (aa : Bool) (a7 : Int), v6 = .bool aa ∧ v26 = .int .i64 a7 ∧ Aside0 (ulpref03_Shr.l0 kq l0 a1 aa (l0.take ((a6) : Int).toNat) (max (a6) 0) a7 = some (r1, r2)) ∧ Aside0 (kq ≤ k) ∧ Aside0 (Below w.heap.size w w'))
 case atStart => exact ⟨(false), (0), zi, zi, H', ⟨Nat.le_refl _⟩, ⟨bq⟩⟩
 case round =>
  clear H'
  try clear c3
  try clear ay
  try clear c6
  try clear c7
  try clear aH
  try clear aI
  try clear c8
  try clear aJ
  try clear aK
  obtain ⟨aa, a7, rfl, rfl, HA, HK1, HB⟩ := hrel
  cases gk with
  | zero => exact absurd HA.out (by simp [ulpref03_Shr.l0])
  | succ k1 =>
   have H := HA.out;clear HA;simp only [ulpref03_Shr.l0] at H
   by_cases c10 : a7 < (max (a6) 0)
   ·rw [if_pos c10] at H;have aD := decide_eq_true c10;have c10bx : (a7 < (max (a6) 0)) = True := eq_true c10;clear c10;replace H := dn H;obtain ⟨c11, H⟩ := H;have aR := decide_eq_true c11;clear c11;replace H := dn H;obtain ⟨c12, H⟩ := H;have aT : decide (a7 < ((l0.take ((a6) : Int).toNat).length : Int)) = true := decide_eq_true c12;clear c12
    by_cases c13 : aa = true
    ·subst c13;rw [if_pos rfl] at H;have H' := zA H;clear H;have p284 : 0 ≤ (a7 : Int) := od;have q284 : a7 < ((l0.take ((a6) : Int).toNat).length : Int) := od;obtain ⟨ad284, e284, a9⟩ := Kd.at_int aC.out a7 p284 q284;cases e284;replace a9 := (HB.out.cell (World.block_lt_of_cell? w _ a9)).trans a9;replace p284 := eq_true p284;replace q284 := eq_true q284
     go_wp2
     go_roundg k1
     case measure => have := HK1.out; omega
     case rel => exact ⟨(true), (wrap64 (a7 + 1)), zi, zi, (by first | exact H' | (simp only [a8]; exact H') | (simp only [a8] at H' ⊢; exact H')), ⟨by have := HK1.out; omega⟩, ⟨bq⟩⟩
    replace c13 := Bool.eq_false_iff.mpr c13;subst c13;rw [if_neg (show ¬ (false = true) by decide)] at H;have H' := zA H;clear H;have p284 : 0 ≤ (a7 : Int) := od;have q284 : a7 < ((l0.take ((a6) : Int).toNat).length : Int) := od;obtain ⟨ad284, e284, a9⟩ := Kd.at_int aC.out a7 p284 q284;cases e284;replace a9 := (HB.out.cell (World.block_lt_of_cell? w _ a9)).trans a9;replace p284 := eq_true p284;replace q284 := eq_true q284
    go_wp2
    go_roundg k1
    case measure => have := HK1.out; omega
    case rel => exact ⟨(((rd (l0.take ((a6) : Int).toNat) a7) != 0)), (wrap64 (a7 + 1)), (by first | rfl | (simp; done) | (simp only [← a8] <;> (first | rfl | simp)) | (simp [*]; done)), zi, (by first | exact H' | (simp only [a8]; exact H') | (simp only [a8] at H' ⊢; exact H')), ⟨by have := HK1.out; omega⟩, ⟨bq⟩⟩
   rw [if_neg c10] at H;have aD := decide_eq_false c10;clear c10;have H' := zA H;clear H
   go_wp2
   go_loopg [10, 11] k1 (fun kq v10 v11 w' => ∃ (a3 : List Int) (a2 : Int), v11 = .int .i64 a2 ∧ Aside0 (ulpref03_Shr.l1 kq l0 a1 aa (IntKind.u64.wrap (Int.tmod a1 64)) a3 a2 = some (r1, r2)) ∧ Aside0 (kq ≤ k1) ∧ Aside0 (Kd.R (Kd.int .u64) 26 w' w.heap.size (fun _ => True) v10 a3) ∧ Aside0 (Below w.heap.size w w'))
   case atStart => exact ⟨(([] : List Int)), (wrap64 (Int.tdiv a1 64)), zi, H', ⟨Nat.le_refl _⟩, ⟨by first | exact R_nil _ _ _ _ _ | exact Kd.N_nil _ _ _ _ _ | exact V_nil _ _ _ _ _ | exact Kd.Q_nil _ _ _ _ _ | exact Kd.S_nil _ _ _ _ _⟩, ⟨bq⟩⟩
   case round =>
    clear H'
    try clear c1
    try clear c3
    try clear ay
    try clear c6
    try clear c7
    try clear aH
    try clear aI
    try clear c8
    try clear aJ
    try clear aK
    try clear c10
    try clear aD
    try clear c11
    try clear aR
    try clear c12
    try clear aT
    try clear c13
    try clear a9
    try clear p284
    try clear q284
    obtain ⟨a3, a2, rfl, HA, HK2, a4, HB⟩ := hrel
    cases gk with
    | zero => exact absurd HA.out (by simp [ulpref03_Shr.l1])
    | succ k2 =>
     have H := HA.out;clear HA;simp only [ulpref03_Shr.l1] at H
     by_cases c14 : a2 < (l0.length : Int)
     ·rw [if_pos c14] at H;have aU := decide_eq_true c14;clear c14;replace H := dn H;obtain ⟨c15, H⟩ := H;have bm := decide_eq_true c15;clear c15;obtain ⟨a5, af⟩ : ∃ j_ : Int, (IntKind.u64.wrap (Int.tmod a1 64)) = j_ := ⟨_, rfl⟩;replace H : (if 0 ≤ (a5) then (if (a5) > 0 then ((ulpref03_word.f l0 (wrap64 (a2 + 1))).bind fun ag => (if 0 ≤ (IntKind.u64.wrap (64 - (a5))) then (if a3.length < 17592186044416 then (ulpref03_Shr.l1 k2 l0 a1 aa (a5) (a3 ++ [Go.bits .or .u64 (shr .u64 (rd l0 a2) (a5)) (shl .u64 ag (IntKind.u64.wrap (64 - (a5))))]) (wrap64 (a2 + 1))) else (none)) else (none))) else (if a3.length < 17592186044416 then (ulpref03_Shr.l1 k2 l0 a1 aa (a5) (a3 ++ [shr .u64 (rd l0 a2) (a5)]) (wrap64 (a2 + 1))) else (none))) else (none)) = some (r1, r2) := zQ af H;replace H := dn H;obtain ⟨c17, H⟩ := H;have bn := eq_true c17;have bo := decide_eq_true c17;clear c17;obtain ⟨ac, ah⟩ : ∃ j_ : Int, (shr .u64 (rd l0 a2) (a5)) = j_ := ⟨_, rfl⟩;replace H : (if (a5) > 0 then ((ulpref03_word.f l0 (wrap64 (a2 + 1))).bind fun ag => (if 0 ≤ (IntKind.u64.wrap (64 - (a5))) then (if a3.length < 17592186044416 then (ulpref03_Shr.l1 k2 l0 a1 aa (a5) (a3 ++ [Go.bits .or .u64 (ac) (shl .u64 ag (IntKind.u64.wrap (64 - (a5))))]) (wrap64 (a2 + 1))) else (none)) else (none))) else (if a3.length < 17592186044416 then (ulpref03_Shr.l1 k2 l0 a1 aa (a5) (a3 ++ [ac]) (wrap64 (a2 + 1))) else (none))) = some (r1, r2) := zQ ah H;have hji18_ : ((rd l0 a2) / 2 ^ min (a5).toNat 64) = ac := ah;have hji18z : (a5) ≤ 64 → ((rd l0 a2) / 2 ^ (a5).toNat) = ac := shr_small ah
      by_cases c19 : (a5) > 0
      ·rw [if_pos c19] at H;have aV := decide_eq_true c19;clear c19;obtain ⟨ag, aM, H⟩ := zh H;obtain ⟨am, al⟩ : ∃ j_ : Int, (IntKind.u64.wrap (64 - (a5))) = j_ := ⟨_, rfl⟩;replace H : (if 0 ≤ (am) then (if a3.length < 17592186044416 then (ulpref03_Shr.l1 k2 l0 a1 aa (a5) (a3 ++ [Go.bits .or .u64 (ac) (shl .u64 ag (am))]) (wrap64 (a2 + 1))) else (none)) else (none)) = some (r1, r2) := zQ al H;(try rw [al] at aM);replace H := dn H;obtain ⟨c22, H⟩ := H;have bp := eq_true c22;have br := decide_eq_true c22;clear c22;obtain ⟨an, aj⟩ : ∃ j_ : Int, (shl .u64 ag (am)) = j_ := ⟨_, rfl⟩;replace H : (if a3.length < 17592186044416 then (ulpref03_Shr.l1 k2 l0 a1 aa (a5) (a3 ++ [Go.bits .or .u64 (ac) (an)]) (wrap64 (a2 + 1))) else (none)) = some (r1, r2) := zQ aj H;(try rw [aj] at aM);have hji23_ : (IntKind.u64.wrap (ag * 2 ^ min (am).toNat 64)) = an := aj;have hji23z : (am) ≤ 64 → (IntKind.u64.wrap (ag * 2 ^ (am).toNat)) = an := shl_small aj;replace H := dn H;obtain ⟨c24, H⟩ := H;have aW := zA c24;clear c24;obtain ⟨aN, av⟩ : ∃ y_ : List Int, y_ = (a3 ++ [Go.bits .or .u64 (ac) (an)]) := ⟨_, rfl⟩;replace H : (ulpref03_Shr.l1 k2 l0 a1 aa (a5) aN (wrap64 (a2 + 1))) = some (r1, r2) := zR av H;have aX := zA av;clear av;have H' := zA H;clear H;have p285 : 0 ≤ (a2 : Int) := od;have q285 : a2 < (l0.length : Int) := od;obtain ⟨ad285, e285, ab⟩ := Kd.at_int au.out a2 p285 q285;cases e285;replace ab := (HB.out.cell (World.block_lt_of_cell? w _ ab)).trans ab;replace p285 := eq_true p285;replace q285 := eq_true q285
       go_wp2_with (first | ((with_reducible refine zG 102 rfl ?_); refine zL (some 59) rfl rfl Tryd.func102 #[.slice (some ad285) l0.length c0, .int .i64 (wrap64 (a2 + 1))] rfl ?_; (with_reducible refine (ulpref03_word.calls _ _ l0 (wrap64 (a2 + 1)) ag _ ?ad ?ae aM.out).mono ?_); (case ad => exact zk (C_below au.out HB.out)); (case ae => exact aG.out); rintro e w' ⟨rfl, ⟨nd, rfl⟩⟩; refine ⟨_, rfl, ?_⟩) | ((with_reducible refine gate_builtin (b := .append) (xs := #[.tmp 64, .tmp 66]) rfl ?_); at_builtin; refine R_append (Kd.int .u64) (w0 := w) w.heap.size rfl (.tmp 64) (.tmp 66) 23 26 (.int .u64 0) 8 rfl Tryd.underlying23 info26 rfl (by decide) (by omega) u10 a3 (Go.bits .or .u64 (ac) (an)) [.int .u64 (Go.bits .or .u64 (ac) (an))] (fun _ => True) (fun _ => False) rfl rfl ?aP (fun _ hk => hk.elim) ?aF ?aO ?aB ?aS ?aL ?_; (case aP => exact rfl); (case aB => exact bq); (case aF => exact (fun _ _ => trivial)); (case aO => exact (ru a4.out)); (case aS => exact (below_size bq)); (case aL => have := aW.out; omega); intro v288 w25 ho hb hg hat; rw [← aX.out] at ho; have n0_ := zA (hb); have n1_ := zA (ho); clear HB; clear a4; have HB := n0_; have aY := n1_; clear n0_ n1_; clear ho hb hg hat))
       (try simp only [← af, ← al])
       go_roundg k2
       case measure => have := HK1.out; have := HK2.out; omega
       case rel => exact ⟨(aN), (wrap64 (a2 + 1)), zi, (by first | exact H' | (simp only [a8, af, ah, al, aj]; exact H') | (simp only [a8, af, ah, al, aj] at H' ⊢; exact H')), ⟨by have := HK1.out; have := HK2.out; omega⟩, ⟨ru aY.out⟩, ⟨bq⟩⟩
      rw [if_neg c19] at H;have aV := decide_eq_false c19;clear c19;replace H := dn H;obtain ⟨c26, H⟩ := H;have az := zA c26;clear c26;obtain ⟨aQ, aw⟩ : ∃ y_ : List Int, y_ = (a3 ++ [ac]) := ⟨_, rfl⟩;replace H : (ulpref03_Shr.l1 k2 l0 a1 aa (a5) aQ (wrap64 (a2 + 1))) = some (r1, r2) := zR aw H;have aZ := zA aw;clear aw;have H' := zA H;clear H;have p285 : 0 ≤ (a2 : Int) := od;have q285 : a2 < (l0.length : Int) := od;obtain ⟨ad285, e285, ab⟩ := Kd.at_int au.out a2 p285 q285;cases e285;replace ab := (HB.out.cell (World.block_lt_of_cell? w _ ab)).trans ab;replace p285 := eq_true p285;replace q285 := eq_true q285
      go_wp2_with (first | ((with_reducible refine gate_builtin (b := .append) (xs := #[.tmp 64, .tmp 66]) rfl ?_); at_builtin; refine R_append (Kd.int .u64) (w0 := w) w.heap.size rfl (.tmp 64) (.tmp 66) 23 26 (.int .u64 0) 8 rfl Tryd.underlying23 info26 rfl (by decide) (by omega) u10 a3 ac [.int .u64 ac] (fun _ => True) (fun _ => False) rfl rfl ?aP (fun _ hk => hk.elim) ?aF ?aO ?aB ?aS ?aL ?_; (case aP => exact rfl); (case aB => exact bq); (case aF => exact (fun _ _ => trivial)); (case aO => exact (ru a4.out)); (case aS => exact (below_size bq)); (case aL => have := az.out; omega); intro v291 w27 ho hb hg hat; rw [← aZ.out] at ho; have n0_ := zA (hb); have n1_ := zA (ho); clear HB; clear a4; have HB := n0_; have b1 := n1_; clear n0_ n1_; clear ho hb hg hat))
      (try simp only [← af])
      go_roundg k2
      case measure => have := HK1.out; have := HK2.out; omega
      case rel => exact ⟨(aQ), (wrap64 (a2 + 1)), zi, (by first | exact H' | (simp only [a8, af, ah]; exact H') | (simp only [a8, af, ah] at H' ⊢; exact H')), ⟨by have := HK1.out; have := HK2.out; omega⟩, ⟨ru b1.out⟩, ⟨bq⟩⟩
     rw [if_neg c14] at H;have aU := decide_eq_false c14;clear c14
     by_cases c28 : (IntKind.u64.wrap (Int.tmod a1 64)) > 0
     ·rw [if_pos c28] at H;have b2 := decide_eq_true c28;clear c28
      by_cases c29 : aa = true
      ·subst c29;rw [if_pos rfl] at H;obtain ⟨b6, bi, H⟩ := zh H;simp only [Option.some.injEq, Prod.mk.injEq] at H;obtain ⟨rfl, rfl⟩ := H;obtain ⟨b7, b8, b9⟩ := R_slice a4.out;subst b9
       go_wp2_with (first | ((with_reducible refine zG 45 rfl ?_); refine zL (some 83) rfl rfl Tryd.func45 #[.slice b7 a3.length b8] rfl ?_; (with_reducible refine (ulpref03_Norm.calls k2 _ _ a3 b6 _ ?ad ?ae bi.out).mono ?_); (case ad => exact zk (R_reads' a4.out).2.2); (case ae => exact (R_reads' a4.out).2.1); rintro e w32 ⟨v294, rfl, ai, hb⟩; refine ⟨_, rfl, ?_⟩; have b3 := zA (R_lower (R_new' ai (R_lt (ru a4.out))) (below_size bq)); replace a4 := zA (R_elder' (ru a4.out) (R_base ai) hb); replace HB := ze hb; (try clear ai)))
       go_ret2
       exact ⟨_, by first | rfl | (simp [errW_none, errW_some] <;> rfl) | (simp only [← a8]; first | rfl | (simp [errW_none, errW_some] <;> rfl)) | (simp [*, errW_none, errW_some] <;> rfl), ru (R_mono b3.out (fun _ hk => trivial)), bq⟩
      replace c29 := Bool.eq_false_iff.mpr c29;subst c29;rw [if_neg (show ¬ (false = true) by decide)] at H;obtain ⟨ba, aq⟩ : ∃ j_ : Int, (wrap64 (Int.tdiv a1 64)) = j_ := ⟨_, rfl⟩;obtain rfl : a6 = ba := a8.symm.trans aq;replace H : (if 0 ≤ (a6) then (if (a6) < (l0.length : Int) then (if 0 ≤ (IntKind.u64.wrap (64 - (IntKind.u64.wrap (Int.tmod a1 64)))) then ((ulpref03_Norm.f k2 a3).bind fun ak => (some (ak, ((shl .u64 (rd l0 (a6)) (IntKind.u64.wrap (64 - (IntKind.u64.wrap (Int.tmod a1 64))))) != 0)))) else (none)) else (none)) else (none)) = some (r1, r2) := zQ aq H;have hji33w : (IntKind.i64.wrap (Int.tdiv a1 64)) = a6 := (i64_w _).trans aq;replace H := dn H;obtain ⟨c34, H⟩ := H;have bs := decide_eq_true c34;clear c34;replace H := dn H;obtain ⟨c35, H⟩ := H;have bt := decide_eq_true c35;clear c35;obtain ⟨ao, aE⟩ : ∃ j_ : Int, (IntKind.u64.wrap (64 - (IntKind.u64.wrap (Int.tmod a1 64)))) = j_ := ⟨_, rfl⟩;replace H : (if 0 ≤ (ao) then ((ulpref03_Norm.f k2 a3).bind fun ak => (some (ak, ((shl .u64 (rd l0 (a6)) (ao)) != 0)))) else (none)) = some (r1, r2) := zQ aE H;replace H := dn H;obtain ⟨c37, H⟩ := H;have bu := eq_true c37;have bv := decide_eq_true c37;clear c37;obtain ⟨aA, ar⟩ : ∃ j_ : Int, (shl .u64 (rd l0 (a6)) (ao)) = j_ := ⟨_, rfl⟩;replace H : ((ulpref03_Norm.f k2 a3).bind fun ak => (some (ak, ((aA) != 0)))) = some (r1, r2) := zQ ar H;have hji38_ : (IntKind.u64.wrap ((rd l0 (a6)) * 2 ^ min (ao).toNat 64)) = aA := ar;have hji38z : (ao) ≤ 64 → (IntKind.u64.wrap ((rd l0 (a6)) * 2 ^ (ao).toNat)) = aA := shl_small ar;obtain ⟨ak, bj, H⟩ := zh H;simp only [Option.some.injEq, Prod.mk.injEq] at H;obtain ⟨rfl, rfl⟩ := H;have p296 : 0 ≤ ((a6) : Int) := od;have q296 : (a6) < (l0.length : Int) := od;obtain ⟨ad296, e296, ap⟩ := Kd.at_int au.out (a6) p296 q296;cases e296;replace ap := (HB.out.cell (World.block_lt_of_cell? w _ ap)).trans ap;replace p296 := eq_true p296;replace q296 := eq_true q296;obtain ⟨bb, bc, bd⟩ := R_slice a4.out;subst bd
      go_wp2_with (first | ((with_reducible refine zG 45 rfl ?_); refine zL (some 83) rfl rfl Tryd.func45 #[.slice bb a3.length bc] rfl ?_; (with_reducible refine (ulpref03_Norm.calls k2 _ _ a3 ak _ ?ad ?ae bj.out).mono ?_); (case ad => exact zk (R_reads' a4.out).2.2); (case ae => exact (R_reads' a4.out).2.1); rintro e w41 ⟨v298, rfl, ai, hb⟩; refine ⟨_, rfl, ?_⟩; have b4 := zA (R_lower (R_new' ai (R_lt (ru a4.out))) (below_size bq)); replace a4 := zA (R_elder' (ru a4.out) (R_base ai) hb); replace HB := ze hb; (try clear ai)))
      go_ret2
      exact ⟨_, by first | rfl | (simp [errW_none, errW_some] <;> rfl) | (simp only [← a8, ← aq, ← aE, ← ar]; first | rfl | (simp [errW_none, errW_some] <;> rfl)) | (simp [*, errW_none, errW_some] <;> rfl), ru (R_mono b4.out (fun _ hk => trivial)), bq⟩
     rw [if_neg c28] at H;have b2 := decide_eq_false c28;clear c28;obtain ⟨be, bk, H⟩ := zh H;simp only [Option.some.injEq, Prod.mk.injEq] at H;obtain ⟨rfl, rfl⟩ := H;obtain ⟨bf, bg, bh⟩ := R_slice a4.out;subst bh
     go_wp2_with (first | ((with_reducible refine zG 45 rfl ?_); refine zL (some 83) rfl rfl Tryd.func45 #[.slice bf a3.length bg] rfl ?_; (with_reducible refine (ulpref03_Norm.calls k2 _ _ a3 be _ ?ad ?ae bk.out).mono ?_); (case ad => exact zk (R_reads' a4.out).2.2); (case ae => exact (R_reads' a4.out).2.1); rintro e w44 ⟨v301, rfl, ai, hb⟩; refine ⟨_, rfl, ?_⟩; have b5 := zA (R_lower (R_new' ai (R_lt (ru a4.out))) (below_size bq)); replace a4 := zA (R_elder' (ru a4.out) (R_base ai) hb); replace HB := ze hb; (try clear ai)))
     go_ret2
     exact ⟨_, by first | rfl | (simp [errW_none, errW_some] <;> rfl) | (simp only [← a8]; first | rfl | (simp [errW_none, errW_some] <;> rfl)) | (simp [*, errW_none, errW_some] <;> rfl), ru (R_mono b5.out (fun _ hk => trivial)), bq⟩
def ulpref03_Bit.f (l0 : List Int) (a1 : Int) : Option (Bool) := if a1 ≥ 0 then ((ulpref03_word.f l0 (wrap64 (Int.tdiv a1 64))).bind fun a2 => (if 0 ≤ (IntKind.u64.wrap (Int.tmod a1 64)) then (some ((Int.tmod (shr .u64 a2 (IntKind.u64.wrap (Int.tmod a1 64))) 2) == 1)) else (none))) else (some false)
set_option maxHeartbeats 8000000 in
set_option maxRecDepth 100000 in
theorem ulpref03_Bit.calls (A0 : Option Addr) (c0 : Nat) (l0 : List Int) (a1 : Int) (r : Bool) (w : World) (hr0 : Kd.C (Kd.int .u64) w A0 l0.length l0) (hc0 : l0.length ≤ c0) (h : ulpref03_Bit.f l0 a1 = some r) :
  Calls Tryd.prog 98 #[.slice A0 l0.length c0, .int .i64 a1] w fun e w' => e = .returned (.bool r) ∧ Drawn0 w w' := by
 have aa := zA hr0;have ab := zA hc0;clear hr0 hc0;have H : (if a1 ≥ 0 then ((ulpref03_word.f l0 (wrap64 (Int.tdiv a1 64))).bind fun a2 => (if 0 ≤ (IntKind.u64.wrap (Int.tmod a1 64)) then (some ((Int.tmod (shr .u64 a2 (IntKind.u64.wrap (Int.tmod a1 64))) 2) == 1)) else (none))) else (some false)) = some r := h;clear h
 by_cases c3 : a1 ≥ 0
 ·rw [if_pos c3] at H;have a9 := decide_eq_true c3;clear c3;obtain ⟨a2, A4, H⟩ := zh H;obtain ⟨a4, a5⟩ : ∃ j_ : Int, (IntKind.u64.wrap (Int.tmod a1 64)) = j_ := ⟨_, rfl⟩;replace H : (if 0 ≤ (a4) then (some ((Int.tmod (shr .u64 a2 (a4)) 2) == 1)) else (none)) = some r := zQ a5 H;(try rw [a5] at A4);replace H := dn H;obtain ⟨c6, H⟩ := H;have ac := eq_true c6;have ad := decide_eq_true c6;clear c6;obtain ⟨a6, a3⟩ : ∃ j_ : Int, (shr .u64 a2 (a4)) = j_ := ⟨_, rfl⟩;replace H : (some ((Int.tmod (a6) 2) == 1)) = some r := zQ a3 H;(try rw [a3] at A4);have hji7_ : (a2 / 2 ^ min (a4).toNat 64) = a6 := a3;have hji7z : (a4) ≤ 64 → (a2 / 2 ^ (a4).toNat) = a6 := shr_small a3;obtain rfl := Option.some.inj H;go_enter Tryd.func98, Tryd.ntmps98
  go_wp2_with (first | (go_at_call 102; (with_reducible refine (ulpref03_word.calls _ _ l0 (wrap64 (Int.tdiv a1 64)) a2 _ ?a7 ?a8 A4.out).mono ?_); (case a7 => exact zk aa.out); (case a8 => exact ab.out); rintro e w' ⟨rfl, ⟨nd, rfl⟩⟩))
  go_ret;exact ⟨by first | rfl | (simp; done) | (simp only [← a5, ← a3] <;> (first | rfl | simp)) | (simp [*]; done), by repeat (first | exact Drawn0.refl _ | apply Drawn0.step)⟩
 rw [if_neg c3] at H;have a9 := decide_eq_false c3;clear c3;obtain rfl := Option.some.inj H;go_enter Tryd.func98, Tryd.ntmps98
 go_wp2
 go_ret;exact ⟨by first | rfl | (simp; done) | (simp [*]; done), by repeat (first | exact Drawn0.refl _ | apply Drawn0.step)⟩
def ulpref03_Low.l0 : Nat → List Int → Int → Option (Int)
 | 0, _, _ => none
 | k + 1, x0, x3 => (ulpref03_Bit.f x0 x3).bind fun a1 => (if a1 = true then (some x3) else (ulpref03_Low.l0 k x0 (wrap64 (x3 + 1))))
def ulpref03_Low.f (k : Nat) (l0 : List Int) : Option (Int) := (ulpref03_Len.f k l0).bind fun a1 => (if a1 = 0 then (some 0) else (ulpref03_Low.l0 k l0 0))
set_option maxHeartbeats 8000000 in
set_option maxRecDepth 100000 in
theorem ulpref03_Low.calls (k : Nat) (A0 : Option Addr) (c0 : Nat) (l0 : List Int) (r : Int) (w : World) (hr0 : Kd.C (Kd.int .u64) w A0 l0.length l0) (hc0 : l0.length ≤ c0) (h : ulpref03_Low.f k l0 = some r) :
  Calls Tryd.prog 99 #[.slice A0 l0.length c0] w fun e w' => e = .returned (.int .i64 r) ∧ Below w.heap.size w w' := by
 have a5 := zA hr0;have a6 := zA hc0;clear hr0 hc0;have HB := zA (Below.refl w.heap.size w);have H : ((ulpref03_Len.f k l0).bind fun a4 => (if a4 = 0 then (some 0) else (ulpref03_Low.l0 k l0 0))) = some r := h;clear h;obtain ⟨a4, A2, H⟩ := zh H
 by_cases c3 : a4 = 0
 ·rw [if_pos c3] at H;have a7 := beq_iff_eq.mpr c3;have a8 := bne_eq_false_iff_eq.mpr c3;clear c3;obtain rfl := Option.some.inj H;go_enter Tryd.func99, Tryd.ntmps99
  go_wp2_with (first | ((with_reducible refine zG 69 rfl ?_); refine zL (some 5) rfl rfl Tryd.func69 #[.slice A0 l0.length c0] rfl ?_; (with_reducible refine (ulpref03_Len.calls k _ _ l0 a4 _ ?a1 ?a2 A2.out).mono ?_); (case a1 => exact zk a5.out); (case a2 => exact a6.out); rintro e w4 ⟨rfl, hb⟩; refine ⟨_, rfl, ?_⟩; replace HB := ze hb))
  go_ret;exact ⟨er, bq⟩
 rw [if_neg c3] at H;have a7 := beq_eq_false_iff_ne.mpr c3;have a8 := bne_iff_ne.mpr c3;have H' := zA H;clear H;go_enter Tryd.func99, Tryd.ntmps99
 go_wp2_with (first | ((with_reducible refine zG 69 rfl ?_); refine zL (some 5) rfl rfl Tryd.func69 #[.slice A0 l0.length c0] rfl ?_; (with_reducible refine (ulpref03_Len.calls k _ _ l0 a4 _ ?a1 ?a2 A2.out).mono ?_); (case a1 => exact zk a5.out); (case a2 => exact a6.out); rintro e w5 ⟨rfl, hb⟩; refine ⟨_, rfl, ?_⟩; replace HB := ze hb))
 go_loopg [3] k (fun kq v3 w' => ∃ (a3 : Int), v3 = .int .i64 a3 ∧ Aside0 (ulpref03_Low.l0 kq l0 a3 = some r) ∧ Aside0 (kq ≤ k) ∧ Aside0 (Below w.heap.size w w'))
 case atStart => exact ⟨(0), zi, H', ⟨Nat.le_refl _⟩, ⟨bq⟩⟩
 case round =>
  clear H'
  try clear c3
  try clear a7
  try clear a8
  obtain ⟨a3, rfl, HA, HK1, HB⟩ := hrel
  cases gk with
  | zero => exact absurd HA.out (by simp [ulpref03_Low.l0])
  | succ k1 =>
   have H := HA.out;clear HA;simp only [ulpref03_Low.l0] at H;obtain ⟨a9, A6, H⟩ := zh H
   by_cases c7 : a9 = true
   ·subst c7;rw [if_pos rfl] at H;obtain rfl := Option.some.inj H
    go_wp2_with (first | ((with_reducible refine zG 98 rfl ?_); refine zL (some 9) rfl rfl Tryd.func98 #[.slice A0 l0.length c0, .int .i64 a3] rfl ?_; (with_reducible refine (ulpref03_Bit.calls _ _ l0 a3 true _ ?a1 ?a2 A6.out).mono ?_); (case a1 => exact zk (C_below a5.out HB.out)); (case a2 => exact a6.out); rintro e w' ⟨rfl, ⟨nd, rfl⟩⟩; refine ⟨_, rfl, ?_⟩))
    go_ret;exact ⟨er, bq⟩
   replace c7 := Bool.eq_false_iff.mpr c7;subst c7;rw [if_neg (show ¬ (false = true) by decide)] at H;have H' := zA H;clear H
   go_wp2_with (first | ((with_reducible refine zG 98 rfl ?_); refine zL (some 9) rfl rfl Tryd.func98 #[.slice A0 l0.length c0, .int .i64 a3] rfl ?_; (with_reducible refine (ulpref03_Bit.calls _ _ l0 a3 false _ ?a1 ?a2 A6.out).mono ?_); (case a1 => exact zk (C_below a5.out HB.out)); (case a2 => exact a6.out); rintro e w' ⟨rfl, ⟨nd, rfl⟩⟩; refine ⟨_, rfl, ?_⟩))
   go_roundg k1
   case measure => have := HK1.out; omega
   case rel => exact ⟨(wrap64 (a3 + 1)), zi, H', ⟨by have := HK1.out; omega⟩, ⟨bq⟩⟩
end Go.Proofs.YtnjfckadjklmfaaDoor.PAll
