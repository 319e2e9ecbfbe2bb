/- Printed functions, merged by a program of this session. -/
import Derived.Test.YtnjfckadjklmfaaDoorXRoundNearsP0
import Derived.Test.YtnjfckadjklmfaaDoorXRoundNearsP7
import Derived.Test.YtnjfckadjklmfaaDoorXRoundNearsSh
namespace Go.Proofs.YtnjfckadjklmfaaDoor.PAll
open Go.RowKit Go.Proofs.YtnjfckadjklmfaaDoorW.PrintWords Go.Proofs.YtnjfckadjklmfaaDoorW.PrintLast Go.Proofs.YtnjfckadjklmfaaDoorW.PrintMore Go.Proofs.YtnjfckadjklmfaaDoorW.PrintWords.Kd
attribute [local go_sem] max2_int min2_int max_two min_two max_three min_three max_four min_four   -- for this text's walks alone
set_option linter.unusedVariables false
set_option linter.unusedSimpArgs false
attribute [local go_sem] fld75_0 fld75_1 fld75_2 ext118 ext119
mutual
def ulpref03_Shr.l0 : Nat → List Int → Int → Bool → List Int → Int → Int → Option (List Int × Bool)
 | 0, _, _, _, _, _, _ => none
 | k + 1, x0, x1, x6, x24, x25, x26 => if x26 < x25 then (if 0 ≤ x26 then (if x26 < (x24.length : Int) then (if x6 = true then (ulpref03_Shr.l0 k x0 x1 true x24 x25 (wrap64 (x26 + 1))) else (ulpref03_Shr.l0 k x0 x1 ((rd x24 x26) != 0) x24 x25 (wrap64 (x26 + 1)))) else (none)) else (none)) else (ulpref03_Shr.l1 k x0 x1 x6 (IntKind.u64.wrap (Int.tmod x1 64)) ([] : List Int) (wrap64 (Int.tdiv x1 64)))
def ulpref03_Shr.l1 : Nat → List Int → Int → Bool → Int → List Int → Int → Option (List Int × Bool)
 | 0, _, _, _, _, _, _ => none
 | k + 1, x0, x1, x6, x9, x10, x11 => if x11 < (x0.length : Int) then (if 0 ≤ x11 then (if 0 ≤ x9 then (if x9 > 0 then ((ulpref03_word.f x0 (wrap64 (x11 + 1))).bind fun t286 => (if 0 ≤ (IntKind.u64.wrap (64 - x9)) then (if x10.length < 17592186044416 then (ulpref03_Shr.l1 k x0 x1 x6 x9 (x10 ++ [Go.bits .or .u64 (shr .u64 (rd x0 x11) x9) (shl .u64 t286 (IntKind.u64.wrap (64 - x9)))]) (wrap64 (x11 + 1))) else (none)) else (none))) else (if x10.length < 17592186044416 then (ulpref03_Shr.l1 k x0 x1 x6 x9 (x10 ++ [shr .u64 (rd x0 x11) x9]) (wrap64 (x11 + 1))) else (none))) else (none)) else (none)) else (if x9 > 0 then (if x6 = true then ((ulpref03_Norm.f k x10).bind fun t293 => (some (t293, true))) else (if 0 ≤ (wrap64 (Int.tdiv x1 64)) then (if (wrap64 (Int.tdiv x1 64)) < (x0.length : Int) then (if 0 ≤ (IntKind.u64.wrap (64 - x9)) then ((ulpref03_Norm.f k x10).bind fun t297 => (some (t297, ((shl .u64 (rd x0 (wrap64 (Int.tdiv x1 64))) (IntKind.u64.wrap (64 - x9))) != 0)))) else (none)) else (none)) else (none))) else ((ulpref03_Norm.f k x10).bind fun t300 => (some (t300, x6))))
end
def ulpref03_Shr.f (k : Nat) (l0 : List Int) (a1 : Int) : Option (List Int × Bool) := if a1 ≥ (wrap64 (64 * (l0.length : Int))) then ((ulpref03_Len.f k l0).bind fun t282 => (some (([] : List Int), decide (t282 > 0)))) else (if 0 ≤ (wrap64 (Int.tdiv a1 64)) then (if (wrap64 (Int.tdiv a1 64)) ≤ (l0.length : Int) then (ulpref03_Shr.l0 k l0 a1 false (l0.take ((wrap64 (Int.tdiv a1 64)) : Int).toNat) (max (wrap64 (Int.tdiv a1 64)) 0) 0) else (none)) else (none))
set_option maxHeartbeats 8000000 in
set_option maxRecDepth 100000 in
theorem ulpref03_Shr.calls (k : Nat) (A0 : Option Addr) (c0 : Nat) (l0 : List Int) (a1 : Int) (r1 : List Int) (r2 : Bool) (w : World) (hr0 : Kd.C (Kd.int .u64) w A0 l0.length l0) (hc0 : l0.length ≤ c0) (h : ulpref03_Shr.f k l0 a1 = some (r1, r2)) :
  Calls Tryd.prog 72 #[.slice A0 l0.length c0, .int .i64 a1] w fun e w' => ∃ v0_ : Value, e = .returned (.tuple #[v0_, .bool r2]) ∧ Kd.R (Kd.int .u64) 26 w' w.heap.size (fun _ => True) v0_ r1 ∧ Below w.heap.size w w' := by
 have HR0 := zA hr0
 have HC0 := zA hc0
 clear hr0 hc0
 have HB := zA (Below.refl w.heap.size w)
 have H : (if a1 ≥ (wrap64 (64 * (l0.length : Int))) then ((ulpref03_Len.f k l0).bind fun t282 => (some (([] : List Int), decide (t282 > 0)))) else (if 0 ≤ (wrap64 (Int.tdiv a1 64)) then (if (wrap64 (Int.tdiv a1 64)) ≤ (l0.length : Int) then (ulpref03_Shr.l0 k l0 a1 false (l0.take ((wrap64 (Int.tdiv a1 64)) : Int).toNat) (max (wrap64 (Int.tdiv a1 64)) 0) 0) else (none)) else (none))) = some (r1, r2) := h
 clear h
 by_cases c3 : a1 ≥ (wrap64 (64 * (l0.length : Int)))
 ·rw [if_pos c3] at H
  have c3b0 := decide_eq_true c3
  clear c3
  obtain ⟨t282, A4, H⟩ := zh H
  simp only [Option.some.injEq, Prod.mk.injEq] at H
  obtain ⟨rfl, rfl⟩ := H
  go_enter Tryd.func72, Tryd.ntmps72
  go_wp2_with (first | ((with_reducible refine zG 69 rfl ?_); refine zL (some 19) rfl rfl Tryd.func69 #[.slice A0 l0.length c0] rfl ?_; (with_reducible refine (ulpref03_Len.calls k _ _ l0 t282 _ ?side1 ?side2 A4.out).mono ?_); (case side1 => exact zk HR0.out); (case side2 => exact HC0.out); rintro e w5 ⟨rfl, hb⟩; refine ⟨_, rfl, ?_⟩; replace HB := ze hb))
  go_ret2
  exact ⟨_, er, by first | exact R_nil _ _ _ _ _ | exact Kd.N_nil _ _ _ _ _ | exact V_nil _ _ _ _ _ | exact Kd.Q_nil _ _ _ _ _ | exact Kd.S_nil _ _ _ _ _, bq⟩
 rw [if_neg c3] at H
 have c3b0 := decide_eq_false c3
 clear c3
 obtain ⟨ji6, hji6⟩ : ∃ j_ : Int, (wrap64 (Int.tdiv a1 64)) = j_ := ⟨_, rfl⟩
 replace H : (if 0 ≤ (ji6) then (if (ji6) ≤ (l0.length : Int) then (ulpref03_Shr.l0 k l0 a1 false (l0.take ((ji6) : Int).toNat) (max (ji6) 0) 0) else (none)) else (none)) = some (r1, r2) := zQ hji6 H
 have hji6w : (IntKind.i64.wrap (Int.tdiv a1 64)) = ji6 := (i64_w _).trans hji6
 replace H := dn H
 obtain ⟨c7, H⟩ := H
 have c7b0 := eq_true c7
 have c7b1 := decide_eq_true c7
 clear c7
 replace H := dn H
 obtain ⟨c8, H⟩ := H
 have c8b0 := eq_true c8
 have c8b1 := decide_eq_true c8
 clear c8
 have H' := zA H
 clear H
 obtain ⟨i09, hi09, _, hsz9, _⟩ := info_parts info26
 obtain ⟨hcut9, hA9, hC9⟩ := print_take_of (P := Tryd.prog) (Value.int .u64) 0 23 26 .i64 Tryd.underlying23 hi09 hsz9 A0 c0 l0 (ji6) (od) (od) HC0.out
 have HR283 := zA (C_of_reads (h1 := fun _ => rfl) (hA9 _ (Kd.reads_of_C HR0.out)))
 have HC283 := zA hC9
 clear hA9 hC9 hi09 hsz9
 go_enter Tryd.func72, Tryd.ntmps72
 go_wp2
 go_loopg [6, 26] k (fun kq v6 v26 w' => ∃ (x6_1 : Bool) (x26_1 : Int), v6 = .bool x6_1 ∧ v26 = .int .i64 x26_1 ∧ Aside0 (ulpref03_Shr.l0 kq l0 a1 x6_1 (l0.take ((ji6) : Int).toNat) (max (ji6) 0) x26_1 = some (r1, r2)) ∧ Aside0 (kq ≤ k) ∧ Aside0 (Below w.heap.size w w'))
 case atStart => exact ⟨(false), (0), zi, zi, H', ⟨Nat.le_refl _⟩, ⟨bq⟩⟩
 case round =>
  clear H'
  try clear c3
  try clear c3b0
  try clear c6
  try clear c7
  try clear c7b0
  try clear c7b1
  try clear c8
  try clear c8b0
  try clear c8b1
  obtain ⟨x6_1, x26_1, rfl, rfl, HA, HK1, HB⟩ := hrel
  cases gk with
  | zero => exact absurd HA.out (by simp [ulpref03_Shr.l0])
  | succ k1 =>
   have H := HA.out
   clear HA
   simp only [ulpref03_Shr.l0] at H
   by_cases c10 : x26_1 < (max (ji6) 0)
   ·rw [if_pos c10] at H
    have c10b0 := decide_eq_true c10
    have c10bx : (x26_1 < (max (ji6) 0)) = True := eq_true c10
    clear c10
    replace H := dn H
    obtain ⟨c11, H⟩ := H
    have c11b0 := decide_eq_true c11
    clear c11
    replace H := dn H
    obtain ⟨c12, H⟩ := H
    have c12b0 : decide (x26_1 < ((l0.take ((ji6) : Int).toNat).length : Int)) = true := decide_eq_true c12
    clear c12
    by_cases c13 : x6_1 = true
    ·subst c13
     rw [if_pos rfl] at H
     have H' := zA H
     clear H
     have p284 : 0 ≤ (x26_1 : Int) := od
     have q284 : x26_1 < ((l0.take ((ji6) : Int).toNat).length : Int) := od
     obtain ⟨ad284, e284, hx284_0⟩ := Kd.at_int HR283.out x26_1 p284 q284
     cases e284
     replace hx284_0 := (HB.out.cell (World.block_lt_of_cell? w _ hx284_0)).trans hx284_0
     replace p284 := eq_true p284
     replace q284 := eq_true q284
     go_wp2
     go_roundg k1
     case measure => have := HK1.out; omega
     case rel => exact ⟨(true), (wrap64 (x26_1 + 1)), zi, zi, (by first | exact H' | (simp only [hji6]; exact H') | (simp only [hji6] at H' ⊢; exact H')), ⟨by have := HK1.out; omega⟩, ⟨bq⟩⟩
    replace c13 := Bool.eq_false_iff.mpr c13
    subst c13
    rw [if_neg (show ¬ (false = true) by decide)] at H
    have H' := zA H
    clear H
    have p284 : 0 ≤ (x26_1 : Int) := od
    have q284 : x26_1 < ((l0.take ((ji6) : Int).toNat).length : Int) := od
    obtain ⟨ad284, e284, hx284_0⟩ := Kd.at_int HR283.out x26_1 p284 q284
    cases e284
    replace hx284_0 := (HB.out.cell (World.block_lt_of_cell? w _ hx284_0)).trans hx284_0
    replace p284 := eq_true p284
    replace q284 := eq_true q284
    go_wp2
    go_roundg k1
    case measure => have := HK1.out; omega
    case rel => exact ⟨(((rd (l0.take ((ji6) : Int).toNat) x26_1) != 0)), (wrap64 (x26_1 + 1)), (by first | rfl | (simp; done) | (simp only [← hji6] <;> (first | rfl | simp)) | (simp [*]; done)), zi, (by first | exact H' | (simp only [hji6]; exact H') | (simp only [hji6] at H' ⊢; exact H')), ⟨by have := HK1.out; omega⟩, ⟨bq⟩⟩
   rw [if_neg c10] at H
   have c10b0 := decide_eq_false c10
   clear c10
   have H' := zA H
   clear H
   go_wp2
   go_loopg [10, 11] k1 (fun kq v10 v11 w' => ∃ (x10_2 : List Int) (x11_2 : Int), v11 = .int .i64 x11_2 ∧ Aside0 (ulpref03_Shr.l1 kq l0 a1 x6_1 (IntKind.u64.wrap (Int.tmod a1 64)) x10_2 x11_2 = some (r1, r2)) ∧ Aside0 (kq ≤ k1) ∧ Aside0 (Kd.R (Kd.int .u64) 26 w' w.heap.size (fun _ => True) v10 x10_2) ∧ Aside0 (Below w.heap.size w w'))
   case atStart => exact ⟨(([] : List Int)), (wrap64 (Int.tdiv a1 64)), zi, H', ⟨Nat.le_refl _⟩, ⟨by first | exact R_nil _ _ _ _ _ | exact Kd.N_nil _ _ _ _ _ | exact V_nil _ _ _ _ _ | exact Kd.Q_nil _ _ _ _ _ | exact Kd.S_nil _ _ _ _ _⟩, ⟨bq⟩⟩
   case round =>
    clear H'
    try clear c3
    try clear c3b0
    try clear c6
    try clear c7
    try clear c7b0
    try clear c7b1
    try clear c8
    try clear c8b0
    try clear c8b1
    try clear c10
    try clear c10b0
    try clear c11
    try clear c11b0
    try clear c12
    try clear c12b0
    try clear c13
    try clear hx284_0
    try clear p284
    try clear q284
    obtain ⟨x10_2, x11_2, rfl, HA, HK2, HO_10, HB⟩ := hrel
    cases gk with
    | zero => exact absurd HA.out (by simp [ulpref03_Shr.l1])
    | succ k2 =>
     have H := HA.out
     clear HA
     simp only [ulpref03_Shr.l1] at H
     by_cases c14 : x11_2 < (l0.length : Int)
     ·rw [if_pos c14] at H
      have c14b0 := decide_eq_true c14
      clear c14
      replace H := dn H
      obtain ⟨c15, H⟩ := H
      have c15b0 := decide_eq_true c15
      clear c15
      obtain ⟨ji16, hji16⟩ : ∃ j_ : Int, (IntKind.u64.wrap (Int.tmod a1 64)) = j_ := ⟨_, rfl⟩
      replace H : (if 0 ≤ (ji16) then (if (ji16) > 0 then ((ulpref03_word.f l0 (wrap64 (x11_2 + 1))).bind fun t286 => (if 0 ≤ (IntKind.u64.wrap (64 - (ji16))) then (if x10_2.length < 17592186044416 then (ulpref03_Shr.l1 k2 l0 a1 x6_1 (ji16) (x10_2 ++ [Go.bits .or .u64 (shr .u64 (rd l0 x11_2) (ji16)) (shl .u64 t286 (IntKind.u64.wrap (64 - (ji16))))]) (wrap64 (x11_2 + 1))) else (none)) else (none))) else (if x10_2.length < 17592186044416 then (ulpref03_Shr.l1 k2 l0 a1 x6_1 (ji16) (x10_2 ++ [shr .u64 (rd l0 x11_2) (ji16)]) (wrap64 (x11_2 + 1))) else (none))) else (none)) = some (r1, r2) := zQ hji16 H
      replace H := dn H
      obtain ⟨c17, H⟩ := H
      have c17b0 := eq_true c17
      have c17b1 := decide_eq_true c17
      clear c17
      obtain ⟨ji18, hji18⟩ : ∃ j_ : Int, (shr .u64 (rd l0 x11_2) (ji16)) = j_ := ⟨_, rfl⟩
      replace H : (if (ji16) > 0 then ((ulpref03_word.f l0 (wrap64 (x11_2 + 1))).bind fun t286 => (if 0 ≤ (IntKind.u64.wrap (64 - (ji16))) then (if x10_2.length < 17592186044416 then (ulpref03_Shr.l1 k2 l0 a1 x6_1 (ji16) (x10_2 ++ [Go.bits .or .u64 (ji18) (shl .u64 t286 (IntKind.u64.wrap (64 - (ji16))))]) (wrap64 (x11_2 + 1))) else (none)) else (none))) else (if x10_2.length < 17592186044416 then (ulpref03_Shr.l1 k2 l0 a1 x6_1 (ji16) (x10_2 ++ [ji18]) (wrap64 (x11_2 + 1))) else (none))) = some (r1, r2) := zQ hji18 H
      have hji18_ : ((rd l0 x11_2) / 2 ^ min (ji16).toNat 64) = ji18 := hji18
      have hji18z : (ji16) ≤ 64 → ((rd l0 x11_2) / 2 ^ (ji16).toNat) = ji18 := shr_small hji18
      by_cases c19 : (ji16) > 0
      ·rw [if_pos c19] at H
       have c19b0 := decide_eq_true c19
       clear c19
       obtain ⟨t286, A20, H⟩ := zh H
       obtain ⟨ji21, hji21⟩ : ∃ j_ : Int, (IntKind.u64.wrap (64 - (ji16))) = j_ := ⟨_, rfl⟩
       replace H : (if 0 ≤ (ji21) then (if x10_2.length < 17592186044416 then (ulpref03_Shr.l1 k2 l0 a1 x6_1 (ji16) (x10_2 ++ [Go.bits .or .u64 (ji18) (shl .u64 t286 (ji21))]) (wrap64 (x11_2 + 1))) else (none)) else (none)) = some (r1, r2) := zQ hji21 H
       (try rw [hji21] at A20)
       replace H := dn H
       obtain ⟨c22, H⟩ := H
       have c22b0 := eq_true c22
       have c22b1 := decide_eq_true c22
       clear c22
       obtain ⟨ji23, hji23⟩ : ∃ j_ : Int, (shl .u64 t286 (ji21)) = j_ := ⟨_, rfl⟩
       replace H : (if x10_2.length < 17592186044416 then (ulpref03_Shr.l1 k2 l0 a1 x6_1 (ji16) (x10_2 ++ [Go.bits .or .u64 (ji18) (ji23)]) (wrap64 (x11_2 + 1))) else (none)) = some (r1, r2) := zQ hji23 H
       (try rw [hji23] at A20)
       have hji23_ : (IntKind.u64.wrap (t286 * 2 ^ min (ji21).toNat 64)) = ji23 := hji23
       have hji23z : (ji21) ≤ 64 → (IntKind.u64.wrap (t286 * 2 ^ (ji21).toNat)) = ji23 := shl_small hji23
       replace H := dn H
       obtain ⟨c24, H⟩ := H
       have LMc24 := zA c24
       clear c24
       obtain ⟨y287, hy287⟩ : ∃ y_ : List Int, y_ = (x10_2 ++ [Go.bits .or .u64 (ji18) (ji23)]) := ⟨_, rfl⟩
       replace H : (ulpref03_Shr.l1 k2 l0 a1 x6_1 (ji16) y287 (wrap64 (x11_2 + 1))) = some (r1, r2) := zR hy287 H
       have Ny287 := zA hy287
       clear hy287
       have H' := zA H
       clear H
       have p285 : 0 ≤ (x11_2 : Int) := od
       have q285 : x11_2 < (l0.length : Int) := od
       obtain ⟨ad285, e285, hx285_0⟩ := Kd.at_int HR0.out x11_2 p285 q285
       cases e285
       replace hx285_0 := (HB.out.cell (World.block_lt_of_cell? w _ hx285_0)).trans hx285_0
       replace p285 := eq_true p285
       replace q285 := eq_true q285
       go_wp2_with (first | ((with_reducible refine zG 102 rfl ?_); refine zL (some 59) rfl rfl Tryd.func102 #[.slice (some ad285) l0.length c0, .int .i64 (wrap64 (x11_2 + 1))] rfl ?_; (with_reducible refine (ulpref03_word.calls _ _ l0 (wrap64 (x11_2 + 1)) t286 _ ?side1 ?side2 A20.out).mono ?_); (case side1 => exact zk (C_below HR0.out HB.out)); (case side2 => exact HC0.out); rintro e w' ⟨rfl, ⟨nd, rfl⟩⟩; refine ⟨_, rfl, ?_⟩) | ((with_reducible refine gate_builtin (b := .append) (xs := #[.tmp 64, .tmp 66]) rfl ?_); at_builtin; refine R_append (Kd.int .u64) (w0 := w) w.heap.size rfl (.tmp 64) (.tmp 66) 23 26 (.int .u64 0) 8 rfl Tryd.underlying23 info26 rfl (by decide) (by omega) u10 x10_2 (Go.bits .or .u64 (ji18) (ji23)) [.int .u64 (Go.bits .or .u64 (ji18) (ji23))] (fun _ => True) (fun _ => False) rfl rfl ?aP (fun _ hk => hk.elim) ?aF ?aO ?aB ?aS ?aL ?_; (case aP => exact rfl); (case aB => exact bq); (case aF => exact (fun _ _ => trivial)); (case aO => exact (ru HO_10.out)); (case aS => exact (below_size bq)); (case aL => have := LMc24.out; omega); intro v288 w25 ho hb hg hat; rw [← Ny287.out] at ho; have n0_ := zA (hb); have n1_ := zA (ho); clear HB; clear HO_10; have HB := n0_; have HO289 := n1_; clear n0_ n1_; clear ho hb hg hat))
       (try simp only [← hji16, ← hji21])
       go_roundg k2
       case measure => have := HK1.out; have := HK2.out; omega
       case rel => exact ⟨(y287), (wrap64 (x11_2 + 1)), zi, (by first | exact H' | (simp only [hji6, hji16, hji18, hji21, hji23]; exact H') | (simp only [hji6, hji16, hji18, hji21, hji23] at H' ⊢; exact H')), ⟨by have := HK1.out; have := HK2.out; omega⟩, ⟨ru HO289.out⟩, ⟨bq⟩⟩
      rw [if_neg c19] at H
      have c19b0 := decide_eq_false c19
      clear c19
      replace H := dn H
      obtain ⟨c26, H⟩ := H
      have LMc26 := zA c26
      clear c26
      obtain ⟨y290, hy290⟩ : ∃ y_ : List Int, y_ = (x10_2 ++ [ji18]) := ⟨_, rfl⟩
      replace H : (ulpref03_Shr.l1 k2 l0 a1 x6_1 (ji16) y290 (wrap64 (x11_2 + 1))) = some (r1, r2) := zR hy290 H
      have Ny290 := zA hy290
      clear hy290
      have H' := zA H
      clear H
      have p285 : 0 ≤ (x11_2 : Int) := od
      have q285 : x11_2 < (l0.length : Int) := od
      obtain ⟨ad285, e285, hx285_0⟩ := Kd.at_int HR0.out x11_2 p285 q285
      cases e285
      replace hx285_0 := (HB.out.cell (World.block_lt_of_cell? w _ hx285_0)).trans hx285_0
      replace p285 := eq_true p285
      replace q285 := eq_true q285
      go_wp2_with (first | ((with_reducible refine gate_builtin (b := .append) (xs := #[.tmp 64, .tmp 66]) rfl ?_); at_builtin; refine R_append (Kd.int .u64) (w0 := w) w.heap.size rfl (.tmp 64) (.tmp 66) 23 26 (.int .u64 0) 8 rfl Tryd.underlying23 info26 rfl (by decide) (by omega) u10 x10_2 ji18 [.int .u64 ji18] (fun _ => True) (fun _ => False) rfl rfl ?aP (fun _ hk => hk.elim) ?aF ?aO ?aB ?aS ?aL ?_; (case aP => exact rfl); (case aB => exact bq); (case aF => exact (fun _ _ => trivial)); (case aO => exact (ru HO_10.out)); (case aS => exact (below_size bq)); (case aL => have := LMc26.out; omega); intro v291 w27 ho hb hg hat; rw [← Ny290.out] at ho; have n0_ := zA (hb); have n1_ := zA (ho); clear HB; clear HO_10; have HB := n0_; have HO292 := n1_; clear n0_ n1_; clear ho hb hg hat))
      (try simp only [← hji16])
      go_roundg k2
      case measure => have := HK1.out; have := HK2.out; omega
      case rel => exact ⟨(y290), (wrap64 (x11_2 + 1)), zi, (by first | exact H' | (simp only [hji6, hji16, hji18]; exact H') | (simp only [hji6, hji16, hji18] at H' ⊢; exact H')), ⟨by have := HK1.out; have := HK2.out; omega⟩, ⟨ru HO292.out⟩, ⟨bq⟩⟩
     rw [if_neg c14] at H
     have c14b0 := decide_eq_false c14
     clear c14
     by_cases c28 : (IntKind.u64.wrap (Int.tmod a1 64)) > 0
     ·rw [if_pos c28] at H
      have c28b0 := decide_eq_true c28
      clear c28
      by_cases c29 : x6_1 = true
      ·subst c29
       rw [if_pos rfl] at H
       obtain ⟨t293, A30, H⟩ := zh H
       simp only [Option.some.injEq, Prod.mk.injEq] at H
       obtain ⟨rfl, rfl⟩ := H
       obtain ⟨Ao31, co31, eo31⟩ := R_slice HO_10.out
       subst eo31
       go_wp2_with (first | ((with_reducible refine zG 45 rfl ?_); refine zL (some 83) rfl rfl Tryd.func45 #[.slice Ao31 x10_2.length co31] rfl ?_; (with_reducible refine (ulpref03_Norm.calls k2 _ _ x10_2 t293 _ ?side1 ?side2 A30.out).mono ?_); (case side1 => exact zk (R_reads' HO_10.out).2.2); (case side2 => exact (R_reads' HO_10.out).2.1); rintro e w32 ⟨v294, rfl, ho0, hb⟩; refine ⟨_, rfl, ?_⟩; have HO295 := zA (R_lower (R_new' ho0 (R_lt (ru HO_10.out))) (below_size bq)); replace HO_10 := zA (R_elder' (ru HO_10.out) (R_base ho0) hb); replace HB := ze hb; (try clear ho0)))
       go_ret2
       exact ⟨_, by first | rfl | (simp [errW_none, errW_some] <;> rfl) | (simp only [← hji6]; first | rfl | (simp [errW_none, errW_some] <;> rfl)) | (simp [*, errW_none, errW_some] <;> rfl), ru (R_mono HO295.out (fun _ hk => trivial)), bq⟩
      replace c29 := Bool.eq_false_iff.mpr c29
      subst c29
      rw [if_neg (show ¬ (false = true) by decide)] at H
      obtain ⟨ji33, hji33⟩ : ∃ j_ : Int, (wrap64 (Int.tdiv a1 64)) = j_ := ⟨_, rfl⟩
      obtain rfl : ji6 = ji33 := hji6.symm.trans hji33
      replace H : (if 0 ≤ (ji6) then (if (ji6) < (l0.length : Int) then (if 0 ≤ (IntKind.u64.wrap (64 - (IntKind.u64.wrap (Int.tmod a1 64)))) then ((ulpref03_Norm.f k2 x10_2).bind fun t297 => (some (t297, ((shl .u64 (rd l0 (ji6)) (IntKind.u64.wrap (64 - (IntKind.u64.wrap (Int.tmod a1 64))))) != 0)))) else (none)) else (none)) else (none)) = some (r1, r2) := zQ hji33 H
      have hji33w : (IntKind.i64.wrap (Int.tdiv a1 64)) = ji6 := (i64_w _).trans hji33
      replace H := dn H
      obtain ⟨c34, H⟩ := H
      have c34b0 := decide_eq_true c34
      clear c34
      replace H := dn H
      obtain ⟨c35, H⟩ := H
      have c35b0 := decide_eq_true c35
      clear c35
      obtain ⟨ji36, hji36⟩ : ∃ j_ : Int, (IntKind.u64.wrap (64 - (IntKind.u64.wrap (Int.tmod a1 64)))) = j_ := ⟨_, rfl⟩
      replace H : (if 0 ≤ (ji36) then ((ulpref03_Norm.f k2 x10_2).bind fun t297 => (some (t297, ((shl .u64 (rd l0 (ji6)) (ji36)) != 0)))) else (none)) = some (r1, r2) := zQ hji36 H
      replace H := dn H
      obtain ⟨c37, H⟩ := H
      have c37b0 := eq_true c37
      have c37b1 := decide_eq_true c37
      clear c37
      obtain ⟨ji38, hji38⟩ : ∃ j_ : Int, (shl .u64 (rd l0 (ji6)) (ji36)) = j_ := ⟨_, rfl⟩
      replace H : ((ulpref03_Norm.f k2 x10_2).bind fun t297 => (some (t297, ((ji38) != 0)))) = some (r1, r2) := zQ hji38 H
      have hji38_ : (IntKind.u64.wrap ((rd l0 (ji6)) * 2 ^ min (ji36).toNat 64)) = ji38 := hji38
      have hji38z : (ji36) ≤ 64 → (IntKind.u64.wrap ((rd l0 (ji6)) * 2 ^ (ji36).toNat)) = ji38 := shl_small hji38
      obtain ⟨t297, A39, H⟩ := zh H
      simp only [Option.some.injEq, Prod.mk.injEq] at H
      obtain ⟨rfl, rfl⟩ := H
      have p296 : 0 ≤ ((ji6) : Int) := od
      have q296 : (ji6) < (l0.length : Int) := od
      obtain ⟨ad296, e296, hx296_0⟩ := Kd.at_int HR0.out (ji6) p296 q296
      cases e296
      replace hx296_0 := (HB.out.cell (World.block_lt_of_cell? w _ hx296_0)).trans hx296_0
      replace p296 := eq_true p296
      replace q296 := eq_true q296
      obtain ⟨Ao40, co40, eo40⟩ := R_slice HO_10.out
      subst eo40
      go_wp2_with (first | ((with_reducible refine zG 45 rfl ?_); refine zL (some 83) rfl rfl Tryd.func45 #[.slice Ao40 x10_2.length co40] rfl ?_; (with_reducible refine (ulpref03_Norm.calls k2 _ _ x10_2 t297 _ ?side1 ?side2 A39.out).mono ?_); (case side1 => exact zk (R_reads' HO_10.out).2.2); (case side2 => exact (R_reads' HO_10.out).2.1); rintro e w41 ⟨v298, rfl, ho0, hb⟩; refine ⟨_, rfl, ?_⟩; have HO299 := zA (R_lower (R_new' ho0 (R_lt (ru HO_10.out))) (below_size bq)); replace HO_10 := zA (R_elder' (ru HO_10.out) (R_base ho0) hb); replace HB := ze hb; (try clear ho0)))
      go_ret2
      exact ⟨_, by first | rfl | (simp [errW_none, errW_some] <;> rfl) | (simp only [← hji6, ← hji33, ← hji36, ← hji38]; first | rfl | (simp [errW_none, errW_some] <;> rfl)) | (simp [*, errW_none, errW_some] <;> rfl), ru (R_mono HO299.out (fun _ hk => trivial)), bq⟩
     rw [if_neg c28] at H
     have c28b0 := decide_eq_false c28
     clear c28
     obtain ⟨t300, A42, H⟩ := zh H
     simp only [Option.some.injEq, Prod.mk.injEq] at H
     obtain ⟨rfl, rfl⟩ := H
     obtain ⟨Ao43, co43, eo43⟩ := R_slice HO_10.out
     subst eo43
     go_wp2_with (first | ((with_reducible refine zG 45 rfl ?_); refine zL (some 83) rfl rfl Tryd.func45 #[.slice Ao43 x10_2.length co43] rfl ?_; (with_reducible refine (ulpref03_Norm.calls k2 _ _ x10_2 t300 _ ?side1 ?side2 A42.out).mono ?_); (case side1 => exact zk (R_reads' HO_10.out).2.2); (case side2 => exact (R_reads' HO_10.out).2.1); rintro e w44 ⟨v301, rfl, ho0, hb⟩; refine ⟨_, rfl, ?_⟩; have HO302 := zA (R_lower (R_new' ho0 (R_lt (ru HO_10.out))) (below_size bq)); replace HO_10 := zA (R_elder' (ru HO_10.out) (R_base ho0) hb); replace HB := ze hb; (try clear ho0)))
     go_ret2
     exact ⟨_, by first | rfl | (simp [errW_none, errW_some] <;> rfl) | (simp only [← hji6]; first | rfl | (simp [errW_none, errW_some] <;> rfl)) | (simp [*, errW_none, errW_some] <;> rfl), ru (R_mono HO302.out (fun _ hk => trivial)), bq⟩
def ulpref03_Shl.l0 : Nat → List Int → Int → Int → List Int → Int → Int → Option (List Int)
 | 0, _, _, _, _, _, _ => none
 | k + 1, x5, x6, x7, x16, x17, x18 => if x18 < x17 then (if 0 ≤ x18 then (if x18 < (x16.length : Int) then (if 0 ≤ x6 then (if x5.length < 17592186044416 then ((some (x5 ++ [Go.bits .or .u64 (shl .u64 (rd x16 x18) x6) x7] : List Int)).bind fun y307 => (if x6 > 0 then (if 0 ≤ (IntKind.u64.wrap (64 - x6)) then (ulpref03_Shl.l0 k y307 x6 (shr .u64 (rd x16 x18) (IntKind.u64.wrap (64 - x6))) x16 x17 (wrap64 (x18 + 1))) else (none)) else (ulpref03_Shl.l0 k y307 x6 0 x16 x17 (wrap64 (x18 + 1))))) else (none)) else (none)) else (none)) else (none)) else (if x5.length < 17592186044416 then ((ulpref03_Norm.f k (x5 ++ [x7])).bind fun t313 => (some t313)) else (none))
def ulpref03_Shl.f (k : Nat) (l0 : List Int) (a1 : Int) : Option (List Int) := if 0 ≤ (wrap64 (Int.tdiv a1 64)) then (if (wrap64 (Int.tdiv a1 64) : Int).toNat ≤ 35184372088832 then (ulpref03_Shl.l0 k (List.replicate (wrap64 (Int.tdiv a1 64) : Int).toNat 0) (IntKind.u64.wrap (Int.tmod a1 64)) 0 l0 (l0.length : Int) 0) else (none)) else (none)
set_option maxHeartbeats 8000000 in
set_option maxRecDepth 100000 in
theorem ulpref03_Shl.calls (k : Nat) (A0 : Option Addr) (c0 : Nat) (l0 : List Int) (a1 : Int) (r : List Int) (w : World) (hr0 : Kd.C (Kd.int .u64) w A0 l0.length l0) (hc0 : l0.length ≤ c0) (h : ulpref03_Shl.f k l0 a1 = some r) :
  Calls Tryd.prog 97 #[.slice A0 l0.length c0, .int .i64 a1] w fun e w' => ∃ v0_ : Value, e = .returned (v0_) ∧ Kd.R (Kd.int .u64) 26 w' w.heap.size (fun _ => True) v0_ r ∧ Below w.heap.size w w' := by
 have HR0 := zA hr0
 have HC0 := zA hc0
 clear hr0 hc0
 have HB := zA (Below.refl w.heap.size w)
 have H : (if 0 ≤ (wrap64 (Int.tdiv a1 64)) then (if (wrap64 (Int.tdiv a1 64) : Int).toNat ≤ 35184372088832 then (ulpref03_Shl.l0 k (List.replicate (wrap64 (Int.tdiv a1 64) : Int).toNat 0) (IntKind.u64.wrap (Int.tmod a1 64)) 0 l0 (l0.length : Int) 0) else (none)) else (none)) = some r := h
 clear h
 obtain ⟨ji3, hji3⟩ : ∃ j_ : Int, (wrap64 (Int.tdiv a1 64)) = j_ := ⟨_, rfl⟩
 replace H : (if 0 ≤ (ji3) then (if (ji3 : Int).toNat ≤ 35184372088832 then (ulpref03_Shl.l0 k (List.replicate (ji3 : Int).toNat 0) (IntKind.u64.wrap (Int.tmod a1 64)) 0 l0 (l0.length : Int) 0) else (none)) else (none)) = some r := zQ hji3 H
 have hji3w : (IntKind.i64.wrap (Int.tdiv a1 64)) = ji3 := (i64_w _).trans hji3
 replace H := dn H
 obtain ⟨c4, H⟩ := H
 have c4b0 := eq_true c4
 have c4b1 := decide_eq_true c4
 clear c4
 replace H := dn H
 obtain ⟨c5, H⟩ := H
 have c5b0 := eq_true c5
 have c5b1 := decide_eq_true c5
 clear c5
 obtain ⟨y303, hy303⟩ : ∃ y_ : List Int, y_ = (List.replicate (ji3 : Int).toNat 0) := ⟨_, rfl⟩
 replace H : (ulpref03_Shl.l0 k y303 (IntKind.u64.wrap (Int.tmod a1 64)) 0 l0 (l0.length : Int) 0) = some r := zR hy303 H
 have Ny303 := zA hy303
 clear hy303
 have H' := zA H
 clear H
 go_enter Tryd.func97, Tryd.ntmps97
 go_wp2_with (first | ((with_reducible refine zD 12 rfl ?_); refine R_make (Kd.int .u64) _ 26 rfl (N := 12) rfl 23 _ _ rfl ji3 rfl rfl Tryd.underlying23 (.int .u64 0) 8 info26 rfl (by decide) (by omega) 0 (ok := fun _ => True) (okp := fun _ => True) rfl (fun _ hk => hk) trivial (od) (Nat.le_trans (Nat.mul_le_mul_right _ (od : ji3.toNat ≤ 35184372088832)) (by omega)) (Below.refl _ _) (Nat.le_refl _) ?_; intro v304 w6 ho7 hb hg_ hnew_; clear hg_ hnew_; (first | rw [← Ny303.out] at ho7 | (simp only [Int.reduceToNat] at ho7; rw [← Ny303.out] at ho7)); have HO305 := zA (R_lower ho7 (below_size bq)); replace HB := ze hb; clear hb ho7))
 go_loopg [5, 7, 18] k (fun kq v5 v7 v18 w' => ∃ (x5_1 : List Int) (x7_1 : Int) (x18_1 : Int), v7 = .int .u64 x7_1 ∧ v18 = .int .i64 x18_1 ∧ Aside0 (ulpref03_Shl.l0 kq x5_1 (IntKind.u64.wrap (Int.tmod a1 64)) x7_1 l0 (l0.length : Int) x18_1 = some r) ∧ Aside0 (kq ≤ k) ∧ Aside0 (Kd.R (Kd.int .u64) 26 w' w.heap.size (fun _ => True) v5 x5_1) ∧ Aside0 (Below w.heap.size w w'))
 case atStart => exact ⟨(y303), (0), (0), zi, zi, H', ⟨Nat.le_refl _⟩, ⟨ru HO305.out⟩, ⟨bq⟩⟩
 case round =>
  clear H'
  try clear c4
  try clear c4b0
  try clear c4b1
  try clear c5
  try clear c5b0
  try clear c5b1
  obtain ⟨x5_1, x7_1, x18_1, rfl, rfl, HA, HK1, HO_5, HB⟩ := hrel
  cases gk with
  | zero => exact absurd HA.out (by simp [ulpref03_Shl.l0])
  | succ k1 =>
   have H := HA.out
   clear HA
   simp only [ulpref03_Shl.l0] at H
   by_cases c8 : x18_1 < (l0.length : Int)
   ·rw [if_pos c8] at H
    have c8b0 := decide_eq_true c8
    clear c8
    replace H := dn H
    obtain ⟨c9, H⟩ := H
    have c9b0 := decide_eq_true c9
    clear c9
    replace H := dn H
    obtain ⟨c10, H⟩ := H
    have c10b0 := decide_eq_true c10
    clear c10
    obtain ⟨ji11, hji11⟩ : ∃ j_ : Int, (IntKind.u64.wrap (Int.tmod a1 64)) = j_ := ⟨_, rfl⟩
    replace H : (if 0 ≤ (ji11) then (if x5_1.length < 17592186044416 then ((some (x5_1 ++ [Go.bits .or .u64 (shl .u64 (rd l0 x18_1) (ji11)) x7_1] : List Int)).bind fun y307 => (if (ji11) > 0 then (if 0 ≤ (IntKind.u64.wrap (64 - (ji11))) then (ulpref03_Shl.l0 k1 y307 (ji11) (shr .u64 (rd l0 x18_1) (IntKind.u64.wrap (64 - (ji11)))) l0 (l0.length : Int) (wrap64 (x18_1 + 1))) else (none)) else (ulpref03_Shl.l0 k1 y307 (ji11) 0 l0 (l0.length : Int) (wrap64 (x18_1 + 1))))) else (none)) else (none)) = some r := zQ hji11 H
    replace H := dn H
    obtain ⟨c12, H⟩ := H
    have c12b0 := eq_true c12
    have c12b1 := decide_eq_true c12
    clear c12
    obtain ⟨ji13, hji13⟩ : ∃ j_ : Int, (shl .u64 (rd l0 x18_1) (ji11)) = j_ := ⟨_, rfl⟩
    replace H : (if x5_1.length < 17592186044416 then ((some (x5_1 ++ [Go.bits .or .u64 (ji13) x7_1] : List Int)).bind fun y307 => (if (ji11) > 0 then (if 0 ≤ (IntKind.u64.wrap (64 - (ji11))) then (ulpref03_Shl.l0 k1 y307 (ji11) (shr .u64 (rd l0 x18_1) (IntKind.u64.wrap (64 - (ji11)))) l0 (l0.length : Int) (wrap64 (x18_1 + 1))) else (none)) else (ulpref03_Shl.l0 k1 y307 (ji11) 0 l0 (l0.length : Int) (wrap64 (x18_1 + 1))))) else (none)) = some r := zQ hji13 H
    have hji13_ : (IntKind.u64.wrap ((rd l0 x18_1) * 2 ^ min (ji11).toNat 64)) = ji13 := hji13
    have hji13z : (ji11) ≤ 64 → (IntKind.u64.wrap ((rd l0 x18_1) * 2 ^ (ji11).toNat)) = ji13 := shl_small hji13
    replace H := dn H
    obtain ⟨c14, H⟩ := H
    have LMc14 := zA c14
    clear c14
    obtain ⟨y307, hy307⟩ : ∃ y_ : List Int, y_ = (x5_1 ++ [Go.bits .or .u64 (ji13) x7_1]) := ⟨_, rfl⟩
    replace H : (if (ji11) > 0 then (if 0 ≤ (IntKind.u64.wrap (64 - (ji11))) then (ulpref03_Shl.l0 k1 y307 (ji11) (shr .u64 (rd l0 x18_1) (IntKind.u64.wrap (64 - (ji11)))) l0 (l0.length : Int) (wrap64 (x18_1 + 1))) else (none)) else (ulpref03_Shl.l0 k1 y307 (ji11) 0 l0 (l0.length : Int) (wrap64 (x18_1 + 1)))) = some r := zR hy307 H
    have Ny307 := zA hy307
    clear hy307
    by_cases c15 : (ji11) > 0
    ·rw [if_pos c15] at H
     have c15b0 := decide_eq_true c15
     clear c15
     obtain ⟨ji16, hji16⟩ : ∃ j_ : Int, (IntKind.u64.wrap (64 - (ji11))) = j_ := ⟨_, rfl⟩
     replace H : (if 0 ≤ (ji16) then (ulpref03_Shl.l0 k1 y307 (ji11) (shr .u64 (rd l0 x18_1) (ji16)) l0 (l0.length : Int) (wrap64 (x18_1 + 1))) else (none)) = some r := zQ hji16 H
     replace H := dn H
     obtain ⟨c17, H⟩ := H
     have c17b0 := eq_true c17
     have c17b1 := decide_eq_true c17
     clear c17
     obtain ⟨ji18, hji18⟩ : ∃ j_ : Int, (shr .u64 (rd l0 x18_1) (ji16)) = j_ := ⟨_, rfl⟩
     replace H : (ulpref03_Shl.l0 k1 y307 (ji11) ji18 l0 (l0.length : Int) (wrap64 (x18_1 + 1))) = some r := zQ hji18 H
     have hji18_ : ((rd l0 x18_1) / 2 ^ min (ji16).toNat 64) = ji18 := hji18
     have hji18z : (ji16) ≤ 64 → ((rd l0 x18_1) / 2 ^ (ji16).toNat) = ji18 := shr_small hji18
     have H' := zA H
     clear H
     have p306 : 0 ≤ (x18_1 : Int) := od
     have q306 : x18_1 < (l0.length : Int) := od
     obtain ⟨ad306, e306, hx306_0⟩ := Kd.at_int HR0.out x18_1 p306 q306
     cases e306
     replace hx306_0 := (HB.out.cell (World.block_lt_of_cell? w _ hx306_0)).trans hx306_0
     replace p306 := eq_true p306
     replace q306 := eq_true q306
     go_wp2_with (first | ((with_reducible refine gate_builtin (b := .append) (xs := #[.tmp 22, .tmp 28]) rfl ?_); at_builtin; refine R_append (Kd.int .u64) (w0 := w) w.heap.size rfl (.tmp 22) (.tmp 28) 23 26 (.int .u64 0) 8 rfl Tryd.underlying23 info26 rfl (by decide) (by omega) u5 x5_1 (Go.bits .or .u64 (ji13) x7_1) [.int .u64 (Go.bits .or .u64 (ji13) x7_1)] (fun _ => True) (fun _ => False) rfl rfl ?aP (fun _ hk => hk.elim) ?aF ?aO ?aB ?aS ?aL ?_; (case aP => exact rfl); (case aB => exact bq); (case aF => exact (fun _ _ => trivial)); (case aO => exact (ru HO_5.out)); (case aS => exact (below_size bq)); (case aL => have := LMc14.out; omega); intro v308 w19 ho hb hg hat; rw [← Ny307.out] at ho; have n0_ := zA (hb); have n1_ := zA (ho); clear HB; clear HO_5; have HB := n0_; have HO309 := n1_; clear n0_ n1_; clear ho hb hg hat))
     (try simp only [← hji11, ← hji16])
     go_roundg k1
     case measure => have := HK1.out; omega
     case rel => exact ⟨(y307), (ji18), (wrap64 (x18_1 + 1)), (by first | rfl | (simp; done) | (simp only [← hji18] <;> (first | rfl | simp)) | (simp [*]; done)), zi, (by first | exact H' | (simp only [hji3, hji11, hji13, hji16, hji18]; exact H') | (simp only [hji3, hji11, hji13, hji16, hji18] at H' ⊢; exact H')), ⟨by have := HK1.out; omega⟩, ⟨ru HO309.out⟩, ⟨bq⟩⟩
    rw [if_neg c15] at H
    have c15b0 := decide_eq_false c15
    clear c15
    have H' := zA H
    clear H
    have p306 : 0 ≤ (x18_1 : Int) := od
    have q306 : x18_1 < (l0.length : Int) := od
    obtain ⟨ad306, e306, hx306_0⟩ := Kd.at_int HR0.out x18_1 p306 q306
    cases e306
    replace hx306_0 := (HB.out.cell (World.block_lt_of_cell? w _ hx306_0)).trans hx306_0
    replace p306 := eq_true p306
    replace q306 := eq_true q306
    go_wp2_with (first | ((with_reducible refine gate_builtin (b := .append) (xs := #[.tmp 22, .tmp 28]) rfl ?_); at_builtin; refine R_append (Kd.int .u64) (w0 := w) w.heap.size rfl (.tmp 22) (.tmp 28) 23 26 (.int .u64 0) 8 rfl Tryd.underlying23 info26 rfl (by decide) (by omega) u5 x5_1 (Go.bits .or .u64 (ji13) x7_1) [.int .u64 (Go.bits .or .u64 (ji13) x7_1)] (fun _ => True) (fun _ => False) rfl rfl ?aP (fun _ hk => hk.elim) ?aF ?aO ?aB ?aS ?aL ?_; (case aP => exact rfl); (case aB => exact bq); (case aF => exact (fun _ _ => trivial)); (case aO => exact (ru HO_5.out)); (case aS => exact (below_size bq)); (case aL => have := LMc14.out; omega); intro v308 w20 ho hb hg hat; rw [← Ny307.out] at ho; have n0_ := zA (hb); have n1_ := zA (ho); clear HB; clear HO_5; have HB := n0_; have HO309 := n1_; clear n0_ n1_; clear ho hb hg hat))
    (try simp only [← hji11])
    go_roundg k1
    case measure => have := HK1.out; omega
    case rel => exact ⟨(y307), (0), (wrap64 (x18_1 + 1)), zi, zi, (by first | exact H' | (simp only [hji3, hji11, hji13]; exact H') | (simp only [hji3, hji11, hji13] at H' ⊢; exact H')), ⟨by have := HK1.out; omega⟩, ⟨ru HO309.out⟩, ⟨bq⟩⟩
   rw [if_neg c8] at H
   have c8b0 := decide_eq_false c8
   clear c8
   replace H := dn H
   obtain ⟨c21, H⟩ := H
   have LMc21 := zA c21
   clear c21
   obtain ⟨y310, hy310⟩ : ∃ y_ : List Int, y_ = (x5_1 ++ [x7_1]) := ⟨_, rfl⟩
   replace H : ((ulpref03_Norm.f k1 y310).bind fun t313 => (some t313)) = some r := zR hy310 H
   have Ny310 := zA hy310
   clear hy310
   obtain ⟨t313, A22, H⟩ := zh H
   obtain rfl := Option.some.inj H
   go_wp2_with (first | ((with_reducible refine gate_builtin (b := .append) (xs := #[.tmp 37, .tmp 39]) rfl ?_); at_builtin; refine R_append (Kd.int .u64) (w0 := w) w.heap.size rfl (.tmp 37) (.tmp 39) 23 26 (.int .u64 0) 8 rfl Tryd.underlying23 info26 rfl (by decide) (by omega) u5 x5_1 x7_1 [.int .u64 x7_1] (fun _ => True) (fun _ => False) rfl rfl ?aP (fun _ hk => hk.elim) ?aF ?aO ?aB ?aS ?aL ?_; (case aP => exact rfl); (case aB => exact bq); (case aF => exact (fun _ _ => trivial)); (case aO => exact (ru HO_5.out)); (case aS => exact (below_size bq)); (case aL => have := LMc21.out; omega); intro v311 w23 ho hb hg hat; rw [← Ny310.out] at ho; have n0_ := zA (hb); have n1_ := zA (ho); clear HB; clear HO_5; have HB := n0_; have HO312 := n1_; clear n0_ n1_; clear ho hb hg hat; obtain ⟨Ao24, co24, eo24⟩ := R_slice HO312.out; subst eo24) | ((with_reducible refine zG 45 rfl ?_); refine zL (some 41) rfl rfl Tryd.func45 #[.slice Ao24 y310.length co24] rfl ?_; (with_reducible refine (ulpref03_Norm.calls k1 _ _ y310 t313 _ ?side1 ?side2 A22.out).mono ?_); (case side1 => exact zk (R_reads' HO312.out).2.2); (case side2 => exact (R_reads' HO312.out).2.1); rintro e w25 ⟨v314, rfl, ho0, hb⟩; refine ⟨_, rfl, ?_⟩; have HO315 := zA (R_lower (R_new' ho0 (R_lt (ru HO312.out))) (below_size bq)); replace HO312 := zA (R_elder' (ru HO312.out) (R_base ho0) hb); replace HB := ze hb; (try clear ho0)))
   go_ret
   exact ⟨_, by first | rfl | (simp [errW_none, errW_some] <;> rfl) | (simp only [← hji3]; first | rfl | (simp [errW_none, errW_some] <;> rfl)) | (simp [*, errW_none, errW_some] <;> rfl), ru (R_mono HO315.out (fun _ hk => trivial)), bq⟩
def ulpref03_Bit.f (l0 : List Int) (a1 : Int) : Option (Bool) := if a1 ≥ 0 then ((ulpref03_word.f l0 (wrap64 (Int.tdiv a1 64))).bind fun t316 => (if 0 ≤ (IntKind.u64.wrap (Int.tmod a1 64)) then (some ((Int.tmod (shr .u64 t316 (IntKind.u64.wrap (Int.tmod a1 64))) 2) == 1)) else (none))) else (some false)
set_option maxHeartbeats 8000000 in
set_option maxRecDepth 100000 in
theorem ulpref03_Bit.calls (A0 : Option Addr) (c0 : Nat) (l0 : List Int) (a1 : Int) (r : Bool) (w : World) (hr0 : Kd.C (Kd.int .u64) w A0 l0.length l0) (hc0 : l0.length ≤ c0) (h : ulpref03_Bit.f l0 a1 = some r) :
  Calls Tryd.prog 98 #[.slice A0 l0.length c0, .int .i64 a1] w fun e w' => e = .returned (.bool r) ∧ Drawn0 w w' := by
 have HR0 := zA hr0
 have HC0 := zA hc0
 clear hr0 hc0
 have H : (if a1 ≥ 0 then ((ulpref03_word.f l0 (wrap64 (Int.tdiv a1 64))).bind fun t316 => (if 0 ≤ (IntKind.u64.wrap (Int.tmod a1 64)) then (some ((Int.tmod (shr .u64 t316 (IntKind.u64.wrap (Int.tmod a1 64))) 2) == 1)) else (none))) else (some false)) = some r := h
 clear h
 by_cases c3 : a1 ≥ 0
 ·rw [if_pos c3] at H
  have c3b0 := decide_eq_true c3
  clear c3
  obtain ⟨t316, A4, H⟩ := zh H
  obtain ⟨ji5, hji5⟩ : ∃ j_ : Int, (IntKind.u64.wrap (Int.tmod a1 64)) = j_ := ⟨_, rfl⟩
  replace H : (if 0 ≤ (ji5) then (some ((Int.tmod (shr .u64 t316 (ji5)) 2) == 1)) else (none)) = some r := zQ hji5 H
  (try rw [hji5] at A4)
  replace H := dn H
  obtain ⟨c6, H⟩ := H
  have c6b0 := eq_true c6
  have c6b1 := decide_eq_true c6
  clear c6
  obtain ⟨ji7, hji7⟩ : ∃ j_ : Int, (shr .u64 t316 (ji5)) = j_ := ⟨_, rfl⟩
  replace H : (some ((Int.tmod (ji7) 2) == 1)) = some r := zQ hji7 H
  (try rw [hji7] at A4)
  have hji7_ : (t316 / 2 ^ min (ji5).toNat 64) = ji7 := hji7
  have hji7z : (ji5) ≤ 64 → (t316 / 2 ^ (ji5).toNat) = ji7 := shr_small hji7
  obtain rfl := Option.some.inj H
  go_enter Tryd.func98, Tryd.ntmps98
  go_wp2_with (first | (go_at_call 102; (with_reducible refine (ulpref03_word.calls _ _ l0 (wrap64 (Int.tdiv a1 64)) t316 _ ?side1 ?side2 A4.out).mono ?_); (case side1 => exact zk HR0.out); (case side2 => exact HC0.out); rintro e w' ⟨rfl, ⟨nd, rfl⟩⟩))
  go_ret
  exact ⟨by first | rfl | (simp; done) | (simp only [← hji5, ← hji7] <;> (first | rfl | simp)) | (simp [*]; done), by repeat (first | exact Drawn0.refl _ | apply Drawn0.step)⟩
 rw [if_neg c3] at H
 have c3b0 := decide_eq_false c3
 clear c3
 obtain rfl := Option.some.inj H
 go_enter Tryd.func98, Tryd.ntmps98
 go_wp2
 go_ret
 exact ⟨by first | rfl | (simp; done) | (simp [*]; done), by repeat (first | exact Drawn0.refl _ | apply Drawn0.step)⟩
def ulpref03_Low.l0 : Nat → List Int → Int → Option (Int)
 | 0, _, _ => none
 | k + 1, x0, x3 => (ulpref03_Bit.f x0 x3).bind fun t318 => (if t318 = true then (some x3) else (ulpref03_Low.l0 k x0 (wrap64 (x3 + 1))))
def ulpref03_Low.f (k : Nat) (l0 : List Int) : Option (Int) := (ulpref03_Len.f k l0).bind fun t317 => (if t317 = 0 then (some 0) else (ulpref03_Low.l0 k l0 0))
set_option maxHeartbeats 8000000 in
set_option maxRecDepth 100000 in
theorem ulpref03_Low.calls (k : Nat) (A0 : Option Addr) (c0 : Nat) (l0 : List Int) (r : Int) (w : World) (hr0 : Kd.C (Kd.int .u64) w A0 l0.length l0) (hc0 : l0.length ≤ c0) (h : ulpref03_Low.f k l0 = some r) :
  Calls Tryd.prog 99 #[.slice A0 l0.length c0] w fun e w' => e = .returned (.int .i64 r) ∧ Below w.heap.size w w' := by
 have HR0 := zA hr0
 have HC0 := zA hc0
 clear hr0 hc0
 have HB := zA (Below.refl w.heap.size w)
 have H : ((ulpref03_Len.f k l0).bind fun t317 => (if t317 = 0 then (some 0) else (ulpref03_Low.l0 k l0 0))) = some r := h
 clear h
 obtain ⟨t317, A2, H⟩ := zh H
 by_cases c3 : t317 = 0
 ·rw [if_pos c3] at H
  have c3b0 := beq_iff_eq.mpr c3
  have c3b1 := bne_eq_false_iff_eq.mpr c3
  clear c3
  obtain rfl := Option.some.inj H
  go_enter Tryd.func99, Tryd.ntmps99
  go_wp2_with (first | ((with_reducible refine zG 69 rfl ?_); refine zL (some 5) rfl rfl Tryd.func69 #[.slice A0 l0.length c0] rfl ?_; (with_reducible refine (ulpref03_Len.calls k _ _ l0 t317 _ ?side1 ?side2 A2.out).mono ?_); (case side1 => exact zk HR0.out); (case side2 => exact HC0.out); rintro e w4 ⟨rfl, hb⟩; refine ⟨_, rfl, ?_⟩; replace HB := ze hb))
  go_ret
  exact ⟨er, bq⟩
 rw [if_neg c3] at H
 have c3b0 := beq_eq_false_iff_ne.mpr c3
 have c3b1 := bne_iff_ne.mpr c3
 have H' := zA H
 clear H
 go_enter Tryd.func99, Tryd.ntmps99
 go_wp2_with (first | ((with_reducible refine zG 69 rfl ?_); refine zL (some 5) rfl rfl Tryd.func69 #[.slice A0 l0.length c0] rfl ?_; (with_reducible refine (ulpref03_Len.calls k _ _ l0 t317 _ ?side1 ?side2 A2.out).mono ?_); (case side1 => exact zk HR0.out); (case side2 => exact HC0.out); rintro e w5 ⟨rfl, hb⟩; refine ⟨_, rfl, ?_⟩; replace HB := ze hb))
 go_loopg [3] k (fun kq v3 w' => ∃ (x3_1 : Int), v3 = .int .i64 x3_1 ∧ Aside0 (ulpref03_Low.l0 kq l0 x3_1 = some r) ∧ Aside0 (kq ≤ k) ∧ Aside0 (Below w.heap.size w w'))
 case atStart => exact ⟨(0), zi, H', ⟨Nat.le_refl _⟩, ⟨bq⟩⟩
 case round =>
  clear H'
  try clear c3
  try clear c3b0
  try clear c3b1
  obtain ⟨x3_1, rfl, HA, HK1, HB⟩ := hrel
  cases gk with
  | zero => exact absurd HA.out (by simp [ulpref03_Low.l0])
  | succ k1 =>
   have H := HA.out
   clear HA
   simp only [ulpref03_Low.l0] at H
   obtain ⟨t318, A6, H⟩ := zh H
   by_cases c7 : t318 = true
   ·subst c7
    rw [if_pos rfl] at H
    obtain rfl := Option.some.inj H
    go_wp2_with (first | ((with_reducible refine zG 98 rfl ?_); refine zL (some 9) rfl rfl Tryd.func98 #[.slice A0 l0.length c0, .int .i64 x3_1] rfl ?_; (with_reducible refine (ulpref03_Bit.calls _ _ l0 x3_1 true _ ?side1 ?side2 A6.out).mono ?_); (case side1 => exact zk (C_below HR0.out HB.out)); (case side2 => exact HC0.out); rintro e w' ⟨rfl, ⟨nd, rfl⟩⟩; refine ⟨_, rfl, ?_⟩))
    go_ret
    exact ⟨er, bq⟩
   replace c7 := Bool.eq_false_iff.mpr c7
   subst c7
   rw [if_neg (show ¬ (false = true) by decide)] at H
   have H' := zA H
   clear H
   go_wp2_with (first | ((with_reducible refine zG 98 rfl ?_); refine zL (some 9) rfl rfl Tryd.func98 #[.slice A0 l0.length c0, .int .i64 x3_1] rfl ?_; (with_reducible refine (ulpref03_Bit.calls _ _ l0 x3_1 false _ ?side1 ?side2 A6.out).mono ?_); (case side1 => exact zk (C_below HR0.out HB.out)); (case side2 => exact HC0.out); rintro e w' ⟨rfl, ⟨nd, rfl⟩⟩; refine ⟨_, rfl, ?_⟩))
   go_roundg k1
   case measure => have := HK1.out; omega
   case rel => exact ⟨(wrap64 (x3_1 + 1)), zi, H', ⟨by have := HK1.out; omega⟩, ⟨bq⟩⟩
end Go.Proofs.YtnjfckadjklmfaaDoor.PAll
