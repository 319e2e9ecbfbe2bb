/- Printed functions, merged by a program of this session. -/
import Derived.Test.YtemfckibdojbbaaDoorXDyadPartsP0
import Derived.Test.YtemfckibdojbbaaDoorXDyadPartsP13
import Derived.Laws.StructEq
import Derived.Test.YtemfckibdojbbaaDoorXDyadPartsSh
namespace Go.Proofs.YtemfckibdojbbaaDoor.PAll
open Go.RowKit Go.Proofs.YtemfckibdojbbaaDoorW.PrintWords Go.Proofs.YtemfckibdojbbaaDoorW.PrintLast Go.Proofs.YtemfckibdojbbaaDoorW.PrintMore Go.Proofs.YtemfckibdojbbaaDoorW.PrintWords.Kd
attribute [local go_sem] max2_int min2_int max_two min_two max_three min_three max_four min_four   -- for this text's walks alone
set_option linter.unusedVariables false
set_option linter.unusedSimpArgs false
attribute [local go_sem] ext135 ext136
mutual
def ulpref03_Shr.l0 : Nat → List Int → Int → Bool → List Int → Int → Int → Option (List Int × Bool)
 | 0, _, _, _, _, _, _ => none
 | k + 1, x0, x1, x6, x24, x25, x26 => if x26 < x25 then (if 0 ≤ x26 then (if x26 < (x24.length : Int) then (if x6 = true then (ulpref03_Shr.l0 k x0 x1 true x24 x25 (wrap64 (x26 + 1))) else (ulpref03_Shr.l0 k x0 x1 ((rd x24 x26) != 0) x24 x25 (wrap64 (x26 + 1)))) else (none)) else (none)) else (ulpref03_Shr.l1 k x0 x1 x6 (IntKind.u64.wrap (Int.tmod x1 64)) ([] : List Int) (wrap64 (Int.tdiv x1 64)))
def ulpref03_Shr.l1 : Nat → List Int → Int → Bool → Int → List Int → Int → Option (List Int × Bool)
 | 0, _, _, _, _, _, _ => none
 | k + 1, x0, x1, x6, x9, x10, x11 => if x11 < (x0.length : Int) then (if 0 ≤ x11 then (if 0 ≤ x9 then (if x9 > 0 then ((ulpref03_word.f x0 (wrap64 (x11 + 1))).bind fun t538 => (if 0 ≤ (IntKind.u64.wrap (64 - x9)) then (if x10.length < 17592186044416 then (ulpref03_Shr.l1 k x0 x1 x6 x9 (x10 ++ [Go.bits .or .u64 (shr .u64 (rd x0 x11) x9) (shl .u64 t538 (IntKind.u64.wrap (64 - x9)))]) (wrap64 (x11 + 1))) else (none)) else (none))) else (if x10.length < 17592186044416 then (ulpref03_Shr.l1 k x0 x1 x6 x9 (x10 ++ [shr .u64 (rd x0 x11) x9]) (wrap64 (x11 + 1))) else (none))) else (none)) else (none)) else (if x9 > 0 then (if x6 = true then ((ulpref03_Norm.f k x10).bind fun t545 => (some (t545, true))) else (if 0 ≤ (wrap64 (Int.tdiv x1 64)) then (if (wrap64 (Int.tdiv x1 64)) < (x0.length : Int) then (if 0 ≤ (IntKind.u64.wrap (64 - x9)) then ((ulpref03_Norm.f k x10).bind fun t549 => (some (t549, ((shl .u64 (rd x0 (wrap64 (Int.tdiv x1 64))) (IntKind.u64.wrap (64 - x9))) != 0)))) else (none)) else (none)) else (none))) else ((ulpref03_Norm.f k x10).bind fun t552 => (some (t552, x6))))
end
def ulpref03_Shr.f (k : Nat) (l0 : List Int) (a1 : Int) : Option (List Int × Bool) := if a1 ≥ (wrap64 (64 * (l0.length : Int))) then ((ulpref03_Len.f k l0).bind fun t534 => (some (([] : List Int), decide (t534 > 0)))) else (if 0 ≤ (wrap64 (Int.tdiv a1 64)) then (if (wrap64 (Int.tdiv a1 64)) ≤ (l0.length : Int) then (ulpref03_Shr.l0 k l0 a1 false (l0.take ((wrap64 (Int.tdiv a1 64)) : Int).toNat) (max (wrap64 (Int.tdiv a1 64)) 0) 0) else (none)) else (none))
set_option maxHeartbeats 8000000 in
set_option maxRecDepth 100000 in
theorem ulpref03_Shr.calls (k : Nat) (A0 : Option Addr) (c0 : Nat) (l0 : List Int) (a1 : Int) (r1 : List Int) (r2 : Bool) (w : World) (hr0 : Kd.C (Kd.int .u64) w A0 l0.length l0) (hc0 : l0.length ≤ c0) (h : ulpref03_Shr.f k l0 a1 = some (r1, r2)) :
  Calls Tryd.prog 125 #[.slice A0 l0.length c0, .int .i64 a1] w fun e w' => ∃ v0_ : Value, e = .returned (.tuple #[v0_, .bool r2]) ∧ Kd.R (Kd.int .u64) 43 w' w.heap.size (fun _ => True) v0_ r1 ∧ Below w.heap.size w w' := by
 have HR0 := zA hr0
 have HC0 := zA hc0
 clear hr0 hc0
 have HB := zA (Below.refl w.heap.size w)
 have H : (if a1 ≥ (wrap64 (64 * (l0.length : Int))) then ((ulpref03_Len.f k l0).bind fun t534 => (some (([] : List Int), decide (t534 > 0)))) else (if 0 ≤ (wrap64 (Int.tdiv a1 64)) then (if (wrap64 (Int.tdiv a1 64)) ≤ (l0.length : Int) then (ulpref03_Shr.l0 k l0 a1 false (l0.take ((wrap64 (Int.tdiv a1 64)) : Int).toNat) (max (wrap64 (Int.tdiv a1 64)) 0) 0) else (none)) else (none))) = some (r1, r2) := h
 clear h
 by_cases c3 : a1 ≥ (wrap64 (64 * (l0.length : Int)))
 ·rw [if_pos c3] at H
  have c3b0 := decide_eq_true c3
  clear c3
  obtain ⟨t534, A4, H⟩ := zh H
  simp only [Option.some.injEq, Prod.mk.injEq] at H
  obtain ⟨rfl, rfl⟩ := H
  go_enter Tryd.func125, Tryd.ntmps125
  go_wp2_with (first | ((with_reducible refine zG 96 rfl ?_); refine zL (some 19) rfl rfl Tryd.func96 #[.slice A0 l0.length c0] rfl ?_; (with_reducible refine (ulpref03_Len.calls k _ _ l0 t534 _ ?side1 ?side2 A4.out).mono ?_); (case side1 => exact zk HR0.out); (case side2 => exact HC0.out); rintro e w5 ⟨rfl, hb⟩; refine ⟨_, rfl, ?_⟩; replace HB := ze hb))
  go_ret2
  exact ⟨_, er, by first | exact R_nil _ _ _ _ _ | exact Kd.N_nil _ _ _ _ _ | exact V_nil _ _ _ _ _ | exact Kd.Q_nil _ _ _ _ _ | exact Kd.S_nil _ _ _ _ _, bq⟩
 rw [if_neg c3] at H
 have c3b0 := decide_eq_false c3
 clear c3
 obtain ⟨ji6, hji6⟩ : ∃ j_ : Int, (wrap64 (Int.tdiv a1 64)) = j_ := ⟨_, rfl⟩
 replace H : (if 0 ≤ (ji6) then (if (ji6) ≤ (l0.length : Int) then (ulpref03_Shr.l0 k l0 a1 false (l0.take ((ji6) : Int).toNat) (max (ji6) 0) 0) else (none)) else (none)) = some (r1, r2) := zQ hji6 H
 have hji6w : (IntKind.i64.wrap (Int.tdiv a1 64)) = ji6 := (i64_w _).trans hji6
 replace H := dn H
 obtain ⟨c7, H⟩ := H
 have c7b0 := eq_true c7
 have c7b1 := decide_eq_true c7
 clear c7
 replace H := dn H
 obtain ⟨c8, H⟩ := H
 have c8b0 := eq_true c8
 have c8b1 := decide_eq_true c8
 clear c8
 have H' := zA H
 clear H
 obtain ⟨i09, hi09, _, hsz9, _⟩ := info_parts info43
 obtain ⟨hcut9, hA9, hC9⟩ := print_take_of (P := Tryd.prog) (Value.int .u64) 0 23 43 .i64 Tryd.underlying23 hi09 hsz9 A0 c0 l0 (ji6) (od) (od) HC0.out
 have HR535 := zA (C_of_reads (h1 := fun _ => rfl) (hA9 _ (Kd.reads_of_C HR0.out)))
 have HC535 := zA hC9
 clear hA9 hC9 hi09 hsz9
 go_enter Tryd.func125, Tryd.ntmps125
 go_wp2
 go_loopg [6, 26] k (fun kq v6 v26 w' => ∃ (x6_1 : Bool) (x26_1 : Int), v6 = .bool x6_1 ∧ v26 = .int .i64 x26_1 ∧ Aside0 (ulpref03_Shr.l0 kq l0 a1 x6_1 (l0.take ((ji6) : Int).toNat) (max (ji6) 0) x26_1 = some (r1, r2)) ∧ Aside0 (kq ≤ k) ∧ Aside0 (Below w.heap.size w w'))
 case atStart => exact ⟨(false), (0), zi, zi, H', ⟨Nat.le_refl _⟩, ⟨bq⟩⟩
 case round =>
  clear H'
  try clear c1
  try clear c3
  try clear c3b0
  try clear c7
  try clear c7b0
  try clear c7b1
  try clear c8
  try clear c8b0
  try clear c8b1
  try clear c9
  obtain ⟨x6_1, x26_1, rfl, rfl, HA, HK1, HB⟩ := hrel
  cases gk with
  | zero => exact absurd HA.out (by simp [ulpref03_Shr.l0])
  | succ k1 =>
   have H := HA.out
   clear HA
   simp only [ulpref03_Shr.l0] at H
   by_cases c10 : x26_1 < (max (ji6) 0)
   ·rw [if_pos c10] at H
    have c10b0 := decide_eq_true c10
    have c10bx : (x26_1 < (max (ji6) 0)) = True := eq_true c10
    clear c10
    replace H := dn H
    obtain ⟨c11, H⟩ := H
    have c11b0 := decide_eq_true c11
    clear c11
    replace H := dn H
    obtain ⟨c12, H⟩ := H
    have c12b0 : decide (x26_1 < ((l0.take ((ji6) : Int).toNat).length : Int)) = true := decide_eq_true c12
    clear c12
    by_cases c13 : x6_1 = true
    ·subst c13
     rw [if_pos rfl] at H
     have H' := zA H
     clear H
     have p536 : 0 ≤ (x26_1 : Int) := od
     have q536 : x26_1 < ((l0.take ((ji6) : Int).toNat).length : Int) := od
     obtain ⟨ad536, e536, hx536_0⟩ := Kd.at_int HR535.out x26_1 p536 q536
     cases e536
     replace hx536_0 := (HB.out.cell (World.block_lt_of_cell? w _ hx536_0)).trans hx536_0
     replace p536 := eq_true p536
     replace q536 := eq_true q536
     go_wp2
     go_roundg k1
     case measure => have := HK1.out; omega
     case rel => exact ⟨(true), (wrap64 (x26_1 + 1)), zi, zi, (by first | exact H' | (simp only [hji6]; exact H') | (simp only [hji6] at H' ⊢; exact H')), ⟨by have := HK1.out; omega⟩, ⟨bq⟩⟩
    replace c13 := Bool.eq_false_iff.mpr c13
    subst c13
    rw [if_neg (show ¬ (false = true) by decide)] at H
    have H' := zA H
    clear H
    have p536 : 0 ≤ (x26_1 : Int) := od
    have q536 : x26_1 < ((l0.take ((ji6) : Int).toNat).length : Int) := od
    obtain ⟨ad536, e536, hx536_0⟩ := Kd.at_int HR535.out x26_1 p536 q536
    cases e536
    replace hx536_0 := (HB.out.cell (World.block_lt_of_cell? w _ hx536_0)).trans hx536_0
    replace p536 := eq_true p536
    replace q536 := eq_true q536
    go_wp2
    go_roundg k1
    case measure => have := HK1.out; omega
    case rel => exact ⟨(((rd (l0.take ((ji6) : Int).toNat) x26_1) != 0)), (wrap64 (x26_1 + 1)), (by first | rfl | (simp; done) | (simp only [← hji6] <;> (first | rfl | simp)) | (simp [*]; done)), zi, (by first | exact H' | (simp only [hji6]; exact H') | (simp only [hji6] at H' ⊢; exact H')), ⟨by have := HK1.out; omega⟩, ⟨bq⟩⟩
   rw [if_neg c10] at H
   have c10b0 := decide_eq_false c10
   clear c10
   have H' := zA H
   clear H
   go_wp2
   go_loopg [10, 11] k1 (fun kq v10 v11 w' => ∃ (x10_2 : List Int) (x11_2 : Int), v11 = .int .i64 x11_2 ∧ Aside0 (ulpref03_Shr.l1 kq l0 a1 x6_1 (IntKind.u64.wrap (Int.tmod a1 64)) x10_2 x11_2 = some (r1, r2)) ∧ Aside0 (kq ≤ k1) ∧ Aside0 (Kd.R (Kd.int .u64) 43 w' w.heap.size (fun _ => True) v10 x10_2) ∧ Aside0 (Below w.heap.size w w'))
   case atStart => exact ⟨(([] : List Int)), (wrap64 (Int.tdiv a1 64)), zi, H', ⟨Nat.le_refl _⟩, ⟨by first | exact R_nil _ _ _ _ _ | exact Kd.N_nil _ _ _ _ _ | exact V_nil _ _ _ _ _ | exact Kd.Q_nil _ _ _ _ _ | exact Kd.S_nil _ _ _ _ _⟩, ⟨bq⟩⟩
   case round =>
    clear H'
    try clear c1
    try clear c3
    try clear c3b0
    try clear c7
    try clear c7b0
    try clear c7b1
    try clear c8
    try clear c8b0
    try clear c8b1
    try clear c9
    try clear c10
    try clear c10b0
    try clear c11
    try clear c11b0
    try clear c12
    try clear c12b0
    try clear c13
    try clear hx536_0
    try clear p536
    try clear q536
    obtain ⟨x10_2, x11_2, rfl, HA, HK2, HO_10, HB⟩ := hrel
    cases gk with
    | zero => exact absurd HA.out (by simp [ulpref03_Shr.l1])
    | succ k2 =>
     have H := HA.out
     clear HA
     simp only [ulpref03_Shr.l1] at H
     by_cases c14 : x11_2 < (l0.length : Int)
     ·rw [if_pos c14] at H
      have c14b0 := decide_eq_true c14
      clear c14
      replace H := dn H
      obtain ⟨c15, H⟩ := H
      have c15b0 := decide_eq_true c15
      clear c15
      obtain ⟨ji16, hji16⟩ : ∃ j_ : Int, (IntKind.u64.wrap (Int.tmod a1 64)) = j_ := ⟨_, rfl⟩
      replace H : (if 0 ≤ (ji16) then (if (ji16) > 0 then ((ulpref03_word.f l0 (wrap64 (x11_2 + 1))).bind fun t538 => (if 0 ≤ (IntKind.u64.wrap (64 - (ji16))) then (if x10_2.length < 17592186044416 then (ulpref03_Shr.l1 k2 l0 a1 x6_1 (ji16) (x10_2 ++ [Go.bits .or .u64 (shr .u64 (rd l0 x11_2) (ji16)) (shl .u64 t538 (IntKind.u64.wrap (64 - (ji16))))]) (wrap64 (x11_2 + 1))) else (none)) else (none))) else (if x10_2.length < 17592186044416 then (ulpref03_Shr.l1 k2 l0 a1 x6_1 (ji16) (x10_2 ++ [shr .u64 (rd l0 x11_2) (ji16)]) (wrap64 (x11_2 + 1))) else (none))) else (none)) = some (r1, r2) := zQ hji16 H
      replace H := dn H
      obtain ⟨c17, H⟩ := H
      have c17b0 := eq_true c17
      have c17b1 := decide_eq_true c17
      clear c17
      obtain ⟨ji18, hji18⟩ : ∃ j_ : Int, (shr .u64 (rd l0 x11_2) (ji16)) = j_ := ⟨_, rfl⟩
      replace H : (if (ji16) > 0 then ((ulpref03_word.f l0 (wrap64 (x11_2 + 1))).bind fun t538 => (if 0 ≤ (IntKind.u64.wrap (64 - (ji16))) then (if x10_2.length < 17592186044416 then (ulpref03_Shr.l1 k2 l0 a1 x6_1 (ji16) (x10_2 ++ [Go.bits .or .u64 (ji18) (shl .u64 t538 (IntKind.u64.wrap (64 - (ji16))))]) (wrap64 (x11_2 + 1))) else (none)) else (none))) else (if x10_2.length < 17592186044416 then (ulpref03_Shr.l1 k2 l0 a1 x6_1 (ji16) (x10_2 ++ [ji18]) (wrap64 (x11_2 + 1))) else (none))) = some (r1, r2) := zQ hji18 H
      have hji18_ : ((rd l0 x11_2) / 2 ^ min (ji16).toNat 64) = ji18 := hji18
      have hji18z : (ji16) ≤ 64 → ((rd l0 x11_2) / 2 ^ (ji16).toNat) = ji18 := shr_small hji18
      by_cases c19 : (ji16) > 0
      ·rw [if_pos c19] at H
       have c19b0 := decide_eq_true c19
       clear c19
       obtain ⟨t538, A20, H⟩ := zh H
       obtain ⟨ji21, hji21⟩ : ∃ j_ : Int, (IntKind.u64.wrap (64 - (ji16))) = j_ := ⟨_, rfl⟩
       replace H : (if 0 ≤ (ji21) then (if x10_2.length < 17592186044416 then (ulpref03_Shr.l1 k2 l0 a1 x6_1 (ji16) (x10_2 ++ [Go.bits .or .u64 (ji18) (shl .u64 t538 (ji21))]) (wrap64 (x11_2 + 1))) else (none)) else (none)) = some (r1, r2) := zQ hji21 H
       (try rw [hji21] at A20)
       replace H := dn H
       obtain ⟨c22, H⟩ := H
       have c22b0 := eq_true c22
       have c22b1 := decide_eq_true c22
       clear c22
       obtain ⟨ji23, hji23⟩ : ∃ j_ : Int, (shl .u64 t538 (ji21)) = j_ := ⟨_, rfl⟩
       replace H : (if x10_2.length < 17592186044416 then (ulpref03_Shr.l1 k2 l0 a1 x6_1 (ji16) (x10_2 ++ [Go.bits .or .u64 (ji18) (ji23)]) (wrap64 (x11_2 + 1))) else (none)) = some (r1, r2) := zQ hji23 H
       (try rw [hji23] at A20)
       have hji23_ : (IntKind.u64.wrap (t538 * 2 ^ min (ji21).toNat 64)) = ji23 := hji23
       have hji23z : (ji21) ≤ 64 → (IntKind.u64.wrap (t538 * 2 ^ (ji21).toNat)) = ji23 := shl_small hji23
       replace H := dn H
       obtain ⟨c24, H⟩ := H
       have LMc24 := zA c24
       clear c24
       obtain ⟨y539, hy539⟩ : ∃ y_ : List Int, y_ = (x10_2 ++ [Go.bits .or .u64 (ji18) (ji23)]) := ⟨_, rfl⟩
       replace H : (ulpref03_Shr.l1 k2 l0 a1 x6_1 (ji16) y539 (wrap64 (x11_2 + 1))) = some (r1, r2) := zR hy539 H
       have Ny539 := zA hy539
       clear hy539
       have H' := zA H
       clear H
       have p537 : 0 ≤ (x11_2 : Int) := od
       have q537 : x11_2 < (l0.length : Int) := od
       obtain ⟨ad537, e537, hx537_0⟩ := Kd.at_int HR0.out x11_2 p537 q537
       cases e537
       replace hx537_0 := (HB.out.cell (World.block_lt_of_cell? w _ hx537_0)).trans hx537_0
       replace p537 := eq_true p537
       replace q537 := eq_true q537
       go_wp2_with (first | ((with_reducible refine zG 137 rfl ?_); refine zL (some 59) rfl rfl Tryd.func137 #[.slice (some ad537) l0.length c0, .int .i64 (wrap64 (x11_2 + 1))] rfl ?_; (with_reducible refine (ulpref03_word.calls _ _ l0 (wrap64 (x11_2 + 1)) t538 _ ?side1 ?side2 A20.out).mono ?_); (case side1 => exact zk (C_below HR0.out HB.out)); (case side2 => exact HC0.out); rintro e w' ⟨rfl, ⟨nd, rfl⟩⟩; refine ⟨_, rfl, ?_⟩) | ((with_reducible refine gate_builtin (b := .append) (xs := #[.tmp 64, .tmp 66]) rfl ?_); at_builtin; refine R_append (Kd.int .u64) (w0 := w) w.heap.size rfl (.tmp 64) (.tmp 66) 23 43 (.int .u64 0) 8 rfl Tryd.underlying23 info43 rfl (by decide) (by omega) u10 x10_2 (Go.bits .or .u64 (ji18) (ji23)) [.int .u64 (Go.bits .or .u64 (ji18) (ji23))] (fun _ => True) (fun _ => False) rfl rfl ?aP (fun _ hk => hk.elim) ?aF ?aO ?aB ?aS ?aL ?_; (case aP => exact rfl); (case aB => exact bq); (case aF => exact (fun _ _ => trivial)); (case aO => exact (ru HO_10.out)); (case aS => exact (below_size bq)); (case aL => have := LMc24.out; omega); intro v540 w25 ho hb hg hat; rw [← Ny539.out] at ho; have n0_ := zA (hb); have n1_ := zA (ho); clear HB; clear HO_10; have HB := n0_; have HO541 := n1_; clear n0_ n1_; clear ho hb hg hat))
       (try simp only [← hji16, ← hji21])
       go_roundg k2
       case measure => have := HK1.out; have := HK2.out; omega
       case rel => exact ⟨(y539), (wrap64 (x11_2 + 1)), zi, (by first | exact H' | (simp only [hji6, hji16, hji18, hji21, hji23]; exact H') | (simp only [hji6, hji16, hji18, hji21, hji23] at H' ⊢; exact H')), ⟨by have := HK1.out; have := HK2.out; omega⟩, ⟨ru HO541.out⟩, ⟨bq⟩⟩
      rw [if_neg c19] at H
      have c19b0 := decide_eq_false c19
      clear c19
      replace H := dn H
      obtain ⟨c26, H⟩ := H
      have LMc26 := zA c26
      clear c26
      obtain ⟨y542, hy542⟩ : ∃ y_ : List Int, y_ = (x10_2 ++ [ji18]) := ⟨_, rfl⟩
      replace H : (ulpref03_Shr.l1 k2 l0 a1 x6_1 (ji16) y542 (wrap64 (x11_2 + 1))) = some (r1, r2) := zR hy542 H
      have Ny542 := zA hy542
      clear hy542
      have H' := zA H
      clear H
      have p537 : 0 ≤ (x11_2 : Int) := od
      have q537 : x11_2 < (l0.length : Int) := od
      obtain ⟨ad537, e537, hx537_0⟩ := Kd.at_int HR0.out x11_2 p537 q537
      cases e537
      replace hx537_0 := (HB.out.cell (World.block_lt_of_cell? w _ hx537_0)).trans hx537_0
      replace p537 := eq_true p537
      replace q537 := eq_true q537
      go_wp2_with (first | ((with_reducible refine gate_builtin (b := .append) (xs := #[.tmp 64, .tmp 66]) rfl ?_); at_builtin; refine R_append (Kd.int .u64) (w0 := w) w.heap.size rfl (.tmp 64) (.tmp 66) 23 43 (.int .u64 0) 8 rfl Tryd.underlying23 info43 rfl (by decide) (by omega) u10 x10_2 ji18 [.int .u64 ji18] (fun _ => True) (fun _ => False) rfl rfl ?aP (fun _ hk => hk.elim) ?aF ?aO ?aB ?aS ?aL ?_; (case aP => exact rfl); (case aB => exact bq); (case aF => exact (fun _ _ => trivial)); (case aO => exact (ru HO_10.out)); (case aS => exact (below_size bq)); (case aL => have := LMc26.out; omega); intro v543 w27 ho hb hg hat; rw [← Ny542.out] at ho; have n0_ := zA (hb); have n1_ := zA (ho); clear HB; clear HO_10; have HB := n0_; have HO544 := n1_; clear n0_ n1_; clear ho hb hg hat))
      (try simp only [← hji16])
      go_roundg k2
      case measure => have := HK1.out; have := HK2.out; omega
      case rel => exact ⟨(y542), (wrap64 (x11_2 + 1)), zi, (by first | exact H' | (simp only [hji6, hji16, hji18]; exact H') | (simp only [hji6, hji16, hji18] at H' ⊢; exact H')), ⟨by have := HK1.out; have := HK2.out; omega⟩, ⟨ru HO544.out⟩, ⟨bq⟩⟩
     rw [if_neg c14] at H
     have c14b0 := decide_eq_false c14
     clear c14
     by_cases c28 : (IntKind.u64.wrap (Int.tmod a1 64)) > 0
     ·rw [if_pos c28] at H
      have c28b0 := decide_eq_true c28
      clear c28
      by_cases c29 : x6_1 = true
      ·subst c29
       rw [if_pos rfl] at H
       obtain ⟨t545, A30, H⟩ := zh H
       simp only [Option.some.injEq, Prod.mk.injEq] at H
       obtain ⟨rfl, rfl⟩ := H
       obtain ⟨Ao31, co31, eo31⟩ := R_slice HO_10.out
       subst eo31
       go_wp2_with (first | ((with_reducible refine zG 74 rfl ?_); refine zL (some 83) rfl rfl Tryd.func74 #[.slice Ao31 x10_2.length co31] rfl ?_; (with_reducible refine (ulpref03_Norm.calls k2 _ _ x10_2 t545 _ ?side1 ?side2 A30.out).mono ?_); (case side1 => exact zk (R_reads' HO_10.out).2.2); (case side2 => exact (R_reads' HO_10.out).2.1); rintro e w32 ⟨v546, rfl, ho0, hb⟩; refine ⟨_, rfl, ?_⟩; have HO547 := zA (R_lower (R_new' ho0 (R_lt (ru HO_10.out))) (below_size bq)); replace HO_10 := zA (R_elder' (ru HO_10.out) (R_base ho0) hb); replace HB := ze hb; (try clear ho0)))
       go_ret2
       exact ⟨_, by first | rfl | (simp [errW_none, errW_some] <;> rfl) | (simp only [← hji6]; first | rfl | (simp [errW_none, errW_some] <;> rfl)) | (simp [*, errW_none, errW_some] <;> rfl), ru (R_mono HO547.out (fun _ hk => trivial)), bq⟩
      replace c29 := Bool.eq_false_iff.mpr c29
      subst c29
      rw [if_neg (show ¬ (false = true) by decide)] at H
      obtain ⟨ji33, hji33⟩ : ∃ j_ : Int, (wrap64 (Int.tdiv a1 64)) = j_ := ⟨_, rfl⟩
      obtain rfl : ji6 = ji33 := hji6.symm.trans hji33
      replace H : (if 0 ≤ (ji6) then (if (ji6) < (l0.length : Int) then (if 0 ≤ (IntKind.u64.wrap (64 - (IntKind.u64.wrap (Int.tmod a1 64)))) then ((ulpref03_Norm.f k2 x10_2).bind fun t549 => (some (t549, ((shl .u64 (rd l0 (ji6)) (IntKind.u64.wrap (64 - (IntKind.u64.wrap (Int.tmod a1 64))))) != 0)))) else (none)) else (none)) else (none)) = some (r1, r2) := zQ hji33 H
      have hji33w : (IntKind.i64.wrap (Int.tdiv a1 64)) = ji6 := (i64_w _).trans hji33
      replace H := dn H
      obtain ⟨c34, H⟩ := H
      have c34b0 := decide_eq_true c34
      clear c34
      replace H := dn H
      obtain ⟨c35, H⟩ := H
      have c35b0 := decide_eq_true c35
      clear c35
      obtain ⟨ji36, hji36⟩ : ∃ j_ : Int, (IntKind.u64.wrap (64 - (IntKind.u64.wrap (Int.tmod a1 64)))) = j_ := ⟨_, rfl⟩
      replace H : (if 0 ≤ (ji36) then ((ulpref03_Norm.f k2 x10_2).bind fun t549 => (some (t549, ((shl .u64 (rd l0 (ji6)) (ji36)) != 0)))) else (none)) = some (r1, r2) := zQ hji36 H
      replace H := dn H
      obtain ⟨c37, H⟩ := H
      have c37b0 := eq_true c37
      have c37b1 := decide_eq_true c37
      clear c37
      obtain ⟨ji38, hji38⟩ : ∃ j_ : Int, (shl .u64 (rd l0 (ji6)) (ji36)) = j_ := ⟨_, rfl⟩
      replace H : ((ulpref03_Norm.f k2 x10_2).bind fun t549 => (some (t549, ((ji38) != 0)))) = some (r1, r2) := zQ hji38 H
      have hji38_ : (IntKind.u64.wrap ((rd l0 (ji6)) * 2 ^ min (ji36).toNat 64)) = ji38 := hji38
      have hji38z : (ji36) ≤ 64 → (IntKind.u64.wrap ((rd l0 (ji6)) * 2 ^ (ji36).toNat)) = ji38 := shl_small hji38
      obtain ⟨t549, A39, H⟩ := zh H
      simp only [Option.some.injEq, Prod.mk.injEq] at H
      obtain ⟨rfl, rfl⟩ := H
      have p548 : 0 ≤ ((ji6) : Int) := od
      have q548 : (ji6) < (l0.length : Int) := od
      obtain ⟨ad548, e548, hx548_0⟩ := Kd.at_int HR0.out (ji6) p548 q548
      cases e548
      replace hx548_0 := (HB.out.cell (World.block_lt_of_cell? w _ hx548_0)).trans hx548_0
      replace p548 := eq_true p548
      replace q548 := eq_true q548
      obtain ⟨Ao40, co40, eo40⟩ := R_slice HO_10.out
      subst eo40
      go_wp2_with (first | ((with_reducible refine zG 74 rfl ?_); refine zL (some 83) rfl rfl Tryd.func74 #[.slice Ao40 x10_2.length co40] rfl ?_; (with_reducible refine (ulpref03_Norm.calls k2 _ _ x10_2 t549 _ ?side1 ?side2 A39.out).mono ?_); (case side1 => exact zk (R_reads' HO_10.out).2.2); (case side2 => exact (R_reads' HO_10.out).2.1); rintro e w41 ⟨v550, rfl, ho0, hb⟩; refine ⟨_, rfl, ?_⟩; have HO551 := zA (R_lower (R_new' ho0 (R_lt (ru HO_10.out))) (below_size bq)); replace HO_10 := zA (R_elder' (ru HO_10.out) (R_base ho0) hb); replace HB := ze hb; (try clear ho0)))
      go_ret2
      exact ⟨_, by first | rfl | (simp [errW_none, errW_some] <;> rfl) | (simp only [← hji6, ← hji33, ← hji36, ← hji38]; first | rfl | (simp [errW_none, errW_some] <;> rfl)) | (simp [*, errW_none, errW_some] <;> rfl), ru (R_mono HO551.out (fun _ hk => trivial)), bq⟩
     rw [if_neg c28] at H
     have c28b0 := decide_eq_false c28
     clear c28
     obtain ⟨t552, A42, H⟩ := zh H
     simp only [Option.some.injEq, Prod.mk.injEq] at H
     obtain ⟨rfl, rfl⟩ := H
     obtain ⟨Ao43, co43, eo43⟩ := R_slice HO_10.out
     subst eo43
     go_wp2_with (first | ((with_reducible refine zG 74 rfl ?_); refine zL (some 83) rfl rfl Tryd.func74 #[.slice Ao43 x10_2.length co43] rfl ?_; (with_reducible refine (ulpref03_Norm.calls k2 _ _ x10_2 t552 _ ?side1 ?side2 A42.out).mono ?_); (case side1 => exact zk (R_reads' HO_10.out).2.2); (case side2 => exact (R_reads' HO_10.out).2.1); rintro e w44 ⟨v553, rfl, ho0, hb⟩; refine ⟨_, rfl, ?_⟩; have HO554 := zA (R_lower (R_new' ho0 (R_lt (ru HO_10.out))) (below_size bq)); replace HO_10 := zA (R_elder' (ru HO_10.out) (R_base ho0) hb); replace HB := ze hb; (try clear ho0)))
     go_ret2
     exact ⟨_, by first | rfl | (simp [errW_none, errW_some] <;> rfl) | (simp only [← hji6]; first | rfl | (simp [errW_none, errW_some] <;> rfl)) | (simp [*, errW_none, errW_some] <;> rfl), ru (R_mono HO554.out (fun _ hk => trivial)), bq⟩
def ulpref04_Form.f (k : Nat) (a0 : Bool) (l1 : List Int) (a2 : Int) : Option (Bool × List Int × Int) := (ulpref03_Norm.f k l1).bind fun t556 => (if (t556.length : Int) = 0 then (some (false, ([] : List Int), 0)) else ((ulpref03_Low.f k t556).bind fun t559 => ((ulpref03_Shr.f k t556 t559).bind fun bt560 => (some (a0, bt560.1, wrap64 (a2 + t559))))))
set_option maxHeartbeats 8000000 in
set_option maxRecDepth 100000 in
theorem ulpref04_Form.calls (k : Nat) (a0 : Bool) (A1 : Option Addr) (c1 : Nat) (l1 : List Int) (a2 : Int) (r1 : Bool) (r2 : List Int) (r3 : Int) (w : World) (hr1 : Kd.C (Kd.int .u64) w A1 l1.length l1) (hc1 : l1.length ≤ c1) (h : ulpref04_Form.f k a0 l1 a2 = some (r1, r2, r3)) :
  Calls Tryd.prog 76 #[.bool a0, .slice A1 l1.length c1, .int .i64 a2] w fun e w' => ∃ v1_ : Value, e = .returned (.agg #[.bool r1, v1_, .int .i64 r3]) ∧ Kd.R (Kd.int .u64) 43 w' w.heap.size (fun _ => True) v1_ r2 ∧ Below w.heap.size w w' := by
 have hu25 := Tryd.underlying25
 have HR1 := zA hr1
 have HC1 := zA hc1
 clear hr1 hc1
 have HB := zA (Below.refl w.heap.size w)
 have H : ((ulpref03_Norm.f k l1).bind fun t556 => (if (t556.length : Int) = 0 then (some (false, ([] : List Int), 0)) else ((ulpref03_Low.f k t556).bind fun t559 => ((ulpref03_Shr.f k t556 t559).bind fun bt560 => (some (a0, bt560.1, wrap64 (a2 + t559))))))) = some (r1, r2, r3) := h
 clear h
 obtain ⟨t556, A4, H⟩ := zh H
 by_cases c5 : (t556.length : Int) = 0
 ·rw [if_pos c5] at H
  have c5b0 := beq_iff_eq.mpr c5
  have c5b1 := bne_eq_false_iff_eq.mpr c5
  clear c5
  simp only [Option.some.injEq, Prod.mk.injEq] at H
  obtain ⟨rfl, rfl, rfl⟩ := H
  go_enter Tryd.func76, Tryd.ntmps76
  go_wp2_with (first | ((with_reducible refine zD 6 rfl ?_); refine zn (N := 6) (cs := #[.bool false, .slice none 0 0, .int .i64 0]) (t := 25) rfl rfl ?_; intro gb555 hg w6 hbox hb; have BK555 := zA (hbox); have GW555 := zw hg; replace HB := ze hb; clear hb hbox hg) | ((with_reducible refine zG 74 rfl ?_); refine zL (some 12) rfl rfl Tryd.func74 #[.slice A1 l1.length c1] rfl ?_; (with_reducible refine (ulpref03_Norm.calls k _ _ l1 t556 _ ?side1 ?side2 A4.out).mono ?_); (case side1 => exact zk (C_below HR1.out HB.out)); (case side2 => exact HC1.out); rintro e w7 ⟨v557, rfl, ho0, hb⟩; refine ⟨_, rfl, ?_⟩; have HO558 := zA (R_lower ho0 (below_size zs)); replace BK555 := zb BK555 hb; replace HB := zf hb; (try clear ho0); obtain ⟨Ao8, co8, eo8⟩ := R_slice HO558.out; subst eo8; obtain ⟨hcz9_0, hcz9_1, hcz9_2, hfz9_0, hfz9_1, hfz9_2⟩ := zc BK555))
  refine bodyPost_ret (results_cell_row rfl _ _ gb555 25 #[.bool false, .slice none 0 0, .int .i64 0] (0, 0) _ rfl (zy BK555) Tryd.underlying25 rfl (by kernel_rfl)) rfl ?_
  exact ⟨_, er, by first | exact R_nil _ _ _ _ _ | exact Kd.N_nil _ _ _ _ _ | exact V_nil _ _ _ _ _ | exact Kd.Q_nil _ _ _ _ _ | exact Kd.S_nil _ _ _ _ _, zs⟩
 rw [if_neg c5] at H
 have c5b0 := beq_eq_false_iff_ne.mpr c5
 have c5b1 := bne_iff_ne.mpr c5
 have c5b2 : ¬ (t556 = []) := fun h_ => c5 (by rw [h_]; rfl)
 obtain ⟨t559, A10, H⟩ := zh H
 obtain ⟨⟨t560, t561⟩, A11, H⟩ := zh H
 (try dsimp only at H)
 simp only [Option.some.injEq, Prod.mk.injEq] at H
 obtain ⟨rfl, rfl, rfl⟩ := H
 go_enter Tryd.func76, Tryd.ntmps76
 go_wp2_with (first | ((with_reducible refine zD 6 rfl ?_); refine zn (N := 6) (cs := #[.bool false, .slice none 0 0, .int .i64 0]) (t := 25) rfl rfl ?_; intro gb555 hg w12 hbox hb; have BK555 := zA (hbox); have GW555 := zw hg; replace HB := ze hb; clear hb hbox hg) | ((with_reducible refine zG 74 rfl ?_); refine zL (some 12) rfl rfl Tryd.func74 #[.slice A1 l1.length c1] rfl ?_; (with_reducible refine (ulpref03_Norm.calls k _ _ l1 t556 _ ?side1 ?side2 A4.out).mono ?_); (case side1 => exact zk (C_below HR1.out HB.out)); (case side2 => exact HC1.out); rintro e w13 ⟨v557, rfl, ho0, hb⟩; refine ⟨_, rfl, ?_⟩; have HO558 := zA (R_lower ho0 (below_size zs)); replace BK555 := zb BK555 hb; replace HB := zf hb; (try clear ho0); obtain ⟨Ao14, co14, eo14⟩ := R_slice HO558.out; subst eo14) | ((with_reducible refine zG 124 rfl ?_); refine zL (some 18) rfl rfl Tryd.func124 #[.slice Ao14 t556.length co14] rfl ?_; (with_reducible refine (ulpref03_Low.calls k _ _ t556 t559 _ ?side1 ?side2 A10.out).mono ?_); (case side1 => exact zk (R_reads' HO558.out).2.2); (case side2 => exact (R_reads' HO558.out).2.1); rintro e w15 ⟨rfl, hb⟩; refine ⟨_, rfl, ?_⟩; replace HO558 := zA (R_below (ru HO558.out) hb); replace BK555 := zb BK555 hb; replace HB := zf hb) | ((with_reducible refine zG 125 rfl ?_); refine zL (some 22) rfl rfl Tryd.func125 #[.slice Ao14 t556.length co14, .int .i64 t559] rfl ?_; (with_reducible refine (ulpref03_Shr.calls k _ _ t556 t559 t560 t561 _ ?side1 ?side2 A11.out).mono ?_); (case side1 => exact zk (R_reads' HO558.out).2.2); (case side2 => exact (R_reads' HO558.out).2.1); rintro e w16 ⟨v562, rfl, ho0, hb⟩; refine ⟨_, rfl, ?_⟩; have HO563 := zA (R_lower (R_new' ho0 (R_lt (ru HO558.out))) (below_size zs)); replace HO558 := zA (R_elder' (ru HO558.out) (R_base ho0) hb); replace BK555 := zb BK555 hb; replace HB := zf hb; (try clear ho0); obtain ⟨Ao17, co17, eo17⟩ := R_slice HO563.out; subst eo17; obtain ⟨hcz18_0, hcz18_1, hcz18_2, hfz18_0, hfz18_1, hfz18_2⟩ := zc BK555))
 refine bodyPost_ret (results_cell_row rfl _ _ gb555 25 #[.bool a0, .slice Ao17 t560.length co17, .int .i64 (wrap64 (a2 + t559))] (0, 0) _ rfl (zy BK555) Tryd.underlying25 rfl (by kernel_rfl)) rfl ?_
 exact ⟨_, er, ru (R_mono (R_far (p := ⟨gb555, 2, none⟩) (R_far (p := ⟨gb555, 1, none⟩) (R_far (p := ⟨gb555, 0, none⟩) (R_types HO563.out BK555.out (by decide)) (fun _ hk => hk.2) (.bool a0)) (fun _ hk => hk.2) (.slice Ao17 t560.length co17)) (fun _ hk => hk.2) (.int .i64 (wrap64 (a2 + t559)))) (fun _ hk => trivial)), zs⟩
def ulpref04_One.f (k : Nat) (a0_0 : Bool) (l0_1 : List Int) (a0_2 : Int) : Option (Bool × List Int × Int) := (ulpref04_Form.f k a0_0 l0_1 a0_2).bind fun bt566 => (some (bt566.1, bt566.2.1, bt566.2.2))
set_option maxHeartbeats 8000000 in
set_option maxRecDepth 100000 in
theorem ulpref04_One.calls (k : Nat) (a0_0 : Bool) (A0_1 : Option Addr) (c0_1 : Nat) (l0_1 : List Int) (a0_2 : Int) (r1 : Bool) (r2 : List Int) (r3 : Int) (w : World) (hr0_1 : Kd.C (Kd.int .u64) w A0_1 l0_1.length l0_1) (hc0_1 : l0_1.length ≤ c0_1) (h : ulpref04_One.f k a0_0 l0_1 a0_2 = some (r1, r2, r3)) :
  Calls Tryd.prog 69 #[.agg #[.bool a0_0, .slice A0_1 l0_1.length c0_1, .int .i64 a0_2]] w fun e w' => ∃ v1_ : Value, e = .returned (.agg #[.bool r1, v1_, .int .i64 r3]) ∧ Kd.R (Kd.int .u64) 43 w' w.heap.size (fun _ => True) v1_ r2 ∧ Below w.heap.size w w' := by
 have hu25 := Tryd.underlying25
 have HR0_1 := zA hr0_1
 have HC0_1 := zA hc0_1
 clear hr0_1 hc0_1
 have HB := zA (Below.refl w.heap.size w)
 have H : ((ulpref04_Form.f k a0_0 l0_1 a0_2).bind fun bt566 => (some (bt566.1, bt566.2.1, bt566.2.2))) = some (r1, r2, r3) := h
 clear h
 obtain ⟨⟨t566, t567, t570⟩, A2, H⟩ := zh H
 (try dsimp only at H)
 simp only [Option.some.injEq, Prod.mk.injEq] at H
 obtain ⟨rfl, rfl, rfl⟩ := H
 go_enter Tryd.func69, Tryd.ntmps69
 go_wp2_with (first | ((with_reducible refine zD 1 rfl ?_); refine zn (N := 1) (cs := #[.bool a0_0, .slice A0_1 l0_1.length c0_1, .int .i64 a0_2]) (t := 25) rfl rfl ?_; intro gb564 hg w3 hbox hb; have BK564 := zA (hbox); have GW564 := zw hg; replace HB := ze hb; clear hb hbox hg) | ((with_reducible refine zD 2 rfl ?_); refine zn (N := 2) (cs := #[.bool false, .slice none 0 0, .int .i64 0]) (t := 25) rfl rfl ?_; intro gb565 hg w4 hbox hb; have BK565 := zA (hbox); have GW565 := zx hg; replace HB := zf hb; have NB564_565 := zl BK564 hg; have NB565_564 := zg BK564 hg; replace BK564 := zb BK564 hb; clear hb hbox hg; have hnb5 := NB564_565.out; have hnc5 := NB565_564.out; obtain ⟨_, _, _, _, _, _⟩ := zc BK564) | ((with_reducible refine zG 76 rfl ?_); refine zL (some 9) rfl rfl Tryd.func76 #[.bool a0_0, .slice A0_1 l0_1.length c0_1, .int .i64 a0_2] rfl ?_; (with_reducible refine (ulpref04_Form.calls k a0_0 _ _ l0_1 a0_2 t566 t567 t570 _ ?side1 ?side2 A2.out).mono ?_); (case side1 => exact zk (C_below HR0_1.out HB.out)); (case side2 => exact HC0_1.out); rintro e w7 ⟨v568, rfl, ho0, hb⟩; refine ⟨_, rfl, ?_⟩; have HO569 := zA (R_lower ho0 (below_size zs)); replace BK564 := zb BK564 hb; replace BK565 := zb BK565 hb; replace HB := zf hb; (try clear ho0); obtain ⟨hcz8_0, hcz8_1, hcz8_2, hfz8_0, hfz8_1, hfz8_2⟩ := zc BK565; obtain ⟨Ao9, co9, eo9⟩ := R_slice HO569.out; subst eo9))
 refine bodyPost_ret (results_cell_row rfl _ _ gb565 25 #[.bool t566, .slice Ao9 t567.length co9, .int .i64 t570] (0, 0) _ rfl (zy BK565) Tryd.underlying25 rfl (by kernel_rfl)) rfl ?_
 exact ⟨_, er, ru (R_mono (zr gb565 (R_types HO569.out BK565.out (by decide)) (fun _ hk => hk.2) _ _ _) (fun _ hk => trivial)), zs⟩
def ulpref03_Shl.l0 : Nat → List Int → Int → Int → List Int → Int → Int → Option (List Int)
 | 0, _, _, _, _, _, _ => none
 | k + 1, x5, x6, x7, x16, x17, x18 => if x18 < x17 then (if 0 ≤ x18 then (if x18 < (x16.length : Int) then (if 0 ≤ x6 then (if x5.length < 17592186044416 then ((some (x5 ++ [Go.bits .or .u64 (shl .u64 (rd x16 x18) x6) x7] : List Int)).bind fun y575 => (if x6 > 0 then (if 0 ≤ (IntKind.u64.wrap (64 - x6)) then (ulpref03_Shl.l0 k y575 x6 (shr .u64 (rd x16 x18) (IntKind.u64.wrap (64 - x6))) x16 x17 (wrap64 (x18 + 1))) else (none)) else (ulpref03_Shl.l0 k y575 x6 0 x16 x17 (wrap64 (x18 + 1))))) else (none)) else (none)) else (none)) else (none)) else (if x5.length < 17592186044416 then ((ulpref03_Norm.f k (x5 ++ [x7])).bind fun t581 => (some t581)) else (none))
def ulpref03_Shl.f (k : Nat) (l0 : List Int) (a1 : Int) : Option (List Int) := if 0 ≤ (wrap64 (Int.tdiv a1 64)) then (if (wrap64 (Int.tdiv a1 64) : Int).toNat ≤ 35184372088832 then (ulpref03_Shl.l0 k (List.replicate (wrap64 (Int.tdiv a1 64) : Int).toNat 0) (IntKind.u64.wrap (Int.tmod a1 64)) 0 l0 (l0.length : Int) 0) else (none)) else (none)
set_option maxHeartbeats 8000000 in
set_option maxRecDepth 100000 in
theorem ulpref03_Shl.calls (k : Nat) (A0 : Option Addr) (c0 : Nat) (l0 : List Int) (a1 : Int) (r : List Int) (w : World) (hr0 : Kd.C (Kd.int .u64) w A0 l0.length l0) (hc0 : l0.length ≤ c0) (h : ulpref03_Shl.f k l0 a1 = some r) :
  Calls Tryd.prog 118 #[.slice A0 l0.length c0, .int .i64 a1] w fun e w' => ∃ v0_ : Value, e = .returned (v0_) ∧ Kd.R (Kd.int .u64) 43 w' w.heap.size (fun _ => True) v0_ r ∧ Below w.heap.size w w' := by
 have HR0 := zA hr0
 have HC0 := zA hc0
 clear hr0 hc0
 have HB := zA (Below.refl w.heap.size w)
 have H : (if 0 ≤ (wrap64 (Int.tdiv a1 64)) then (if (wrap64 (Int.tdiv a1 64) : Int).toNat ≤ 35184372088832 then (ulpref03_Shl.l0 k (List.replicate (wrap64 (Int.tdiv a1 64) : Int).toNat 0) (IntKind.u64.wrap (Int.tmod a1 64)) 0 l0 (l0.length : Int) 0) else (none)) else (none)) = some r := h
 clear h
 obtain ⟨ji3, hji3⟩ : ∃ j_ : Int, (wrap64 (Int.tdiv a1 64)) = j_ := ⟨_, rfl⟩
 replace H : (if 0 ≤ (ji3) then (if (ji3 : Int).toNat ≤ 35184372088832 then (ulpref03_Shl.l0 k (List.replicate (ji3 : Int).toNat 0) (IntKind.u64.wrap (Int.tmod a1 64)) 0 l0 (l0.length : Int) 0) else (none)) else (none)) = some r := zQ hji3 H
 have hji3w : (IntKind.i64.wrap (Int.tdiv a1 64)) = ji3 := (i64_w _).trans hji3
 replace H := dn H
 obtain ⟨c4, H⟩ := H
 have c4b0 := eq_true c4
 have c4b1 := decide_eq_true c4
 clear c4
 replace H := dn H
 obtain ⟨c5, H⟩ := H
 have c5b0 := eq_true c5
 have c5b1 := decide_eq_true c5
 clear c5
 obtain ⟨y571, hy571⟩ : ∃ y_ : List Int, y_ = (List.replicate (ji3 : Int).toNat 0) := ⟨_, rfl⟩
 replace H : (ulpref03_Shl.l0 k y571 (IntKind.u64.wrap (Int.tmod a1 64)) 0 l0 (l0.length : Int) 0) = some r := zR hy571 H
 have Ny571 := zA hy571
 clear hy571
 have H' := zA H
 clear H
 go_enter Tryd.func118, Tryd.ntmps118
 go_wp2_with (first | ((with_reducible refine zD 12 rfl ?_); refine R_make (Kd.int .u64) _ 43 rfl (N := 12) rfl 23 _ _ rfl ji3 rfl rfl Tryd.underlying23 (.int .u64 0) 8 info43 rfl (by decide) (by omega) 0 (ok := fun _ => True) (okp := fun _ => True) rfl (fun _ hk => hk) trivial (od) (Nat.le_trans (Nat.mul_le_mul_right _ (od : ji3.toNat ≤ 35184372088832)) (by omega)) (Below.refl _ _) (Nat.le_refl _) ?_; intro v572 w6 ho7 hb hg_ hnew_; clear hg_ hnew_; (first | rw [← Ny571.out] at ho7 | (simp only [Int.reduceToNat] at ho7; rw [← Ny571.out] at ho7)); have HO573 := zA (R_lower ho7 (below_size bq)); replace HB := ze hb; clear hb ho7))
 go_loopg [5, 7, 18] k (fun kq v5 v7 v18 w' => ∃ (x5_1 : List Int) (x7_1 : Int) (x18_1 : Int), v7 = .int .u64 x7_1 ∧ v18 = .int .i64 x18_1 ∧ Aside0 (ulpref03_Shl.l0 kq x5_1 (IntKind.u64.wrap (Int.tmod a1 64)) x7_1 l0 (l0.length : Int) x18_1 = some r) ∧ Aside0 (kq ≤ k) ∧ Aside0 (Kd.R (Kd.int .u64) 43 w' w.heap.size (fun _ => True) v5 x5_1) ∧ Aside0 (Below w.heap.size w w'))
 case atStart => exact ⟨(y571), (0), (0), zi, zi, H', ⟨Nat.le_refl _⟩, ⟨ru HO573.out⟩, ⟨bq⟩⟩
 case round =>
  clear H'
  try clear c1
  try clear c4
  try clear c4b0
  try clear c4b1
  try clear c5
  try clear c5b0
  try clear c5b1
  obtain ⟨x5_1, x7_1, x18_1, rfl, rfl, HA, HK1, HO_5, HB⟩ := hrel
  cases gk with
  | zero => exact absurd HA.out (by simp [ulpref03_Shl.l0])
  | succ k1 =>
   have H := HA.out
   clear HA
   simp only [ulpref03_Shl.l0] at H
   by_cases c8 : x18_1 < (l0.length : Int)
   ·rw [if_pos c8] at H
    have c8b0 := decide_eq_true c8
    clear c8
    replace H := dn H
    obtain ⟨c9, H⟩ := H
    have c9b0 := decide_eq_true c9
    clear c9
    replace H := dn H
    obtain ⟨c10, H⟩ := H
    have c10b0 := decide_eq_true c10
    clear c10
    obtain ⟨ji11, hji11⟩ : ∃ j_ : Int, (IntKind.u64.wrap (Int.tmod a1 64)) = j_ := ⟨_, rfl⟩
    replace H : (if 0 ≤ (ji11) then (if x5_1.length < 17592186044416 then ((some (x5_1 ++ [Go.bits .or .u64 (shl .u64 (rd l0 x18_1) (ji11)) x7_1] : List Int)).bind fun y575 => (if (ji11) > 0 then (if 0 ≤ (IntKind.u64.wrap (64 - (ji11))) then (ulpref03_Shl.l0 k1 y575 (ji11) (shr .u64 (rd l0 x18_1) (IntKind.u64.wrap (64 - (ji11)))) l0 (l0.length : Int) (wrap64 (x18_1 + 1))) else (none)) else (ulpref03_Shl.l0 k1 y575 (ji11) 0 l0 (l0.length : Int) (wrap64 (x18_1 + 1))))) else (none)) else (none)) = some r := zQ hji11 H
    replace H := dn H
    obtain ⟨c12, H⟩ := H
    have c12b0 := eq_true c12
    have c12b1 := decide_eq_true c12
    clear c12
    obtain ⟨ji13, hji13⟩ : ∃ j_ : Int, (shl .u64 (rd l0 x18_1) (ji11)) = j_ := ⟨_, rfl⟩
    replace H : (if x5_1.length < 17592186044416 then ((some (x5_1 ++ [Go.bits .or .u64 (ji13) x7_1] : List Int)).bind fun y575 => (if (ji11) > 0 then (if 0 ≤ (IntKind.u64.wrap (64 - (ji11))) then (ulpref03_Shl.l0 k1 y575 (ji11) (shr .u64 (rd l0 x18_1) (IntKind.u64.wrap (64 - (ji11)))) l0 (l0.length : Int) (wrap64 (x18_1 + 1))) else (none)) else (ulpref03_Shl.l0 k1 y575 (ji11) 0 l0 (l0.length : Int) (wrap64 (x18_1 + 1))))) else (none)) = some r := zQ hji13 H
    have hji13_ : (IntKind.u64.wrap ((rd l0 x18_1) * 2 ^ min (ji11).toNat 64)) = ji13 := hji13
    have hji13z : (ji11) ≤ 64 → (IntKind.u64.wrap ((rd l0 x18_1) * 2 ^ (ji11).toNat)) = ji13 := shl_small hji13
    replace H := dn H
    obtain ⟨c14, H⟩ := H
    have LMc14 := zA c14
    clear c14
    obtain ⟨y575, hy575⟩ : ∃ y_ : List Int, y_ = (x5_1 ++ [Go.bits .or .u64 (ji13) x7_1]) := ⟨_, rfl⟩
    replace H : (if (ji11) > 0 then (if 0 ≤ (IntKind.u64.wrap (64 - (ji11))) then (ulpref03_Shl.l0 k1 y575 (ji11) (shr .u64 (rd l0 x18_1) (IntKind.u64.wrap (64 - (ji11)))) l0 (l0.length : Int) (wrap64 (x18_1 + 1))) else (none)) else (ulpref03_Shl.l0 k1 y575 (ji11) 0 l0 (l0.length : Int) (wrap64 (x18_1 + 1)))) = some r := zR hy575 H
    have Ny575 := zA hy575
    clear hy575
    by_cases c15 : (ji11) > 0
    ·rw [if_pos c15] at H
     have c15b0 := decide_eq_true c15
     clear c15
     obtain ⟨ji16, hji16⟩ : ∃ j_ : Int, (IntKind.u64.wrap (64 - (ji11))) = j_ := ⟨_, rfl⟩
     replace H : (if 0 ≤ (ji16) then (ulpref03_Shl.l0 k1 y575 (ji11) (shr .u64 (rd l0 x18_1) (ji16)) l0 (l0.length : Int) (wrap64 (x18_1 + 1))) else (none)) = some r := zQ hji16 H
     replace H := dn H
     obtain ⟨c17, H⟩ := H
     have c17b0 := eq_true c17
     have c17b1 := decide_eq_true c17
     clear c17
     obtain ⟨ji18, hji18⟩ : ∃ j_ : Int, (shr .u64 (rd l0 x18_1) (ji16)) = j_ := ⟨_, rfl⟩
     replace H : (ulpref03_Shl.l0 k1 y575 (ji11) ji18 l0 (l0.length : Int) (wrap64 (x18_1 + 1))) = some r := zQ hji18 H
     have hji18_ : ((rd l0 x18_1) / 2 ^ min (ji16).toNat 64) = ji18 := hji18
     have hji18z : (ji16) ≤ 64 → ((rd l0 x18_1) / 2 ^ (ji16).toNat) = ji18 := shr_small hji18
     have H' := zA H
     clear H
     have p574 : 0 ≤ (x18_1 : Int) := od
     have q574 : x18_1 < (l0.length : Int) := od
     obtain ⟨ad574, e574, hx574_0⟩ := Kd.at_int HR0.out x18_1 p574 q574
     cases e574
     replace hx574_0 := (HB.out.cell (World.block_lt_of_cell? w _ hx574_0)).trans hx574_0
     replace p574 := eq_true p574
     replace q574 := eq_true q574
     go_wp2_with (first | ((with_reducible refine gate_builtin (b := .append) (xs := #[.tmp 22, .tmp 28]) rfl ?_); at_builtin; refine R_append (Kd.int .u64) (w0 := w) w.heap.size rfl (.tmp 22) (.tmp 28) 23 43 (.int .u64 0) 8 rfl Tryd.underlying23 info43 rfl (by decide) (by omega) u5 x5_1 (Go.bits .or .u64 (ji13) x7_1) [.int .u64 (Go.bits .or .u64 (ji13) x7_1)] (fun _ => True) (fun _ => False) rfl rfl ?aP (fun _ hk => hk.elim) ?aF ?aO ?aB ?aS ?aL ?_; (case aP => exact rfl); (case aB => exact bq); (case aF => exact (fun _ _ => trivial)); (case aO => exact (ru HO_5.out)); (case aS => exact (below_size bq)); (case aL => have := LMc14.out; omega); intro v576 w19 ho hb hg hat; rw [← Ny575.out] at ho; have n0_ := zA (hb); have n1_ := zA (ho); clear HB; clear HO_5; have HB := n0_; have HO577 := n1_; clear n0_ n1_; clear ho hb hg hat))
     (try simp only [← hji11, ← hji16])
     go_roundg k1
     case measure => have := HK1.out; omega
     case rel => exact ⟨(y575), (ji18), (wrap64 (x18_1 + 1)), (by first | rfl | (simp; done) | (simp only [← hji18] <;> (first | rfl | simp)) | (simp [*]; done)), zi, (by first | exact H' | (simp only [hji3, hji11, hji13, hji16, hji18]; exact H') | (simp only [hji3, hji11, hji13, hji16, hji18] at H' ⊢; exact H')), ⟨by have := HK1.out; omega⟩, ⟨ru HO577.out⟩, ⟨bq⟩⟩
    rw [if_neg c15] at H
    have c15b0 := decide_eq_false c15
    clear c15
    have H' := zA H
    clear H
    have p574 : 0 ≤ (x18_1 : Int) := od
    have q574 : x18_1 < (l0.length : Int) := od
    obtain ⟨ad574, e574, hx574_0⟩ := Kd.at_int HR0.out x18_1 p574 q574
    cases e574
    replace hx574_0 := (HB.out.cell (World.block_lt_of_cell? w _ hx574_0)).trans hx574_0
    replace p574 := eq_true p574
    replace q574 := eq_true q574
    go_wp2_with (first | ((with_reducible refine gate_builtin (b := .append) (xs := #[.tmp 22, .tmp 28]) rfl ?_); at_builtin; refine R_append (Kd.int .u64) (w0 := w) w.heap.size rfl (.tmp 22) (.tmp 28) 23 43 (.int .u64 0) 8 rfl Tryd.underlying23 info43 rfl (by decide) (by omega) u5 x5_1 (Go.bits .or .u64 (ji13) x7_1) [.int .u64 (Go.bits .or .u64 (ji13) x7_1)] (fun _ => True) (fun _ => False) rfl rfl ?aP (fun _ hk => hk.elim) ?aF ?aO ?aB ?aS ?aL ?_; (case aP => exact rfl); (case aB => exact bq); (case aF => exact (fun _ _ => trivial)); (case aO => exact (ru HO_5.out)); (case aS => exact (below_size bq)); (case aL => have := LMc14.out; omega); intro v576 w20 ho hb hg hat; rw [← Ny575.out] at ho; have n0_ := zA (hb); have n1_ := zA (ho); clear HB; clear HO_5; have HB := n0_; have HO577 := n1_; clear n0_ n1_; clear ho hb hg hat))
    (try simp only [← hji11])
    go_roundg k1
    case measure => have := HK1.out; omega
    case rel => exact ⟨(y575), (0), (wrap64 (x18_1 + 1)), zi, zi, (by first | exact H' | (simp only [hji3, hji11, hji13]; exact H') | (simp only [hji3, hji11, hji13] at H' ⊢; exact H')), ⟨by have := HK1.out; omega⟩, ⟨ru HO577.out⟩, ⟨bq⟩⟩
   rw [if_neg c8] at H
   have c8b0 := decide_eq_false c8
   clear c8
   replace H := dn H
   obtain ⟨c21, H⟩ := H
   have LMc21 := zA c21
   clear c21
   obtain ⟨y578, hy578⟩ : ∃ y_ : List Int, y_ = (x5_1 ++ [x7_1]) := ⟨_, rfl⟩
   replace H : ((ulpref03_Norm.f k1 y578).bind fun t581 => (some t581)) = some r := zR hy578 H
   have Ny578 := zA hy578
   clear hy578
   obtain ⟨t581, A22, H⟩ := zh H
   obtain rfl := Option.some.inj H
   go_wp2_with (first | ((with_reducible refine gate_builtin (b := .append) (xs := #[.tmp 37, .tmp 39]) rfl ?_); at_builtin; refine R_append (Kd.int .u64) (w0 := w) w.heap.size rfl (.tmp 37) (.tmp 39) 23 43 (.int .u64 0) 8 rfl Tryd.underlying23 info43 rfl (by decide) (by omega) u5 x5_1 x7_1 [.int .u64 x7_1] (fun _ => True) (fun _ => False) rfl rfl ?aP (fun _ hk => hk.elim) ?aF ?aO ?aB ?aS ?aL ?_; (case aP => exact rfl); (case aB => exact bq); (case aF => exact (fun _ _ => trivial)); (case aO => exact (ru HO_5.out)); (case aS => exact (below_size bq)); (case aL => have := LMc21.out; omega); intro v579 w23 ho hb hg hat; rw [← Ny578.out] at ho; have n0_ := zA (hb); have n1_ := zA (ho); clear HB; clear HO_5; have HB := n0_; have HO580 := n1_; clear n0_ n1_; clear ho hb hg hat; obtain ⟨Ao24, co24, eo24⟩ := R_slice HO580.out; subst eo24) | ((with_reducible refine zG 74 rfl ?_); refine zL (some 41) rfl rfl Tryd.func74 #[.slice Ao24 y578.length co24] rfl ?_; (with_reducible refine (ulpref03_Norm.calls k1 _ _ y578 t581 _ ?side1 ?side2 A22.out).mono ?_); (case side1 => exact zk (R_reads' HO580.out).2.2); (case side2 => exact (R_reads' HO580.out).2.1); rintro e w25 ⟨v582, rfl, ho0, hb⟩; refine ⟨_, rfl, ?_⟩; have HO583 := zA (R_lower (R_new' ho0 (R_lt (ru HO580.out))) (below_size bq)); replace HO580 := zA (R_elder' (ru HO580.out) (R_base ho0) hb); replace HB := ze hb; (try clear ho0)))
   go_ret
   exact ⟨_, by first | rfl | (simp [errW_none, errW_some] <;> rfl) | (simp only [← hji3]; first | rfl | (simp [errW_none, errW_some] <;> rfl)) | (simp [*, errW_none, errW_some] <;> rfl), ru (R_mono HO583.out (fun _ hk => trivial)), bq⟩
end Go.Proofs.YtemfckibdojbbaaDoor.PAll
