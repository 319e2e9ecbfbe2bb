/- Printed functions, merged by a program of this session. -/
import Derived.Test.YtemfckibdojbbaaDoorXDyadFloatsP0
import Derived.Laws.StructEq
import Derived.Test.YtemfckibdojbbaaDoorXDyadFloatsSh
namespace Go.Proofs.YtemfckibdojbbaaDoor.PAll
open Go.RowKit Go.Proofs.YtemfckibdojbbaaDoorW.PrintWords Go.Proofs.YtemfckibdojbbaaDoorW.PrintLast Go.Proofs.YtemfckibdojbbaaDoorW.PrintMore Go.Proofs.YtemfckibdojbbaaDoorW.PrintWords.Kd
attribute [local go_sem] max2_int min2_int max_two min_two max_three min_three max_four min_four   -- for this text's walks alone
set_option linter.unusedVariables false
set_option linter.unusedSimpArgs false
attribute [local go_sem] ext135 ext136
def ulpref03_Norm.l0 : Nat → List Int → Int → Option (List Int)
 | 0, _, _ => none
 | k + 1, x0, x3 => if x3 > 0 then (if 0 ≤ (wrap64 (x3 - 1)) then (if (wrap64 (x3 - 1)) < (x0.length : Int) then (if (rd x0 (wrap64 (x3 - 1))) = 0 then (ulpref03_Norm.l0 k x0 (wrap64 (x3 - 1))) else (if 0 ≤ x3 then (if x3 ≤ (x0.length : Int) then (if ([] : List Int).length + (x0.take (x3 : Int).toNat).length < 17592186044416 then (some (([] : List Int) ++ (x0.take (x3 : Int).toNat))) else (none)) else (none)) else (none))) else (none)) else (none)) else (if 0 ≤ x3 then (if x3 ≤ (x0.length : Int) then (if ([] : List Int).length + (x0.take (x3 : Int).toNat).length < 17592186044416 then (some (([] : List Int) ++ (x0.take (x3 : Int).toNat))) else (none)) else (none)) else (none))
def ulpref03_Norm.f (k : Nat) (l0 : List Int) : Option (List Int) := ulpref03_Norm.l0 k l0 (l0.length : Int)
set_option maxHeartbeats 8000000 in
set_option maxRecDepth 100000 in
theorem ulpref03_Norm.calls (k : Nat) (A0 : Option Addr) (c0 : Nat) (l0 : List Int) (r : List Int) (w : World) (hr0 : Kd.C (Kd.int .u64) w A0 l0.length l0) (hc0 : l0.length ≤ c0) (h : ulpref03_Norm.f k l0 = some r) :
  Calls Tryd.prog 74 #[.slice A0 l0.length c0] w fun e w' => ∃ v0_ : Value, e = .returned (v0_) ∧ Kd.R (Kd.int .u64) 43 w' w.heap.size (fun _ => True) v0_ r ∧ Below w.heap.size w w' := by
 have HR0 := zA hr0
 have HC0 := zA hc0
 clear hr0 hc0
 have HB := zA (Below.refl w.heap.size w)
 have H : (ulpref03_Norm.l0 k l0 (l0.length : Int)) = some r := h
 clear h
 have H' := zA H
 clear H
 go_enter Tryd.func74, Tryd.ntmps74
 go_wp2
 go_loopg [3] k (fun kq v3 w' => ∃ (x3_1 : Int), v3 = .int .i64 x3_1 ∧ Aside0 (ulpref03_Norm.l0 kq l0 x3_1 = some r) ∧ Aside0 (kq ≤ k) ∧ Aside0 (Below w.heap.size w w'))
 case atStart => exact ⟨((l0.length : Int)), zi, H', ⟨Nat.le_refl _⟩, ⟨bq⟩⟩
 case round =>
  clear H'
  obtain ⟨x3_1, rfl, HA, HK1, HB⟩ := hrel
  cases gk with
  | zero => exact absurd HA.out (by simp [ulpref03_Norm.l0])
  | succ k1 =>
   have H := HA.out
   clear HA
   simp only [ulpref03_Norm.l0] at H
   by_cases c2 : x3_1 > 0
   ·rw [if_pos c2] at H
    have c2b0 := decide_eq_true c2
    clear c2
    obtain ⟨ji3, hji3⟩ : ∃ j_ : Int, (wrap64 (x3_1 - 1)) = j_ := ⟨_, rfl⟩
    replace H : (if 0 ≤ (ji3) then (if (ji3) < (l0.length : Int) then (if (rd l0 (ji3)) = 0 then (ulpref03_Norm.l0 k1 l0 ji3) else (if 0 ≤ x3_1 then (if x3_1 ≤ (l0.length : Int) then (if ([] : List Int).length + (l0.take (x3_1 : Int).toNat).length < 17592186044416 then (some (([] : List Int) ++ (l0.take (x3_1 : Int).toNat))) else (none)) else (none)) else (none))) else (none)) else (none)) = some r := zQ hji3 H
    have hji3w : (IntKind.i64.wrap (x3_1 - 1)) = ji3 := (i64_w _).trans hji3
    replace H := dn H
    obtain ⟨c4, H⟩ := H
    have c4b0 := decide_eq_true c4
    clear c4
    replace H := dn H
    obtain ⟨c5, H⟩ := H
    have c5b0 := decide_eq_true c5
    clear c5
    by_cases c6 : (rd l0 (ji3)) = 0
    ·rw [if_pos c6] at H
     have c6b0 := beq_iff_eq.mpr c6
     have c6b1 := bne_eq_false_iff_eq.mpr c6
     clear c6
     have H' := zA H
     clear H
     have p517 : 0 ≤ ((ji3) : Int) := od
     have q517 : (ji3) < (l0.length : Int) := od
     obtain ⟨ad517, e517, hx517_0⟩ := Kd.at_int HR0.out (ji3) p517 q517
     cases e517
     replace hx517_0 := (HB.out.cell (World.block_lt_of_cell? w _ hx517_0)).trans hx517_0
     replace p517 := eq_true p517
     replace q517 := eq_true q517
     go_wp2
     go_roundg k1
     case measure => have := HK1.out; omega
     case rel => exact ⟨(ji3), (by first | rfl | (simp; done) | (simp only [← hji3] <;> (first | rfl | simp)) | (simp [*]; done)), (by first | exact H' | (simp only [hji3]; exact H') | (simp only [hji3] at H' ⊢; exact H')), ⟨by have := HK1.out; omega⟩, ⟨bq⟩⟩
    rw [if_neg c6] at H
    have c6b0 := beq_eq_false_iff_ne.mpr c6
    have c6b1 := bne_iff_ne.mpr c6
    replace H := dn H
    obtain ⟨c7, H⟩ := H
    have c7b0 := eq_true c7
    have c7b1 := decide_eq_true c7
    clear c7
    replace H := dn H
    obtain ⟨c8, H⟩ := H
    have c8b0 := eq_true c8
    have c8b1 := decide_eq_true c8
    clear c8
    replace H := dn H
    obtain ⟨c9, H⟩ := H
    have LMc9 := zA c9
    clear c9
    obtain ⟨y519, hy519⟩ : ∃ y_ : List Int, y_ = (([] : List Int) ++ (l0.take (x3_1 : Int).toNat)) := ⟨_, rfl⟩
    replace H : (some y519) = some r := zR hy519 H
    have Ny519 := zA hy519
    clear hy519
    obtain rfl := Option.some.inj H
    have p517 : 0 ≤ ((ji3) : Int) := od
    have q517 : (ji3) < (l0.length : Int) := od
    obtain ⟨ad517, e517, hx517_0⟩ := Kd.at_int HR0.out (ji3) p517 q517
    cases e517
    replace hx517_0 := (HB.out.cell (World.block_lt_of_cell? w _ hx517_0)).trans hx517_0
    replace p517 := eq_true p517
    replace q517 := eq_true q517
    obtain ⟨i010, hi010, _, hsz10, _⟩ := info_parts info43
    obtain ⟨hcut10, hA10, hC10⟩ := print_take_of (P := Tryd.prog) (Value.int .u64) 0 23 43 .i64 Tryd.underlying23 hi010 hsz10 (some ad517) c0 l0 x3_1 (od) (od) HC0.out
    have HR518 := zA (C_of_reads (h1 := fun _ => rfl) (hA10 _ (Kd.reads_of_C HR0.out)))
    have HC518 := zA hC10
    clear hA10 hC10 hi010 hsz10
    go_wp2_with (first | ((with_reducible refine gate_builtin (b := .append) (xs := #[.tmp 19, .tmp 22]) rfl ?_); at_builtin; refine R_append_rows (Kd.int .u64) (w0 := w) w.heap.size rfl (.tmp 19) (.tmp 22) 23 43 (.int .u64 0) 8 rfl Tryd.underlying23 info43 rfl (by decide) (by omega) (.slice none 0 0) ([] : List Int) (l0.take (x3_1 : Int).toNat) _ _ _ (fun _ => True) (fun _ => False) rfl rfl ?aO ?aR (fun _ _ h => h) (fun _ h => h.elim) ?aF ?aB ?aS ?aL ?_; (case aR => first | (refine Eq.mp (congrArg (fun m_ => ReadsRow _ _ _ _ m_ _) (show (l0.take (x3_1 : Int).toNat).length = x3_1.toNat from (by rw [List.length_take]; have h_ : (x3_1 : Int) ≤ (l0.length : Int) := od; omega))) ?_; repeat (first | exact (C_below HR518.out HB.out) | (with_reducible refine C_alloc ?_ _) | (with_reducible refine C_drewN ?_ _) | (with_reducible refine C_drew ?_))) | (repeat (first | exact (C_below HR518.out HB.out) | (with_reducible refine C_alloc ?_ _) | (with_reducible refine C_drewN ?_ _) | (with_reducible refine C_drew ?_)))); (case aB => exact bq); (case aF => exact (fun _ _ => trivial)); (case aO => exact ((R_nil _ _ _ _ (fun _ => True)))); (case aS => exact (below_size bq)); (case aL => have := LMc9.out; have hlx_ := (show (l0.take (x3_1 : Int).toNat).length = x3_1.toNat from (by rw [List.length_take]; have h_ : (x3_1 : Int) ≤ (l0.length : Int) := od; omega)); omega); intro v520 w11 ho hb hg hat; rw [← Ny519.out] at ho; replace HB := zA (hb); have HO521 := zA (ho); clear ho hb hg hat))
    go_ret
    exact ⟨_, by first | rfl | (simp [errW_none, errW_some] <;> rfl) | (simp only [← hji3]; first | rfl | (simp [errW_none, errW_some] <;> rfl)) | (simp [*, errW_none, errW_some] <;> rfl), ru HO521.out, bq⟩
   rw [if_neg c2] at H
   have c2b0 := decide_eq_false c2
   clear c2
   replace H := dn H
   obtain ⟨c12, H⟩ := H
   have c12b0 := eq_true c12
   have c12b1 := decide_eq_true c12
   clear c12
   replace H := dn H
   obtain ⟨c13, H⟩ := H
   have c13b0 := eq_true c13
   have c13b1 := decide_eq_true c13
   clear c13
   replace H := dn H
   obtain ⟨c14, H⟩ := H
   have LMc14 := zA c14
   clear c14
   obtain ⟨y523, hy523⟩ : ∃ y_ : List Int, y_ = (([] : List Int) ++ (l0.take (x3_1 : Int).toNat)) := ⟨_, rfl⟩
   replace H : (some y523) = some r := zR hy523 H
   have Ny523 := zA hy523
   clear hy523
   obtain rfl := Option.some.inj H
   obtain ⟨i015, hi015, _, hsz15, _⟩ := info_parts info43
   obtain ⟨hcut15, hA15, hC15⟩ := print_take_of (P := Tryd.prog) (Value.int .u64) 0 23 43 .i64 Tryd.underlying23 hi015 hsz15 A0 c0 l0 x3_1 (od) (od) HC0.out
   have HR522 := zA (C_of_reads (h1 := fun _ => rfl) (hA15 _ (Kd.reads_of_C HR0.out)))
   have HC522 := zA hC15
   clear hA15 hC15 hi015 hsz15
   go_wp2_with (first | ((with_reducible refine gate_builtin (b := .append) (xs := #[.tmp 19, .tmp 22]) rfl ?_); at_builtin; refine R_append_rows (Kd.int .u64) (w0 := w) w.heap.size rfl (.tmp 19) (.tmp 22) 23 43 (.int .u64 0) 8 rfl Tryd.underlying23 info43 rfl (by decide) (by omega) (.slice none 0 0) ([] : List Int) (l0.take (x3_1 : Int).toNat) _ _ _ (fun _ => True) (fun _ => False) rfl rfl ?aO ?aR (fun _ _ h => h) (fun _ h => h.elim) ?aF ?aB ?aS ?aL ?_; (case aR => first | (refine Eq.mp (congrArg (fun m_ => ReadsRow _ _ _ _ m_ _) (show (l0.take (x3_1 : Int).toNat).length = x3_1.toNat from (by rw [List.length_take]; have h_ : (x3_1 : Int) ≤ (l0.length : Int) := od; omega))) ?_; repeat (first | exact (C_below HR522.out HB.out) | (with_reducible refine C_alloc ?_ _) | (with_reducible refine C_drewN ?_ _) | (with_reducible refine C_drew ?_))) | (repeat (first | exact (C_below HR522.out HB.out) | (with_reducible refine C_alloc ?_ _) | (with_reducible refine C_drewN ?_ _) | (with_reducible refine C_drew ?_)))); (case aB => exact bq); (case aF => exact (fun _ _ => trivial)); (case aO => exact ((R_nil _ _ _ _ (fun _ => True)))); (case aS => exact (below_size bq)); (case aL => have := LMc14.out; have hlx_ := (show (l0.take (x3_1 : Int).toNat).length = x3_1.toNat from (by rw [List.length_take]; have h_ : (x3_1 : Int) ≤ (l0.length : Int) := od; omega)); omega); intro v524 w16 ho hb hg hat; rw [← Ny523.out] at ho; replace HB := zA (hb); have HO525 := zA (ho); clear ho hb hg hat))
   go_ret
   exact ⟨_, er, ru HO525.out, bq⟩
def ulpref03_Len.l0 : Nat → Int → Int → Option (Int)
 | 0, _, _ => none
 | k + 1, x3, x4 => if x4 > 0 then (ulpref03_Len.l0 k (wrap64 (x3 + 1)) (IntKind.u64.wrap (Int.tdiv x4 2))) else (some x3)
def ulpref03_Len.f (k : Nat) (l0 : List Int) : Option (Int) := (ulpref03_Norm.f k l0).bind fun t526 => (if (t526.length : Int) = 0 then (some 0) else (if 0 ≤ (wrap64 ((t526.length : Int) - 1)) then (if (wrap64 ((t526.length : Int) - 1)) < (t526.length : Int) then (ulpref03_Len.l0 k (wrap64 (64 * (wrap64 ((t526.length : Int) - 1)))) (rd t526 (wrap64 ((t526.length : Int) - 1)))) else (none)) else (none)))
set_option maxHeartbeats 8000000 in
set_option maxRecDepth 100000 in
theorem ulpref03_Len.calls (k : Nat) (A0 : Option Addr) (c0 : Nat) (l0 : List Int) (r : Int) (w : World) (hr0 : Kd.C (Kd.int .u64) w A0 l0.length l0) (hc0 : l0.length ≤ c0) (h : ulpref03_Len.f k l0 = some r) :
  Calls Tryd.prog 96 #[.slice A0 l0.length c0] w fun e w' => e = .returned (.int .i64 r) ∧ Below w.heap.size w w' := by
 have HR0 := zA hr0
 have HC0 := zA hc0
 clear hr0 hc0
 have HB := zA (Below.refl w.heap.size w)
 have H : ((ulpref03_Norm.f k l0).bind fun t526 => (if (t526.length : Int) = 0 then (some 0) else (if 0 ≤ (wrap64 ((t526.length : Int) - 1)) then (if (wrap64 ((t526.length : Int) - 1)) < (t526.length : Int) then (ulpref03_Len.l0 k (wrap64 (64 * (wrap64 ((t526.length : Int) - 1)))) (rd t526 (wrap64 ((t526.length : Int) - 1)))) else (none)) else (none)))) = some r := h
 clear h
 obtain ⟨t526, A2, H⟩ := zh H
 by_cases c3 : (t526.length : Int) = 0
 ·rw [if_pos c3] at H
  have c3b0 := beq_iff_eq.mpr c3
  have c3b1 := bne_eq_false_iff_eq.mpr c3
  clear c3
  obtain rfl := Option.some.inj H
  go_enter Tryd.func96, Tryd.ntmps96
  go_wp2_with (first | ((with_reducible refine zG 74 rfl ?_); refine zL (some 6) rfl rfl Tryd.func74 #[.slice A0 l0.length c0] rfl ?_; (with_reducible refine (ulpref03_Norm.calls k _ _ l0 t526 _ ?side1 ?side2 A2.out).mono ?_); (case side1 => exact zk HR0.out); (case side2 => exact HC0.out); rintro e w4 ⟨v527, rfl, ho0, hb⟩; refine ⟨_, rfl, ?_⟩; have HO528 := zA (R_lower ho0 (below_size bq)); replace HB := ze hb; (try clear ho0); obtain ⟨Ao5, co5, eo5⟩ := R_slice HO528.out; subst eo5))
  go_ret
  exact ⟨er, bq⟩
 rw [if_neg c3] at H
 have c3b0 := beq_eq_false_iff_ne.mpr c3
 have c3b1 := bne_iff_ne.mpr c3
 have c3b2 : ¬ (t526 = []) := fun h_ => c3 (by rw [h_]; rfl)
 obtain ⟨ji6, hji6⟩ : ∃ j_ : Int, (wrap64 ((t526.length : Int) - 1)) = j_ := ⟨_, rfl⟩
 replace H : (if 0 ≤ (ji6) then (if (ji6) < (t526.length : Int) then (ulpref03_Len.l0 k (wrap64 (64 * (ji6))) (rd t526 (ji6))) else (none)) else (none)) = some r := zQ hji6 H
 (try rw [hji6] at A2)
 have hji6w : (IntKind.i64.wrap ((t526.length : Int) - 1)) = ji6 := (i64_w _).trans hji6
 replace H := dn H
 obtain ⟨c7, H⟩ := H
 have c7b0 := decide_eq_true c7
 clear c7
 replace H := dn H
 obtain ⟨c8, H⟩ := H
 have c8b0 := decide_eq_true c8
 clear c8
 have H' := zA H
 clear H
 go_enter Tryd.func96, Tryd.ntmps96
 go_wp2_with (first | ((with_reducible refine zG 74 rfl ?_); refine zL (some 6) rfl rfl Tryd.func74 #[.slice A0 l0.length c0] rfl ?_; (with_reducible refine (ulpref03_Norm.calls k _ _ l0 t526 _ ?side1 ?side2 A2.out).mono ?_); (case side1 => exact zk HR0.out); (case side2 => exact HC0.out); rintro e w9 ⟨v527, rfl, ho0, hb⟩; refine ⟨_, rfl, ?_⟩; have HO528 := zA (R_lower ho0 (below_size bq)); replace HB := ze hb; (try clear ho0); obtain ⟨Ao10, co10, eo10⟩ := R_slice HO528.out; subst eo10; have p529 : 0 ≤ ((ji6) : Int) := od; have q529 : (ji6) < (t526.length : Int) := od; obtain ⟨ad529, e529, hx529_0⟩ := Kd.at_int (R_reads' HO528.out).2.2 (ji6) p529 q529; cases e529; replace p529 := eq_true p529; replace q529 := eq_true q529))
 go_loopg [3, 4] k (fun kq v3 v4 w' => ∃ (x3_1 : Int) (x4_1 : Int), v3 = .int .i64 x3_1 ∧ v4 = .int .u64 x4_1 ∧ Aside0 (ulpref03_Len.l0 kq x3_1 x4_1 = some r) ∧ Aside0 (kq ≤ k) ∧ Aside0 (Below w.heap.size w w'))
 case atStart => exact ⟨(wrap64 (64 * (ji6))), (rd t526 (ji6)), (by first | rfl | (simp; done) | (simp only [← hji6] <;> (first | rfl | simp)) | (simp [*]; done)), (by first | rfl | (simp; done) | (simp only [← hji6] <;> (first | rfl | simp)) | (simp [*]; done)), H', ⟨Nat.le_refl _⟩, ⟨bq⟩⟩
 case round =>
  clear H'
  try clear c3
  try clear c3b0
  try clear c3b1
  try clear c3b2
  try clear c7
  try clear c7b0
  try clear c8
  try clear c8b0
  try clear c9
  try clear hx529_0
  try clear p529
  try clear q529
  obtain ⟨x3_1, x4_1, rfl, rfl, HA, HK1, HB⟩ := hrel
  cases gk with
  | zero => exact absurd HA.out (by simp [ulpref03_Len.l0])
  | succ k1 =>
   have H := HA.out
   clear HA
   simp only [ulpref03_Len.l0] at H
   by_cases c11 : x4_1 > 0
   ·rw [if_pos c11] at H
    have c11b0 := decide_eq_true c11
    clear c11
    have H' := zA H
    clear H
    go_wp2
    go_roundg k1
    case measure => have := HK1.out; omega
    case rel => exact ⟨(wrap64 (x3_1 + 1)), (IntKind.u64.wrap (Int.tdiv x4_1 2)), zi, zi, (by first | exact H' | (simp only [hji6]; exact H') | (simp only [hji6] at H' ⊢; exact H')), ⟨by have := HK1.out; omega⟩, ⟨bq⟩⟩
   rw [if_neg c11] at H
   have c11b0 := decide_eq_false c11
   clear c11
   obtain rfl := Option.some.inj H
   go_wp2
   go_ret
   exact ⟨by first | rfl | (simp [errW_none, errW_some] <;> rfl) | (simp only [← hji6]; first | rfl | (simp [errW_none, errW_some] <;> rfl)) | (simp [*, errW_none, errW_some] <;> rfl), bq⟩
def ulpref03_word.f (l0 : List Int) (a1 : Int) : Option (Int) := if a1 < (l0.length : Int) then (if 0 ≤ a1 then (some (rd l0 a1)) else (none)) else (some 0)
set_option maxHeartbeats 8000000 in
set_option maxRecDepth 100000 in
theorem ulpref03_word.calls (A0 : Option Addr) (c0 : Nat) (l0 : List Int) (a1 : Int) (r : Int) (w : World) (hr0 : Kd.C (Kd.int .u64) w A0 l0.length l0) (hc0 : l0.length ≤ c0) (h : ulpref03_word.f l0 a1 = some r) :
  Calls Tryd.prog 137 #[.slice A0 l0.length c0, .int .i64 a1] w fun e w' => e = .returned (.int .u64 r) ∧ Drawn0 w w' := by
 have HR0 := zA hr0
 have HC0 := zA hc0
 clear hr0 hc0
 have H : (if a1 < (l0.length : Int) then (if 0 ≤ a1 then (some (rd l0 a1)) else (none)) else (some 0)) = some r := h
 clear h
 by_cases c3 : a1 < (l0.length : Int)
 ·rw [if_pos c3] at H
  have c3b0 := decide_eq_true c3
  clear c3
  replace H := dn H
  obtain ⟨c4, H⟩ := H
  have c4b0 := decide_eq_true c4
  clear c4
  obtain rfl := Option.some.inj H
  have p530 : 0 ≤ (a1 : Int) := od
  have q530 : a1 < (l0.length : Int) := od
  obtain ⟨ad530, e530, hx530_0⟩ := Kd.at_int HR0.out a1 p530 q530
  cases e530
  replace p530 := eq_true p530
  replace q530 := eq_true q530
  go_enter Tryd.func137, Tryd.ntmps137
  go_wp2
  go_ret
  exact ⟨by first | rfl | (simp; done) | (simp [*]; done), by repeat (first | exact Drawn0.refl _ | apply Drawn0.step)⟩
 rw [if_neg c3] at H
 have c3b0 := decide_eq_false c3
 clear c3
 obtain rfl := Option.some.inj H
 go_enter Tryd.func137, Tryd.ntmps137
 go_wp2
 go_ret
 exact ⟨by first | rfl | (simp; done) | (simp [*]; done), by repeat (first | exact Drawn0.refl _ | apply Drawn0.step)⟩
def ulpref03_Bit.f (l0 : List Int) (a1 : Int) : Option (Bool) := if a1 ≥ 0 then ((ulpref03_word.f l0 (wrap64 (Int.tdiv a1 64))).bind fun t531 => (if 0 ≤ (IntKind.u64.wrap (Int.tmod a1 64)) then (some ((Int.tmod (shr .u64 t531 (IntKind.u64.wrap (Int.tmod a1 64))) 2) == 1)) else (none))) else (some false)
set_option maxHeartbeats 8000000 in
set_option maxRecDepth 100000 in
theorem ulpref03_Bit.calls (A0 : Option Addr) (c0 : Nat) (l0 : List Int) (a1 : Int) (r : Bool) (w : World) (hr0 : Kd.C (Kd.int .u64) w A0 l0.length l0) (hc0 : l0.length ≤ c0) (h : ulpref03_Bit.f l0 a1 = some r) :
  Calls Tryd.prog 138 #[.slice A0 l0.length c0, .int .i64 a1] w fun e w' => e = .returned (.bool r) ∧ Drawn0 w w' := by
 have HR0 := zA hr0
 have HC0 := zA hc0
 clear hr0 hc0
 have H : (if a1 ≥ 0 then ((ulpref03_word.f l0 (wrap64 (Int.tdiv a1 64))).bind fun t531 => (if 0 ≤ (IntKind.u64.wrap (Int.tmod a1 64)) then (some ((Int.tmod (shr .u64 t531 (IntKind.u64.wrap (Int.tmod a1 64))) 2) == 1)) else (none))) else (some false)) = some r := h
 clear h
 by_cases c3 : a1 ≥ 0
 ·rw [if_pos c3] at H
  have c3b0 := decide_eq_true c3
  clear c3
  obtain ⟨t531, A4, H⟩ := zh H
  obtain ⟨ji5, hji5⟩ : ∃ j_ : Int, (IntKind.u64.wrap (Int.tmod a1 64)) = j_ := ⟨_, rfl⟩
  replace H : (if 0 ≤ (ji5) then (some ((Int.tmod (shr .u64 t531 (ji5)) 2) == 1)) else (none)) = some r := zQ hji5 H
  (try rw [hji5] at A4)
  replace H := dn H
  obtain ⟨c6, H⟩ := H
  have c6b0 := eq_true c6
  have c6b1 := decide_eq_true c6
  clear c6
  obtain ⟨ji7, hji7⟩ : ∃ j_ : Int, (shr .u64 t531 (ji5)) = j_ := ⟨_, rfl⟩
  replace H : (some ((Int.tmod (ji7) 2) == 1)) = some r := zQ hji7 H
  (try rw [hji7] at A4)
  have hji7_ : (t531 / 2 ^ min (ji5).toNat 64) = ji7 := hji7
  have hji7z : (ji5) ≤ 64 → (t531 / 2 ^ (ji5).toNat) = ji7 := shr_small hji7
  obtain rfl := Option.some.inj H
  go_enter Tryd.func138, Tryd.ntmps138
  go_wp2_with (first | (go_at_call 137; (with_reducible refine (ulpref03_word.calls _ _ l0 (wrap64 (Int.tdiv a1 64)) t531 _ ?side1 ?side2 A4.out).mono ?_); (case side1 => exact zk HR0.out); (case side2 => exact HC0.out); rintro e w' ⟨rfl, ⟨nd, rfl⟩⟩))
  go_ret
  exact ⟨by first | rfl | (simp; done) | (simp only [← hji5, ← hji7] <;> (first | rfl | simp)) | (simp [*]; done), by repeat (first | exact Drawn0.refl _ | apply Drawn0.step)⟩
 rw [if_neg c3] at H
 have c3b0 := decide_eq_false c3
 clear c3
 obtain rfl := Option.some.inj H
 go_enter Tryd.func138, Tryd.ntmps138
 go_wp2
 go_ret
 exact ⟨by first | rfl | (simp; done) | (simp [*]; done), by repeat (first | exact Drawn0.refl _ | apply Drawn0.step)⟩
def ulpref03_Low.l0 : Nat → List Int → Int → Option (Int)
 | 0, _, _ => none
 | k + 1, x0, x3 => (ulpref03_Bit.f x0 x3).bind fun t533 => (if t533 = true then (some x3) else (ulpref03_Low.l0 k x0 (wrap64 (x3 + 1))))
def ulpref03_Low.f (k : Nat) (l0 : List Int) : Option (Int) := (ulpref03_Len.f k l0).bind fun t532 => (if t532 = 0 then (some 0) else (ulpref03_Low.l0 k l0 0))
set_option maxHeartbeats 8000000 in
set_option maxRecDepth 100000 in
theorem ulpref03_Low.calls (k : Nat) (A0 : Option Addr) (c0 : Nat) (l0 : List Int) (r : Int) (w : World) (hr0 : Kd.C (Kd.int .u64) w A0 l0.length l0) (hc0 : l0.length ≤ c0) (h : ulpref03_Low.f k l0 = some r) :
  Calls Tryd.prog 124 #[.slice A0 l0.length c0] w fun e w' => e = .returned (.int .i64 r) ∧ Below w.heap.size w w' := by
 have HR0 := zA hr0
 have HC0 := zA hc0
 clear hr0 hc0
 have HB := zA (Below.refl w.heap.size w)
 have H : ((ulpref03_Len.f k l0).bind fun t532 => (if t532 = 0 then (some 0) else (ulpref03_Low.l0 k l0 0))) = some r := h
 clear h
 obtain ⟨t532, A2, H⟩ := zh H
 by_cases c3 : t532 = 0
 ·rw [if_pos c3] at H
  have c3b0 := beq_iff_eq.mpr c3
  have c3b1 := bne_eq_false_iff_eq.mpr c3
  clear c3
  obtain rfl := Option.some.inj H
  go_enter Tryd.func124, Tryd.ntmps124
  go_wp2_with (first | ((with_reducible refine zG 96 rfl ?_); refine zL (some 5) rfl rfl Tryd.func96 #[.slice A0 l0.length c0] rfl ?_; (with_reducible refine (ulpref03_Len.calls k _ _ l0 t532 _ ?side1 ?side2 A2.out).mono ?_); (case side1 => exact zk HR0.out); (case side2 => exact HC0.out); rintro e w4 ⟨rfl, hb⟩; refine ⟨_, rfl, ?_⟩; replace HB := ze hb))
  go_ret
  exact ⟨er, bq⟩
 rw [if_neg c3] at H
 have c3b0 := beq_eq_false_iff_ne.mpr c3
 have c3b1 := bne_iff_ne.mpr c3
 have H' := zA H
 clear H
 go_enter Tryd.func124, Tryd.ntmps124
 go_wp2_with (first | ((with_reducible refine zG 96 rfl ?_); refine zL (some 5) rfl rfl Tryd.func96 #[.slice A0 l0.length c0] rfl ?_; (with_reducible refine (ulpref03_Len.calls k _ _ l0 t532 _ ?side1 ?side2 A2.out).mono ?_); (case side1 => exact zk HR0.out); (case side2 => exact HC0.out); rintro e w5 ⟨rfl, hb⟩; refine ⟨_, rfl, ?_⟩; replace HB := ze hb))
 go_loopg [3] k (fun kq v3 w' => ∃ (x3_1 : Int), v3 = .int .i64 x3_1 ∧ Aside0 (ulpref03_Low.l0 kq l0 x3_1 = some r) ∧ Aside0 (kq ≤ k) ∧ Aside0 (Below w.heap.size w w'))
 case atStart => exact ⟨(0), zi, H', ⟨Nat.le_refl _⟩, ⟨bq⟩⟩
 case round =>
  clear H'
  try clear c3
  try clear c3b0
  try clear c3b1
  obtain ⟨x3_1, rfl, HA, HK1, HB⟩ := hrel
  cases gk with
  | zero => exact absurd HA.out (by simp [ulpref03_Low.l0])
  | succ k1 =>
   have H := HA.out
   clear HA
   simp only [ulpref03_Low.l0] at H
   obtain ⟨t533, A6, H⟩ := zh H
   by_cases c7 : t533 = true
   ·subst c7
    rw [if_pos rfl] at H
    obtain rfl := Option.some.inj H
    go_wp2_with (first | ((with_reducible refine zG 138 rfl ?_); refine zL (some 9) rfl rfl Tryd.func138 #[.slice A0 l0.length c0, .int .i64 x3_1] rfl ?_; (with_reducible refine (ulpref03_Bit.calls _ _ l0 x3_1 true _ ?side1 ?side2 A6.out).mono ?_); (case side1 => exact zk (C_below HR0.out HB.out)); (case side2 => exact HC0.out); rintro e w' ⟨rfl, ⟨nd, rfl⟩⟩; refine ⟨_, rfl, ?_⟩))
    go_ret
    exact ⟨er, bq⟩
   replace c7 := Bool.eq_false_iff.mpr c7
   subst c7
   rw [if_neg (show ¬ (false = true) by decide)] at H
   have H' := zA H
   clear H
   go_wp2_with (first | ((with_reducible refine zG 138 rfl ?_); refine zL (some 9) rfl rfl Tryd.func138 #[.slice A0 l0.length c0, .int .i64 x3_1] rfl ?_; (with_reducible refine (ulpref03_Bit.calls _ _ l0 x3_1 false _ ?side1 ?side2 A6.out).mono ?_); (case side1 => exact zk (C_below HR0.out HB.out)); (case side2 => exact HC0.out); rintro e w' ⟨rfl, ⟨nd, rfl⟩⟩; refine ⟨_, rfl, ?_⟩))
   go_roundg k1
   case measure => have := HK1.out; omega
   case rel => exact ⟨(wrap64 (x3_1 + 1)), zi, H', ⟨by have := HK1.out; omega⟩, ⟨bq⟩⟩
mutual
def ulpref03_Shr.l0 : Nat → List Int → Int → Bool → List Int → Int → Int → Option (List Int × Bool)
 | 0, _, _, _, _, _, _ => none
 | k + 1, x0, x1, x6, x24, x25, x26 => if x26 < x25 then (if 0 ≤ x26 then (if x26 < (x24.length : Int) then (if x6 = true then (ulpref03_Shr.l0 k x0 x1 true x24 x25 (wrap64 (x26 + 1))) else (ulpref03_Shr.l0 k x0 x1 ((rd x24 x26) != 0) x24 x25 (wrap64 (x26 + 1)))) else (none)) else (none)) else (ulpref03_Shr.l1 k x0 x1 x6 (IntKind.u64.wrap (Int.tmod x1 64)) ([] : List Int) (wrap64 (Int.tdiv x1 64)))
def ulpref03_Shr.l1 : Nat → List Int → Int → Bool → Int → List Int → Int → Option (List Int × Bool)
 | 0, _, _, _, _, _, _ => none
 | k + 1, x0, x1, x6, x9, x10, x11 => if x11 < (x0.length : Int) then (if 0 ≤ x11 then (if 0 ≤ x9 then (if x9 > 0 then ((ulpref03_word.f x0 (wrap64 (x11 + 1))).bind fun t538 => (if 0 ≤ (IntKind.u64.wrap (64 - x9)) then (if x10.length < 17592186044416 then (ulpref03_Shr.l1 k x0 x1 x6 x9 (x10 ++ [Go.bits .or .u64 (shr .u64 (rd x0 x11) x9) (shl .u64 t538 (IntKind.u64.wrap (64 - x9)))]) (wrap64 (x11 + 1))) else (none)) else (none))) else (if x10.length < 17592186044416 then (ulpref03_Shr.l1 k x0 x1 x6 x9 (x10 ++ [shr .u64 (rd x0 x11) x9]) (wrap64 (x11 + 1))) else (none))) else (none)) else (none)) else (if x9 > 0 then (if x6 = true then ((ulpref03_Norm.f k x10).bind fun t545 => (some (t545, true))) else (if 0 ≤ (wrap64 (Int.tdiv x1 64)) then (if (wrap64 (Int.tdiv x1 64)) < (x0.length : Int) then (if 0 ≤ (IntKind.u64.wrap (64 - x9)) then ((ulpref03_Norm.f k x10).bind fun t549 => (some (t549, ((shl .u64 (rd x0 (wrap64 (Int.tdiv x1 64))) (IntKind.u64.wrap (64 - x9))) != 0)))) else (none)) else (none)) else (none))) else ((ulpref03_Norm.f k x10).bind fun t552 => (some (t552, x6))))
end
def ulpref03_Shr.f (k : Nat) (l0 : List Int) (a1 : Int) : Option (List Int × Bool) := if a1 ≥ (wrap64 (64 * (l0.length : Int))) then ((ulpref03_Len.f k l0).bind fun t534 => (some (([] : List Int), decide (t534 > 0)))) else (if 0 ≤ (wrap64 (Int.tdiv a1 64)) then (if (wrap64 (Int.tdiv a1 64)) ≤ (l0.length : Int) then (ulpref03_Shr.l0 k l0 a1 false (l0.take ((wrap64 (Int.tdiv a1 64)) : Int).toNat) (max (wrap64 (Int.tdiv a1 64)) 0) 0) else (none)) else (none))
set_option maxHeartbeats 8000000 in
set_option maxRecDepth 100000 in
theorem ulpref03_Shr.calls (k : Nat) (A0 : Option Addr) (c0 : Nat) (l0 : List Int) (a1 : Int) (r1 : List Int) (r2 : Bool) (w : World) (hr0 : Kd.C (Kd.int .u64) w A0 l0.length l0) (hc0 : l0.length ≤ c0) (h : ulpref03_Shr.f k l0 a1 = some (r1, r2)) :
  Calls Tryd.prog 125 #[.slice A0 l0.length c0, .int .i64 a1] w fun e w' => ∃ v0_ : Value, e = .returned (.tuple #[v0_, .bool r2]) ∧ Kd.R (Kd.int .u64) 43 w' w.heap.size (fun _ => True) v0_ r1 ∧ Below w.heap.size w w' := by
 have HR0 := zA hr0
 have HC0 := zA hc0
 clear hr0 hc0
 have HB := zA (Below.refl w.heap.size w)
 have H : (if a1 ≥ (wrap64 (64 * (l0.length : Int))) then ((ulpref03_Len.f k l0).bind fun t534 => (some (([] : List Int), decide (t534 > 0)))) else (if 0 ≤ (wrap64 (Int.tdiv a1 64)) then (if (wrap64 (Int.tdiv a1 64)) ≤ (l0.length : Int) then (ulpref03_Shr.l0 k l0 a1 false (l0.take ((wrap64 (Int.tdiv a1 64)) : Int).toNat) (max (wrap64 (Int.tdiv a1 64)) 0) 0) else (none)) else (none))) = some (r1, r2) := h
 clear h
 by_cases c3 : a1 ≥ (wrap64 (64 * (l0.length : Int)))
 ·rw [if_pos c3] at H
  have c3b0 := decide_eq_true c3
  clear c3
  obtain ⟨t534, A4, H⟩ := zh H
  simp only [Option.some.injEq, Prod.mk.injEq] at H
  obtain ⟨rfl, rfl⟩ := H
  go_enter Tryd.func125, Tryd.ntmps125
  go_wp2_with (first | ((with_reducible refine zG 96 rfl ?_); refine zL (some 19) rfl rfl Tryd.func96 #[.slice A0 l0.length c0] rfl ?_; (with_reducible refine (ulpref03_Len.calls k _ _ l0 t534 _ ?side1 ?side2 A4.out).mono ?_); (case side1 => exact zk HR0.out); (case side2 => exact HC0.out); rintro e w5 ⟨rfl, hb⟩; refine ⟨_, rfl, ?_⟩; replace HB := ze hb))
  go_ret2
  exact ⟨_, er, by first | exact R_nil _ _ _ _ _ | exact Kd.N_nil _ _ _ _ _ | exact V_nil _ _ _ _ _ | exact Kd.Q_nil _ _ _ _ _ | exact Kd.S_nil _ _ _ _ _, bq⟩
 rw [if_neg c3] at H
 have c3b0 := decide_eq_false c3
 clear c3
 obtain ⟨ji6, hji6⟩ : ∃ j_ : Int, (wrap64 (Int.tdiv a1 64)) = j_ := ⟨_, rfl⟩
 replace H : (if 0 ≤ (ji6) then (if (ji6) ≤ (l0.length : Int) then (ulpref03_Shr.l0 k l0 a1 false (l0.take ((ji6) : Int).toNat) (max (ji6) 0) 0) else (none)) else (none)) = some (r1, r2) := zQ hji6 H
 have hji6w : (IntKind.i64.wrap (Int.tdiv a1 64)) = ji6 := (i64_w _).trans hji6
 replace H := dn H
 obtain ⟨c7, H⟩ := H
 have c7b0 := eq_true c7
 have c7b1 := decide_eq_true c7
 clear c7
 replace H := dn H
 obtain ⟨c8, H⟩ := H
 have c8b0 := eq_true c8
 have c8b1 := decide_eq_true c8
 clear c8
 have H' := zA H
 clear H
 obtain ⟨i09, hi09, _, hsz9, _⟩ := info_parts info43
 obtain ⟨hcut9, hA9, hC9⟩ := print_take_of (P := Tryd.prog) (Value.int .u64) 0 23 43 .i64 Tryd.underlying23 hi09 hsz9 A0 c0 l0 (ji6) (od) (od) HC0.out
 have HR535 := zA (C_of_reads (h1 := fun _ => rfl) (hA9 _ (Kd.reads_of_C HR0.out)))
 have HC535 := zA hC9
 clear hA9 hC9 hi09 hsz9
 go_enter Tryd.func125, Tryd.ntmps125
 go_wp2
 go_loopg [6, 26] k (fun kq v6 v26 w' => ∃ (x6_1 : Bool) (x26_1 : Int), v6 = .bool x6_1 ∧ v26 = .int .i64 x26_1 ∧ Aside0 (ulpref03_Shr.l0 kq l0 a1 x6_1 (l0.take ((ji6) : Int).toNat) (max (ji6) 0) x26_1 = some (r1, r2)) ∧ Aside0 (kq ≤ k) ∧ Aside0 (Below w.heap.size w w'))
 case atStart => exact ⟨(false), (0), zi, zi, H', ⟨Nat.le_refl _⟩, ⟨bq⟩⟩
 case round =>
  clear H'
  try clear c3
  try clear c3b0
  try clear c7
  try clear c7b0
  try clear c7b1
  try clear c8
  try clear c8b0
  try clear c8b1
  try clear c9
  obtain ⟨x6_1, x26_1, rfl, rfl, HA, HK1, HB⟩ := hrel
  cases gk with
  | zero => exact absurd HA.out (by simp [ulpref03_Shr.l0])
  | succ k1 =>
   have H := HA.out
   clear HA
   simp only [ulpref03_Shr.l0] at H
   by_cases c10 : x26_1 < (max (ji6) 0)
   ·rw [if_pos c10] at H
    have c10b0 := decide_eq_true c10
    have c10bx : (x26_1 < (max (ji6) 0)) = True := eq_true c10
    clear c10
    replace H := dn H
    obtain ⟨c11, H⟩ := H
    have c11b0 := decide_eq_true c11
    clear c11
    replace H := dn H
    obtain ⟨c12, H⟩ := H
    have c12b0 : decide (x26_1 < ((l0.take ((ji6) : Int).toNat).length : Int)) = true := decide_eq_true c12
    clear c12
    by_cases c13 : x6_1 = true
    ·subst c13
     rw [if_pos rfl] at H
     have H' := zA H
     clear H
     have p536 : 0 ≤ (x26_1 : Int) := od
     have q536 : x26_1 < ((l0.take ((ji6) : Int).toNat).length : Int) := od
     obtain ⟨ad536, e536, hx536_0⟩ := Kd.at_int HR535.out x26_1 p536 q536
     cases e536
     replace hx536_0 := (HB.out.cell (World.block_lt_of_cell? w _ hx536_0)).trans hx536_0
     replace p536 := eq_true p536
     replace q536 := eq_true q536
     go_wp2
     go_roundg k1
     case measure => have := HK1.out; omega
     case rel => exact ⟨(true), (wrap64 (x26_1 + 1)), zi, zi, (by first | exact H' | (simp only [hji6]; exact H') | (simp only [hji6] at H' ⊢; exact H')), ⟨by have := HK1.out; omega⟩, ⟨bq⟩⟩
    replace c13 := Bool.eq_false_iff.mpr c13
    subst c13
    rw [if_neg (show ¬ (false = true) by decide)] at H
    have H' := zA H
    clear H
    have p536 : 0 ≤ (x26_1 : Int) := od
    have q536 : x26_1 < ((l0.take ((ji6) : Int).toNat).length : Int) := od
    obtain ⟨ad536, e536, hx536_0⟩ := Kd.at_int HR535.out x26_1 p536 q536
    cases e536
    replace hx536_0 := (HB.out.cell (World.block_lt_of_cell? w _ hx536_0)).trans hx536_0
    replace p536 := eq_true p536
    replace q536 := eq_true q536
    go_wp2
    go_roundg k1
    case measure => have := HK1.out; omega
    case rel => exact ⟨(((rd (l0.take ((ji6) : Int).toNat) x26_1) != 0)), (wrap64 (x26_1 + 1)), (by first | rfl | (simp; done) | (simp only [← hji6] <;> (first | rfl | simp)) | (simp [*]; done)), zi, (by first | exact H' | (simp only [hji6]; exact H') | (simp only [hji6] at H' ⊢; exact H')), ⟨by have := HK1.out; omega⟩, ⟨bq⟩⟩
   rw [if_neg c10] at H
   have c10b0 := decide_eq_false c10
   clear c10
   have H' := zA H
   clear H
   go_wp2
   go_loopg [10, 11] k1 (fun kq v10 v11 w' => ∃ (x10_2 : List Int) (x11_2 : Int), v11 = .int .i64 x11_2 ∧ Aside0 (ulpref03_Shr.l1 kq l0 a1 x6_1 (IntKind.u64.wrap (Int.tmod a1 64)) x10_2 x11_2 = some (r1, r2)) ∧ Aside0 (kq ≤ k1) ∧ Aside0 (Kd.R (Kd.int .u64) 43 w' w.heap.size (fun _ => True) v10 x10_2) ∧ Aside0 (Below w.heap.size w w'))
   case atStart => exact ⟨(([] : List Int)), (wrap64 (Int.tdiv a1 64)), zi, H', ⟨Nat.le_refl _⟩, ⟨by first | exact R_nil _ _ _ _ _ | exact Kd.N_nil _ _ _ _ _ | exact V_nil _ _ _ _ _ | exact Kd.Q_nil _ _ _ _ _ | exact Kd.S_nil _ _ _ _ _⟩, ⟨bq⟩⟩
   case round =>
    clear H'
    try clear c3
    try clear c3b0
    try clear c7
    try clear c7b0
    try clear c7b1
    try clear c8
    try clear c8b0
    try clear c8b1
    try clear c9
    try clear c10
    try clear c10b0
    try clear c11
    try clear c11b0
    try clear c12
    try clear c12b0
    try clear c13
    try clear hx536_0
    try clear p536
    try clear q536
    obtain ⟨x10_2, x11_2, rfl, HA, HK2, HO_10, HB⟩ := hrel
    cases gk with
    | zero => exact absurd HA.out (by simp [ulpref03_Shr.l1])
    | succ k2 =>
     have H := HA.out
     clear HA
     simp only [ulpref03_Shr.l1] at H
     by_cases c14 : x11_2 < (l0.length : Int)
     ·rw [if_pos c14] at H
      have c14b0 := decide_eq_true c14
      clear c14
      replace H := dn H
      obtain ⟨c15, H⟩ := H
      have c15b0 := decide_eq_true c15
      clear c15
      obtain ⟨ji16, hji16⟩ : ∃ j_ : Int, (IntKind.u64.wrap (Int.tmod a1 64)) = j_ := ⟨_, rfl⟩
      replace H : (if 0 ≤ (ji16) then (if (ji16) > 0 then ((ulpref03_word.f l0 (wrap64 (x11_2 + 1))).bind fun t538 => (if 0 ≤ (IntKind.u64.wrap (64 - (ji16))) then (if x10_2.length < 17592186044416 then (ulpref03_Shr.l1 k2 l0 a1 x6_1 (ji16) (x10_2 ++ [Go.bits .or .u64 (shr .u64 (rd l0 x11_2) (ji16)) (shl .u64 t538 (IntKind.u64.wrap (64 - (ji16))))]) (wrap64 (x11_2 + 1))) else (none)) else (none))) else (if x10_2.length < 17592186044416 then (ulpref03_Shr.l1 k2 l0 a1 x6_1 (ji16) (x10_2 ++ [shr .u64 (rd l0 x11_2) (ji16)]) (wrap64 (x11_2 + 1))) else (none))) else (none)) = some (r1, r2) := zQ hji16 H
      replace H := dn H
      obtain ⟨c17, H⟩ := H
      have c17b0 := eq_true c17
      have c17b1 := decide_eq_true c17
      clear c17
      obtain ⟨ji18, hji18⟩ : ∃ j_ : Int, (shr .u64 (rd l0 x11_2) (ji16)) = j_ := ⟨_, rfl⟩
      replace H : (if (ji16) > 0 then ((ulpref03_word.f l0 (wrap64 (x11_2 + 1))).bind fun t538 => (if 0 ≤ (IntKind.u64.wrap (64 - (ji16))) then (if x10_2.length < 17592186044416 then (ulpref03_Shr.l1 k2 l0 a1 x6_1 (ji16) (x10_2 ++ [Go.bits .or .u64 (ji18) (shl .u64 t538 (IntKind.u64.wrap (64 - (ji16))))]) (wrap64 (x11_2 + 1))) else (none)) else (none))) else (if x10_2.length < 17592186044416 then (ulpref03_Shr.l1 k2 l0 a1 x6_1 (ji16) (x10_2 ++ [ji18]) (wrap64 (x11_2 + 1))) else (none))) = some (r1, r2) := zQ hji18 H
      have hji18_ : ((rd l0 x11_2) / 2 ^ min (ji16).toNat 64) = ji18 := hji18
      have hji18z : (ji16) ≤ 64 → ((rd l0 x11_2) / 2 ^ (ji16).toNat) = ji18 := shr_small hji18
      by_cases c19 : (ji16) > 0
      ·rw [if_pos c19] at H
       have c19b0 := decide_eq_true c19
       clear c19
       obtain ⟨t538, A20, H⟩ := zh H
       obtain ⟨ji21, hji21⟩ : ∃ j_ : Int, (IntKind.u64.wrap (64 - (ji16))) = j_ := ⟨_, rfl⟩
       replace H : (if 0 ≤ (ji21) then (if x10_2.length < 17592186044416 then (ulpref03_Shr.l1 k2 l0 a1 x6_1 (ji16) (x10_2 ++ [Go.bits .or .u64 (ji18) (shl .u64 t538 (ji21))]) (wrap64 (x11_2 + 1))) else (none)) else (none)) = some (r1, r2) := zQ hji21 H
       (try rw [hji21] at A20)
       replace H := dn H
       obtain ⟨c22, H⟩ := H
       have c22b0 := eq_true c22
       have c22b1 := decide_eq_true c22
       clear c22
       obtain ⟨ji23, hji23⟩ : ∃ j_ : Int, (shl .u64 t538 (ji21)) = j_ := ⟨_, rfl⟩
       replace H : (if x10_2.length < 17592186044416 then (ulpref03_Shr.l1 k2 l0 a1 x6_1 (ji16) (x10_2 ++ [Go.bits .or .u64 (ji18) (ji23)]) (wrap64 (x11_2 + 1))) else (none)) = some (r1, r2) := zQ hji23 H
       (try rw [hji23] at A20)
       have hji23_ : (IntKind.u64.wrap (t538 * 2 ^ min (ji21).toNat 64)) = ji23 := hji23
       have hji23z : (ji21) ≤ 64 → (IntKind.u64.wrap (t538 * 2 ^ (ji21).toNat)) = ji23 := shl_small hji23
       replace H := dn H
       obtain ⟨c24, H⟩ := H
       have LMc24 := zA c24
       clear c24
       obtain ⟨y539, hy539⟩ : ∃ y_ : List Int, y_ = (x10_2 ++ [Go.bits .or .u64 (ji18) (ji23)]) := ⟨_, rfl⟩
       replace H : (ulpref03_Shr.l1 k2 l0 a1 x6_1 (ji16) y539 (wrap64 (x11_2 + 1))) = some (r1, r2) := zR hy539 H
       have Ny539 := zA hy539
       clear hy539
       have H' := zA H
       clear H
       have p537 : 0 ≤ (x11_2 : Int) := od
       have q537 : x11_2 < (l0.length : Int) := od
       obtain ⟨ad537, e537, hx537_0⟩ := Kd.at_int HR0.out x11_2 p537 q537
       cases e537
       replace hx537_0 := (HB.out.cell (World.block_lt_of_cell? w _ hx537_0)).trans hx537_0
       replace p537 := eq_true p537
       replace q537 := eq_true q537
       go_wp2_with (first | ((with_reducible refine zG 137 rfl ?_); refine zL (some 59) rfl rfl Tryd.func137 #[.slice (some ad537) l0.length c0, .int .i64 (wrap64 (x11_2 + 1))] rfl ?_; (with_reducible refine (ulpref03_word.calls _ _ l0 (wrap64 (x11_2 + 1)) t538 _ ?side1 ?side2 A20.out).mono ?_); (case side1 => exact zk (C_below HR0.out HB.out)); (case side2 => exact HC0.out); rintro e w' ⟨rfl, ⟨nd, rfl⟩⟩; refine ⟨_, rfl, ?_⟩) | ((with_reducible refine gate_builtin (b := .append) (xs := #[.tmp 64, .tmp 66]) rfl ?_); at_builtin; refine R_append (Kd.int .u64) (w0 := w) w.heap.size rfl (.tmp 64) (.tmp 66) 23 43 (.int .u64 0) 8 rfl Tryd.underlying23 info43 rfl (by decide) (by omega) u10 x10_2 (Go.bits .or .u64 (ji18) (ji23)) [.int .u64 (Go.bits .or .u64 (ji18) (ji23))] (fun _ => True) (fun _ => False) rfl rfl ?aP (fun _ hk => hk.elim) ?aF ?aO ?aB ?aS ?aL ?_; (case aP => exact rfl); (case aB => exact bq); (case aF => exact (fun _ _ => trivial)); (case aO => exact (ru HO_10.out)); (case aS => exact (below_size bq)); (case aL => have := LMc24.out; omega); intro v540 w25 ho hb hg hat; rw [← Ny539.out] at ho; have n0_ := zA (hb); have n1_ := zA (ho); clear HB; clear HO_10; have HB := n0_; have HO541 := n1_; clear n0_ n1_; clear ho hb hg hat))
       (try simp only [← hji16, ← hji21])
       go_roundg k2
       case measure => have := HK1.out; have := HK2.out; omega
       case rel => exact ⟨(y539), (wrap64 (x11_2 + 1)), zi, (by first | exact H' | (simp only [hji6, hji16, hji18, hji21, hji23]; exact H') | (simp only [hji6, hji16, hji18, hji21, hji23] at H' ⊢; exact H')), ⟨by have := HK1.out; have := HK2.out; omega⟩, ⟨ru HO541.out⟩, ⟨bq⟩⟩
      rw [if_neg c19] at H
      have c19b0 := decide_eq_false c19
      clear c19
      replace H := dn H
      obtain ⟨c26, H⟩ := H
      have LMc26 := zA c26
      clear c26
      obtain ⟨y542, hy542⟩ : ∃ y_ : List Int, y_ = (x10_2 ++ [ji18]) := ⟨_, rfl⟩
      replace H : (ulpref03_Shr.l1 k2 l0 a1 x6_1 (ji16) y542 (wrap64 (x11_2 + 1))) = some (r1, r2) := zR hy542 H
      have Ny542 := zA hy542
      clear hy542
      have H' := zA H
      clear H
      have p537 : 0 ≤ (x11_2 : Int) := od
      have q537 : x11_2 < (l0.length : Int) := od
      obtain ⟨ad537, e537, hx537_0⟩ := Kd.at_int HR0.out x11_2 p537 q537
      cases e537
      replace hx537_0 := (HB.out.cell (World.block_lt_of_cell? w _ hx537_0)).trans hx537_0
      replace p537 := eq_true p537
      replace q537 := eq_true q537
      go_wp2_with (first | ((with_reducible refine gate_builtin (b := .append) (xs := #[.tmp 64, .tmp 66]) rfl ?_); at_builtin; refine R_append (Kd.int .u64) (w0 := w) w.heap.size rfl (.tmp 64) (.tmp 66) 23 43 (.int .u64 0) 8 rfl Tryd.underlying23 info43 rfl (by decide) (by omega) u10 x10_2 ji18 [.int .u64 ji18] (fun _ => True) (fun _ => False) rfl rfl ?aP (fun _ hk => hk.elim) ?aF ?aO ?aB ?aS ?aL ?_; (case aP => exact rfl); (case aB => exact bq); (case aF => exact (fun _ _ => trivial)); (case aO => exact (ru HO_10.out)); (case aS => exact (below_size bq)); (case aL => have := LMc26.out; omega); intro v543 w27 ho hb hg hat; rw [← Ny542.out] at ho; have n0_ := zA (hb); have n1_ := zA (ho); clear HB; clear HO_10; have HB := n0_; have HO544 := n1_; clear n0_ n1_; clear ho hb hg hat))
      (try simp only [← hji16])
      go_roundg k2
      case measure => have := HK1.out; have := HK2.out; omega
      case rel => exact ⟨(y542), (wrap64 (x11_2 + 1)), zi, (by first | exact H' | (simp only [hji6, hji16, hji18]; exact H') | (simp only [hji6, hji16, hji18] at H' ⊢; exact H')), ⟨by have := HK1.out; have := HK2.out; omega⟩, ⟨ru HO544.out⟩, ⟨bq⟩⟩
     rw [if_neg c14] at H
     have c14b0 := decide_eq_false c14
     clear c14
     by_cases c28 : (IntKind.u64.wrap (Int.tmod a1 64)) > 0
     ·rw [if_pos c28] at H
      have c28b0 := decide_eq_true c28
      clear c28
      by_cases c29 : x6_1 = true
      ·subst c29
       rw [if_pos rfl] at H
       obtain ⟨t545, A30, H⟩ := zh H
       simp only [Option.some.injEq, Prod.mk.injEq] at H
       obtain ⟨rfl, rfl⟩ := H
       obtain ⟨Ao31, co31, eo31⟩ := R_slice HO_10.out
       subst eo31
       go_wp2_with (first | ((with_reducible refine zG 74 rfl ?_); refine zL (some 83) rfl rfl Tryd.func74 #[.slice Ao31 x10_2.length co31] rfl ?_; (with_reducible refine (ulpref03_Norm.calls k2 _ _ x10_2 t545 _ ?side1 ?side2 A30.out).mono ?_); (case side1 => exact zk (R_reads' HO_10.out).2.2); (case side2 => exact (R_reads' HO_10.out).2.1); rintro e w32 ⟨v546, rfl, ho0, hb⟩; refine ⟨_, rfl, ?_⟩; have HO547 := zA (R_lower (R_new' ho0 (R_lt (ru HO_10.out))) (below_size bq)); replace HO_10 := zA (R_elder' (ru HO_10.out) (R_base ho0) hb); replace HB := ze hb; (try clear ho0)))
       go_ret2
       exact ⟨_, by first | rfl | (simp [errW_none, errW_some] <;> rfl) | (simp only [← hji6]; first | rfl | (simp [errW_none, errW_some] <;> rfl)) | (simp [*, errW_none, errW_some] <;> rfl), ru (R_mono HO547.out (fun _ hk => trivial)), bq⟩
      replace c29 := Bool.eq_false_iff.mpr c29
      subst c29
      rw [if_neg (show ¬ (false = true) by decide)] at H
      obtain ⟨ji33, hji33⟩ : ∃ j_ : Int, (wrap64 (Int.tdiv a1 64)) = j_ := ⟨_, rfl⟩
      obtain rfl : ji6 = ji33 := hji6.symm.trans hji33
      replace H : (if 0 ≤ (ji6) then (if (ji6) < (l0.length : Int) then (if 0 ≤ (IntKind.u64.wrap (64 - (IntKind.u64.wrap (Int.tmod a1 64)))) then ((ulpref03_Norm.f k2 x10_2).bind fun t549 => (some (t549, ((shl .u64 (rd l0 (ji6)) (IntKind.u64.wrap (64 - (IntKind.u64.wrap (Int.tmod a1 64))))) != 0)))) else (none)) else (none)) else (none)) = some (r1, r2) := zQ hji33 H
      have hji33w : (IntKind.i64.wrap (Int.tdiv a1 64)) = ji6 := (i64_w _).trans hji33
      replace H := dn H
      obtain ⟨c34, H⟩ := H
      have c34b0 := decide_eq_true c34
      clear c34
      replace H := dn H
      obtain ⟨c35, H⟩ := H
      have c35b0 := decide_eq_true c35
      clear c35
      obtain ⟨ji36, hji36⟩ : ∃ j_ : Int, (IntKind.u64.wrap (64 - (IntKind.u64.wrap (Int.tmod a1 64)))) = j_ := ⟨_, rfl⟩
      replace H : (if 0 ≤ (ji36) then ((ulpref03_Norm.f k2 x10_2).bind fun t549 => (some (t549, ((shl .u64 (rd l0 (ji6)) (ji36)) != 0)))) else (none)) = some (r1, r2) := zQ hji36 H
      replace H := dn H
      obtain ⟨c37, H⟩ := H
      have c37b0 := eq_true c37
      have c37b1 := decide_eq_true c37
      clear c37
      obtain ⟨ji38, hji38⟩ : ∃ j_ : Int, (shl .u64 (rd l0 (ji6)) (ji36)) = j_ := ⟨_, rfl⟩
      replace H : ((ulpref03_Norm.f k2 x10_2).bind fun t549 => (some (t549, ((ji38) != 0)))) = some (r1, r2) := zQ hji38 H
      have hji38_ : (IntKind.u64.wrap ((rd l0 (ji6)) * 2 ^ min (ji36).toNat 64)) = ji38 := hji38
      have hji38z : (ji36) ≤ 64 → (IntKind.u64.wrap ((rd l0 (ji6)) * 2 ^ (ji36).toNat)) = ji38 := shl_small hji38
      obtain ⟨t549, A39, H⟩ := zh H
      simp only [Option.some.injEq, Prod.mk.injEq] at H
      obtain ⟨rfl, rfl⟩ := H
      have p548 : 0 ≤ ((ji6) : Int) := od
      have q548 : (ji6) < (l0.length : Int) := od
      obtain ⟨ad548, e548, hx548_0⟩ := Kd.at_int HR0.out (ji6) p548 q548
      cases e548
      replace hx548_0 := (HB.out.cell (World.block_lt_of_cell? w _ hx548_0)).trans hx548_0
      replace p548 := eq_true p548
      replace q548 := eq_true q548
      obtain ⟨Ao40, co40, eo40⟩ := R_slice HO_10.out
      subst eo40
      go_wp2_with (first | ((with_reducible refine zG 74 rfl ?_); refine zL (some 83) rfl rfl Tryd.func74 #[.slice Ao40 x10_2.length co40] rfl ?_; (with_reducible refine (ulpref03_Norm.calls k2 _ _ x10_2 t549 _ ?side1 ?side2 A39.out).mono ?_); (case side1 => exact zk (R_reads' HO_10.out).2.2); (case side2 => exact (R_reads' HO_10.out).2.1); rintro e w41 ⟨v550, rfl, ho0, hb⟩; refine ⟨_, rfl, ?_⟩; have HO551 := zA (R_lower (R_new' ho0 (R_lt (ru HO_10.out))) (below_size bq)); replace HO_10 := zA (R_elder' (ru HO_10.out) (R_base ho0) hb); replace HB := ze hb; (try clear ho0)))
      go_ret2
      exact ⟨_, by first | rfl | (simp [errW_none, errW_some] <;> rfl) | (simp only [← hji6, ← hji33, ← hji36, ← hji38]; first | rfl | (simp [errW_none, errW_some] <;> rfl)) | (simp [*, errW_none, errW_some] <;> rfl), ru (R_mono HO551.out (fun _ hk => trivial)), bq⟩
     rw [if_neg c28] at H
     have c28b0 := decide_eq_false c28
     clear c28
     obtain ⟨t552, A42, H⟩ := zh H
     simp only [Option.some.injEq, Prod.mk.injEq] at H
     obtain ⟨rfl, rfl⟩ := H
     obtain ⟨Ao43, co43, eo43⟩ := R_slice HO_10.out
     subst eo43
     go_wp2_with (first | ((with_reducible refine zG 74 rfl ?_); refine zL (some 83) rfl rfl Tryd.func74 #[.slice Ao43 x10_2.length co43] rfl ?_; (with_reducible refine (ulpref03_Norm.calls k2 _ _ x10_2 t552 _ ?side1 ?side2 A42.out).mono ?_); (case side1 => exact zk (R_reads' HO_10.out).2.2); (case side2 => exact (R_reads' HO_10.out).2.1); rintro e w44 ⟨v553, rfl, ho0, hb⟩; refine ⟨_, rfl, ?_⟩; have HO554 := zA (R_lower (R_new' ho0 (R_lt (ru HO_10.out))) (below_size bq)); replace HO_10 := zA (R_elder' (ru HO_10.out) (R_base ho0) hb); replace HB := ze hb; (try clear ho0)))
     go_ret2
     exact ⟨_, by first | rfl | (simp [errW_none, errW_some] <;> rfl) | (simp only [← hji6]; first | rfl | (simp [errW_none, errW_some] <;> rfl)) | (simp [*, errW_none, errW_some] <;> rfl), ru (R_mono HO554.out (fun _ hk => trivial)), bq⟩
end Go.Proofs.YtemfckibdojbbaaDoor.PAll
