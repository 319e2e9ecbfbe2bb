/- Printed functions, merged by a program of this session. -/
import Derived.Test.YtemfckibdojbbaaDoorProg
import Derived.Below
import Derived.Deep.Draws
import Derived.Deep.AppendLies
import Derived.Maps.AppendAt
import Derived.OwnWalk
import Derived.Laws.BytesArg
import Derived.Laws.MakeOwn
import Derived.Laws.OwnMore
import Derived.Deep.OwnRows
import Derived.Tactics
import Derived.Lib.ConvBytes
import Derived.Laws.Slices
import Derived.WalkKit
import Derived.KernelRfl
import Derived.RowKit3
import Derived.Deep.LoopGhost
import Derived.Deep.QuietTactic
import Derived.BigQuiet
import Derived.WideLaws
import Derived.Deep.DeepCutAuto
import Derived.Deep.CutBlock
import Derived.Deep.RegionHeld3
import Derived.Laws.Rows
import Derived.Lib.AppendStr
import Derived.ArgAppend
import Derived.Laws.IdiomCopy
import Derived.OrdersHeld
import Derived.Laws.BitsLemmas
import Derived.RowKit
import Derived.Test.YtemfckibdojbbaaDoorXDyadCutWWords
import Derived.Test.YtemfckibdojbbaaDoorXDyadCutWLast
import Derived.Test.YtemfckibdojbbaaDoorXDyadCutWTab
import Derived.Test.YtemfckibdojbbaaDoorXDyadCutWApart
import Derived.Test.YtemfckibdojbbaaDoorXDyadCutWFoot
import Derived.Test.YtemfckibdojbbaaDoorXDyadCutWKept
import Derived.Test.YtemfckibdojbbaaDoorXDyadCutWShare
import Derived.Test.YtemfckibdojbbaaDoorXDyadCutWN
import Derived.Test.YtemfckibdojbbaaDoorXDyadCutWRepsOne
import Derived.Test.YtemfckibdojbbaaDoorXDyadCutWInv
import Derived.Test.YtemfckibdojbbaaDoorXDyadCutWGuard
import Derived.Test.YtemfckibdojbbaaDoorXDyadCutWMore
import Derived.Laws.StructEq
import Derived.Test.YtemfckibdojbbaaDoorXDyadCutSh
namespace Go.Proofs.YtemfckibdojbbaaDoor.PAll
open Go.RowKit Go.Proofs.YtemfckibdojbbaaDoorW.PrintWords Go.Proofs.YtemfckibdojbbaaDoorW.PrintLast Go.Proofs.YtemfckibdojbbaaDoorW.PrintMore Go.Proofs.YtemfckibdojbbaaDoorW.PrintWords.Kd
attribute [local go_sem] max2_int min2_int max_two min_two max_three min_three max_four min_four   -- for this text's walks alone
set_option linter.unusedVariables false
set_option linter.unusedSimpArgs false
def errW : Option Int → Value
 | none => .nilIface
 | some c => .iface 0 (.int .i64 c)
theorem errW_none : errW none = .nilIface := rfl
theorem errW_some (c : Int) : errW (some c) = .iface 0 (.int .i64 c) := rfl
theorem info43 : (Tryd.prog.info? 43).map (fun i => (i.zero, i.size, i.bytes)) = some (some (.int .u64 0), 1, 8) := by kernel_rfl
/-- The table of math/bits.TrailingZeros64. -/
def tzTab : List Int := [0, 1, 56, 2, 57, 49, 28, 3, 61, 58, 42, 50, 38, 29, 17, 4, 62, 47, 59, 36, 45, 43, 51, 22, 53, 39, 33, 30, 24, 18, 12, 5, 63, 55, 48, 27, 60, 41, 37, 16, 46, 35, 44, 21, 52, 32, 23, 11, 54, 26, 40, 15, 34, 20, 31, 10, 25, 14, 19, 9, 13, 8, 7, 6]
/-- The table lies in memory as the program's text lays it. -/
def Laid (w : World) : Prop := ∀ i : Nat, i < 64 → w.cell? ⟨0, i, none⟩ = some (.int .u8 (tzTab.getD i 0))
theorem laid_drewN {w : World} (h : Laid w) (n : Nat) : Laid (w.drewN n) := fun i hi => by
 have := h i hi
 simpa using this
theorem laid_drew {w : World} (h : Laid w) : Laid w.drew := fun i hi => by
 have := h i hi
 simpa using this
theorem laid_below {w w' : World} (h : Laid w) (hb : Below w.heap.size w w') : Laid w' := fun i hi => by
 have h0 := h i hi
 rw [hb.cell (p := ⟨0, i, none⟩) (World.block_lt_of_cell? w ⟨0, i, none⟩ h0)]
 exact h0
def add64s (x y c : Int) : Int := ((x.toNat + y.toNat + c.toNat) % 18446744073709551616 : Nat)
def add64c (x y c : Int) : Int := ((x.toNat + y.toNat + c.toNat) / 18446744073709551616 : Nat)
def sub64s (x y c : Int) : Int := ((x.toNat + 18446744073709551616 - y.toNat - c.toNat) % 18446744073709551616 : Nat)
def sub64c (x y c : Int) : Int := if x.toNat < y.toNat + c.toNat then 1 else 0
def sub64Entry : Array Value → Sem Value := fun args => do
 let (x, y, b) ← Extern.MathBitsCarry.three "Sub64" args
 pure (Extern.MathBitsCarry.pair ((x + Extern.MathBitsCarry.m64 - y - b) % Extern.MathBitsCarry.m64) (if x < y + b then 1 else 0))
theorem carry_nat {c : Int} (h : decide (c ≤ 1) = true) : c.toNat = 0 ∨ c.toNat = 1 := by
 have h' := of_decide_eq_true h
 omega
theorem add64_run {P : Program} (x y c : Int) (h : decide (c ≤ 1) = true) (w : World) : (add64Entry #[.int .u64 x, .int .u64 y, .int .u64 c]).run P w = .ok (.tuple #[.int .u64 (add64s x y c), .int .u64 (add64c x y c)]) w := by
 have key : ∀ k : Nat, k = 0 ∨ k = 1 → c.toNat = k → (add64Entry #[.int .u64 x, .int .u64 y, .int .u64 c]).run P w = .ok (Extern.MathBitsCarry.pair ((x.toNat + y.toNat + k) % Extern.MathBitsCarry.m64) ((x.toNat + y.toNat + k) / Extern.MathBitsCarry.m64)) w := by
  intro k hk hc
  rcases hk with rfl | rfl
  ·cases c with
   | ofNat n => cases hc; rfl
   | negSucc m => rfl
  cases c with
  | ofNat n => cases hc; rfl
  | negSucc m => cases hc
 rw [key _ (carry_nat h) rfl]; rfl
theorem sub64_run {P : Program} (x y c : Int) (h : decide (c ≤ 1) = true) (w : World) : (sub64Entry #[.int .u64 x, .int .u64 y, .int .u64 c]).run P w = .ok (.tuple #[.int .u64 (sub64s x y c), .int .u64 (sub64c x y c)]) w := by
 have key : ∀ k : Nat, k = 0 ∨ k = 1 → c.toNat = k → (sub64Entry #[.int .u64 x, .int .u64 y, .int .u64 c]).run P w = .ok (Extern.MathBitsCarry.pair ((x.toNat + Extern.MathBitsCarry.m64 - y.toNat - k) % Extern.MathBitsCarry.m64) (if x.toNat < y.toNat + k then 1 else 0)) w := by
  intro k hk hc
  rcases hk with rfl | rfl
  ·cases c with
   | ofNat n => cases hc; rfl
   | negSucc m => rfl
  cases c with
  | ofNat n => cases hc; rfl
  | negSucc m => cases hc
 rw [key _ (carry_nat h) rfl]
 unfold Extern.MathBitsCarry.pair sub64s sub64c Extern.MathBitsCarry.m64
 split <;> rfl
theorem ext135 (x y c : Int) (h : decide (c ≤ 1) = true) (w : World) : (callFunc 135 #[.int .u64 x, .int .u64 y, .int .u64 c]).run Tryd.prog w = .ok (.value (.tuple #[.int .u64 (add64s x y c), .int .u64 (add64c x y c)])) w := by
 rw [run_callFunc_extern (e := add64Entry) Tryd.func135 (by kernel_rfl) (by kernel_rfl) (by kernel_rfl) (by kernel_rfl)]
 rw [add64_run x y c h w]; rfl
theorem ext136 (x y c : Int) (h : decide (c ≤ 1) = true) (w : World) : (callFunc 136 #[.int .u64 x, .int .u64 y, .int .u64 c]).run Tryd.prog w = .ok (.value (.tuple #[.int .u64 (sub64s x y c), .int .u64 (sub64c x y c)])) w := by
 rw [run_callFunc_extern (e := sub64Entry) Tryd.func136 (by kernel_rfl) (by kernel_rfl) (by kernel_rfl) (by kernel_rfl)]
 rw [sub64_run x y c h w]; rfl
attribute [local go_sem] ext135 ext136
def limbs_Trim.l0 : Nat → List Int → Int → Option (List Int)
 | 0, _, _ => none
 | k + 1, x0, x3 => if x3 > 0 then (if 0 ≤ (wrap64 (x3 - 1)) then (if (wrap64 (x3 - 1)) < (x0.length : Int) then (if (rd x0 (wrap64 (x3 - 1))) = 0 then (limbs_Trim.l0 k x0 (wrap64 (x3 - 1))) else (if 0 ≤ x3 then (if x3 ≤ (x0.length : Int) then (some (x0.take (x3 : Int).toNat)) else (none)) else (none))) else (none)) else (none)) else (if 0 ≤ x3 then (if x3 ≤ (x0.length : Int) then (some (x0.take (x3 : Int).toNat)) else (none)) else (none))
def limbs_Trim.f (k : Nat) (l0 : List Int) : Option (List Int) := limbs_Trim.l0 k l0 (l0.length : Int)
theorem limbs_Trim.mono_l : ∀ k, (∀ y0 y1, LeO (limbs_Trim.l0 k y0 y1) (limbs_Trim.l0 (k + 1) y0 y1))
 | 0 => fun _ _ r h => by simp [limbs_Trim.l0] at h
 | k + 1 => by
  have ih0 := limbs_Trim.mono_l k
  intro y0 y1
  unfold limbs_Trim.l0
  repeat' first
  | (with_reducible exact ih0 _ _)
  | (with_reducible exact LeO.refl _)
  | (with_reducible exact LeO.none _)
  | (with_reducible refine LeO.ite ?_ ?_)
  | (with_reducible refine LeO.bind ?_ (fun _ => ?_))
  | exact ih0 _ _
  | exact LeO.none _
  | refine LeO.ite ?_ ?_
  | refine LeO.bind ?_ (fun _ => ?_)
theorem limbs_Trim.mono : ∀ a0 k, LeO (limbs_Trim.f k a0) (limbs_Trim.f (k + 1) a0) := by
 intro a0 k
 have ih0 := limbs_Trim.mono_l k
 unfold limbs_Trim.f
 repeat' first
   | (with_reducible exact ih0 _ _)
   | (with_reducible exact LeO.refl _)
   | (with_reducible exact LeO.none _)
   | (with_reducible refine LeO.ite ?_ ?_)
   | (with_reducible refine LeO.bind ?_ (fun _ => ?_))
   | exact ih0 _ _
   | exact LeO.none _
   | refine LeO.ite ?_ ?_
   | refine LeO.bind ?_ (fun _ => ?_)
theorem cut_to3 {P : Program} (t e : TypeId) (kh km : IntKind) {i : TypeInfo} (ht : P.underlying t = some (.slice e)) (hi : P.info? e = some i) (A : Option Addr) (n c : Nat) (j : Int) (h0 : 0 ≤ j) (hm : j ≤ n) (hc : n ≤ c) :
  ∀ W : World, (Instr.slice t (.slice A n c) none (some (.int kh j)) (some (.int km j))).run P W = .ok (.slice A j.toNat j.toNat) W := by
 intro W
 obtain ⟨m, rfl⟩ := Int.eq_ofNat_of_zero_le h0
 have hb : ∀ (k : IntKind) (y : Nat) (code : BoundsCode) (w : World), m ≤ y → (Instr.sliceBound (.int k (m : Int)) y code).run P w = .ok m w := by
  intro k y code w hy
  have : (m : Int) ≤ (y : Int) := by omega
  simp [Instr.sliceBound, asIntOf, this]
 simp [Instr.slice, run_underlying ht, Instr.sliceBounds, hb _ c _ _ (by omega), hb _ m _ _ (Nat.le_refl m), sizeOf, typeInfo, hi, Result.andThen]
 cases A <;> simp [Addr.add]
set_option maxHeartbeats 8000000 in
set_option maxRecDepth 100000 in
theorem limbs_Trim.calls (k : Nat) (P0_ : Nat → Prop) (A0 : Option Addr) (c0 : Nat) (l0 : List Int) (r : List Int) (w : World) (hs0 : Kd.V (Kd.int .u64) 43 w w.heap.size (fun k_ => P0_ k_) (.slice A0 l0.length c0) l0) (h : limbs_Trim.f k l0 = some r) :
  Calls Tryd.prog 122 #[.slice A0 l0.length c0] w fun e w' => ∃ v0_ : Value, e = .returned (v0_) ∧ Kd.V (Kd.int .u64) 43 w' w.heap.size (fun k_ => (P0_ k_ ∨ w.heap.size ≤ k_)) v0_ r ∧ Below w.heap.size w w' := by
 have HO0 := zA (show Kd.V (Kd.int .u64) 43 w w.heap.size (fun k_ => (P0_ k_ ∨ w.heap.size ≤ k_)) (.slice A0 l0.length c0) l0 from V_mono hs0 (fun k_ hk => .inl hk))
 have HB := zA (Below.refl w.heap.size w)
 have H : (limbs_Trim.l0 k l0 (l0.length : Int)) = some r := h
 clear h
 have H' := zA H
 clear H
 go_enter Tryd.func122, Tryd.ntmps122
 go_wp2
 go_loopg [3] k (fun kq v3 w' => ∃ (x3_1 : Int), v3 = .int .i64 x3_1 ∧ Aside0 (limbs_Trim.l0 kq l0 x3_1 = some r) ∧ Aside0 (kq ≤ k) ∧ Aside0 (Kd.V (Kd.int .u64) 43 w' w.heap.size (fun k_ => (P0_ k_ ∨ w.heap.size ≤ k_)) (.slice A0 l0.length c0) l0) ∧ Aside0 (Below w.heap.size w w'))
 case atStart => exact ⟨((l0.length : Int)), zi, H', ⟨Nat.le_refl _⟩, ⟨vu HO0.out⟩, ⟨bq⟩⟩
 case round =>
  clear H'
  obtain ⟨x3_1, rfl, HA, HK1, HO_0, HB⟩ := hrel
  cases gk with
  | zero => exact absurd HA.out (by simp [limbs_Trim.l0])
  | succ k1 =>
   have H := HA.out
   clear HA
   simp only [limbs_Trim.l0] at H
   by_cases c2 : x3_1 > 0
   ·rw [if_pos c2] at H
    have c2b0 := decide_eq_true c2
    clear c2
    obtain ⟨ji3, hji3⟩ : ∃ j_ : Int, (wrap64 (x3_1 - 1)) = j_ := ⟨_, rfl⟩
    replace H : (if 0 ≤ (ji3) then (if (ji3) < (l0.length : Int) then (if (rd l0 (ji3)) = 0 then (limbs_Trim.l0 k1 l0 ji3) else (if 0 ≤ x3_1 then (if x3_1 ≤ (l0.length : Int) then (some (l0.take (x3_1 : Int).toNat)) else (none)) else (none))) else (none)) else (none)) = some r := zQ hji3 H
    have hji3w : (IntKind.i64.wrap (x3_1 - 1)) = ji3 := (i64_w _).trans hji3
    replace H := dn H
    obtain ⟨c4, H⟩ := H
    have c4b0 := decide_eq_true c4
    clear c4
    replace H := dn H
    obtain ⟨c5, H⟩ := H
    have c5b0 := decide_eq_true c5
    clear c5
    by_cases c6 : (rd l0 (ji3)) = 0
    ·rw [if_pos c6] at H
     have c6b0 := beq_iff_eq.mpr c6
     have c6b1 := bne_eq_false_iff_eq.mpr c6
     clear c6
     have H' := zA H
     clear H
     have p101 : 0 ≤ ((ji3) : Int) := od
     have q101 : (ji3) < (l0.length : Int) := od
     obtain ⟨ad101, e101, hx101_0⟩ := Kd.at_int (V_reads' HO_0.out).2.2 (ji3) p101 q101
     cases e101
     replace p101 := eq_true p101
     replace q101 := eq_true q101
     go_wp2
     go_roundg k1
     case measure => have := HK1.out; omega
     case rel => exact ⟨(ji3), (by first | rfl | (simp; done) | (simp only [← hji3] <;> (first | rfl | simp)) | (simp [*]; done)), (by first | exact H' | (simp only [hji3]; exact H') | (simp only [hji3] at H' ⊢; exact H')), ⟨by have := HK1.out; omega⟩, ⟨vu HO_0.out⟩, ⟨bq⟩⟩
    rw [if_neg c6] at H
    have c6b0 := beq_eq_false_iff_ne.mpr c6
    have c6b1 := bne_iff_ne.mpr c6
    replace H := dn H
    obtain ⟨c7, H⟩ := H
    have c7b0 := eq_true c7
    have c7b1 := decide_eq_true c7
    clear c7
    replace H := dn H
    obtain ⟨c8, H⟩ := H
    have c8b0 := eq_true c8
    have c8b1 := decide_eq_true c8
    clear c8
    obtain ⟨y102, hy102⟩ : ∃ y_ : List Int, y_ = (l0.take (x3_1 : Int).toNat) := ⟨_, rfl⟩
    replace H : (some y102) = some r := zR hy102 H
    have Ny102 := zA hy102
    clear hy102
    obtain rfl := Option.some.inj H
    have p101 : 0 ≤ ((ji3) : Int) := od
    have q101 : (ji3) < (l0.length : Int) := od
    obtain ⟨ad101, e101, hx101_0⟩ := Kd.at_int (V_reads' HO_0.out).2.2 (ji3) p101 q101
    cases e101
    replace p101 := eq_true p101
    replace q101 := eq_true q101
    have q9 : (x3_1 : Int) ≤ ((l0.length : Int) : Int) := od
    obtain ⟨i09, hi09, _, hsz9, _⟩ := info_parts info43
    have hroom9 : l0.length ≤ c0 := (V_reads' HO_0.out).2.1
    have hC9 : Kd.F (Kd.int .u64) _ _ (some ad101) l0.length l0 := (V_at (base := w.heap.size) HO_0.out).2.2
    have hcut9 := cut_to3 (P := Tryd.prog) 22 43 .i64 .i64 Tryd.underlying22 hi09 (some ad101) l0.length c0 x3_1 (od) q9 hroom9
    have hr9 := Kd.F_take (m := (x3_1 : Int).toNat) hC9 (by omega)
    have hy9 : y102.length = (x3_1 : Int).toNat := (by rw [Ny102.out, List.length_take]; omega)
    rw [← Ny102.out] at hr9
    rw [← hy9] at hcut9
    have HO106 := zA (show Kd.V (Kd.int .u64) 43 _ w.heap.size _ (.slice (some ad101) y102.length y102.length) y102 from V_mk (Nat.le_refl _) hr9)
    have HC106 := zA (show y102.length ≤ y102.length from Nat.le_refl _)
    clear hr9 hC9 hroom9 hi09 hsz9
    have KY9 := zA hy9
    clear hy9
    replace q9 := eq_true q9
    go_wp2
    go_ret
    exact ⟨_, by first | rfl | (simp [errW_none, errW_some] <;> rfl) | (simp only [← hji3]; first | rfl | (simp [errW_none, errW_some] <;> rfl)) | (simp [*, errW_none, errW_some] <;> rfl), vu HO106.out, bq⟩
   rw [if_neg c2] at H
   have c2b0 := decide_eq_false c2
   clear c2
   replace H := dn H
   obtain ⟨c10, H⟩ := H
   have c10b0 := eq_true c10
   have c10b1 := decide_eq_true c10
   clear c10
   replace H := dn H
   obtain ⟨c11, H⟩ := H
   have c11b0 := eq_true c11
   have c11b1 := decide_eq_true c11
   clear c11
   obtain ⟨y107, hy107⟩ : ∃ y_ : List Int, y_ = (l0.take (x3_1 : Int).toNat) := ⟨_, rfl⟩
   replace H : (some y107) = some r := zR hy107 H
   have Ny107 := zA hy107
   clear hy107
   obtain rfl := Option.some.inj H
   have q12 : (x3_1 : Int) ≤ ((l0.length : Int) : Int) := od
   obtain ⟨i012, hi012, _, hsz12, _⟩ := info_parts info43
   have hroom12 : l0.length ≤ c0 := (V_reads' HO_0.out).2.1
   have hC12 : Kd.F (Kd.int .u64) _ _ A0 l0.length l0 := (V_at (base := w.heap.size) HO_0.out).2.2
   have hcut12 := cut_to3 (P := Tryd.prog) 22 43 .i64 .i64 Tryd.underlying22 hi012 A0 l0.length c0 x3_1 (od) q12 hroom12
   have hr12 := Kd.F_take (m := (x3_1 : Int).toNat) hC12 (by omega)
   have hy12 : y107.length = (x3_1 : Int).toNat := (by rw [Ny107.out, List.length_take]; omega)
   rw [← Ny107.out] at hr12
   rw [← hy12] at hcut12
   have HO111 := zA (show Kd.V (Kd.int .u64) 43 _ w.heap.size _ (.slice A0 y107.length y107.length) y107 from V_mk (Nat.le_refl _) hr12)
   have HC111 := zA (show y107.length ≤ y107.length from Nat.le_refl _)
   clear hr12 hC12 hroom12 hi012 hsz12
   have KY12 := zA hy12
   clear hy12
   replace q12 := eq_true q12
   go_wp2
   go_ret
   exact ⟨_, er, vu HO111.out, bq⟩
def raw_Fits.f (k : Nat) (a0_0 : Bool) (l0_1 : List Int) (a0_2 : Int) : Option (Bool) := (limbs_Trim.f k l0_1).bind fun t268 => (if (t268.length : Int) ≤ 1024 then (if a0_2 ≥ (-32768) then (some (decide (a0_2 ≤ 32768))) else (some false)) else (some false))
theorem raw_Fits.mono : ∀ a0 a1 a2 k, LeO (raw_Fits.f k a0 a1 a2) (raw_Fits.f (k + 1) a0 a1 a2) := by
 intro a0 a1 a2 k
 unfold raw_Fits.f
 repeat' first
   | (with_reducible exact limbs_Trim.mono _ _)
   | (with_reducible exact LeO.refl _)
   | (with_reducible exact LeO.none _)
   | (with_reducible refine LeO.ite ?_ ?_)
   | (with_reducible refine LeO.bind ?_ (fun _ => ?_))
   | exact limbs_Trim.mono _ _
   | exact LeO.none _
   | refine LeO.ite ?_ ?_
   | refine LeO.bind ?_ (fun _ => ?_)
set_option maxHeartbeats 8000000 in
set_option maxRecDepth 100000 in
theorem raw_Fits.calls (k : Nat) (a0_0 : Bool) (A0_1 : Option Addr) (c0_1 : Nat) (l0_1 : List Int) (a0_2 : Int) (r : Bool) (w : World) (hr0_1 : Kd.C (Kd.int .u64) w A0_1 l0_1.length l0_1) (hc0_1 : l0_1.length ≤ c0_1) (h : raw_Fits.f k a0_0 l0_1 a0_2 = some r) :
  Calls Tryd.prog 101 #[.agg #[.bool a0_0, .slice A0_1 l0_1.length c0_1, .int .i64 a0_2]] w fun e w' => e = .returned (.bool r) ∧ Below w.heap.size w w' := by
 have hu25 := Tryd.underlying25
 have HR0_1 := zA hr0_1
 have HC0_1 := zA hc0_1
 clear hr0_1 hc0_1
 have HB := zA (Below.refl w.heap.size w)
 have H : ((limbs_Trim.f k l0_1).bind fun t268 => (if (t268.length : Int) ≤ 1024 then (if a0_2 ≥ (-32768) then (some (decide (a0_2 ≤ 32768))) else (some false)) else (some false))) = some r := h
 clear h
 obtain ⟨t268, A2, H⟩ := zh H
 by_cases c3 : (t268.length : Int) ≤ 1024
 ·rw [if_pos c3] at H
  have c3b0 := decide_eq_true c3
  have c3b1 : decide (t268.length ≤ 1024) = true := decide_eq_true (by omega)
  clear c3
  by_cases c4 : a0_2 ≥ (-32768)
  ·rw [if_pos c4] at H
   have c4b0 := decide_eq_true c4
   clear c4
   obtain rfl := Option.some.inj H
   go_enter Tryd.func101, Tryd.ntmps101
   go_wp2_with (first | ((with_reducible refine zD 1 rfl ?_); refine zn (N := 1) (cs := #[.bool a0_0, .slice A0_1 l0_1.length c0_1, .int .i64 a0_2]) (t := 25) rfl rfl ?_; intro gb267 hg w5 hbox hb; have BK267 := zA (hbox); have GW267 := zw hg; replace HB := ze hb; clear hb hbox hg; obtain ⟨_, _, _, _, _, _⟩ := zc BK267) | ((with_reducible refine zG 122 rfl ?_); refine zL (some 5) rfl rfl Tryd.func122 #[.slice A0_1 l0_1.length c0_1] rfl ?_; (with_reducible refine (limbs_Trim.calls k (fun k_ => k_ < w.heap.size) _ _ l0_1 t268 _ ?side1 A2.out).mono ?_); (case side1 => exact V_mk HC0_1.out (Kd.F_below (C_F (Kd.heap_int .u64) HR0_1.out) zs)); rintro e w7 ⟨v269, rfl, ho0, hb⟩; refine ⟨_, rfl, ?_⟩; have HO270 := zA (V_lower (V_mono (ok' := fun k_ => k_ ≠ gb267) ho0 (fun k_ hk_ => Or.elim hk_ (fun hs_ => fun e_ => Nat.not_le.2 hs_ (by rw [e_]; exact GW267.out)) (fun hn_ => (zj BK267 k_ hn_)))) (below_size zs)); replace BK267 := zb BK267 hb; replace HB := zf hb; (try clear ho0); obtain ⟨Ao8, co8, eo8⟩ := V_slice HO270.out; subst eo8; obtain ⟨hcz9_0, hcz9_1, hcz9_2, hfz9_0, hfz9_1, hfz9_2⟩ := zc BK267))
   go_ret
   exact ⟨er, zs⟩
  rw [if_neg c4] at H
  have c4b0 := decide_eq_false c4
  clear c4
  obtain rfl := Option.some.inj H
  go_enter Tryd.func101, Tryd.ntmps101
  go_wp2_with (first | ((with_reducible refine zD 1 rfl ?_); refine zn (N := 1) (cs := #[.bool a0_0, .slice A0_1 l0_1.length c0_1, .int .i64 a0_2]) (t := 25) rfl rfl ?_; intro gb267 hg w10 hbox hb; have BK267 := zA (hbox); have GW267 := zw hg; replace HB := ze hb; clear hb hbox hg; obtain ⟨_, _, _, _, _, _⟩ := zc BK267) | ((with_reducible refine zG 122 rfl ?_); refine zL (some 5) rfl rfl Tryd.func122 #[.slice A0_1 l0_1.length c0_1] rfl ?_; (with_reducible refine (limbs_Trim.calls k (fun k_ => k_ < w.heap.size) _ _ l0_1 t268 _ ?side1 A2.out).mono ?_); (case side1 => exact V_mk HC0_1.out (Kd.F_below (C_F (Kd.heap_int .u64) HR0_1.out) zs)); rintro e w12 ⟨v269, rfl, ho0, hb⟩; refine ⟨_, rfl, ?_⟩; have HO270 := zA (V_lower (V_mono (ok' := fun k_ => k_ ≠ gb267) ho0 (fun k_ hk_ => Or.elim hk_ (fun hs_ => fun e_ => Nat.not_le.2 hs_ (by rw [e_]; exact GW267.out)) (fun hn_ => (zj BK267 k_ hn_)))) (below_size zs)); replace BK267 := zb BK267 hb; replace HB := zf hb; (try clear ho0); obtain ⟨Ao13, co13, eo13⟩ := V_slice HO270.out; subst eo13; obtain ⟨hcz14_0, hcz14_1, hcz14_2, hfz14_0, hfz14_1, hfz14_2⟩ := zc BK267))
  go_ret
  exact ⟨er, zs⟩
 rw [if_neg c3] at H
 have c3b0 := decide_eq_false c3
 have c3b1 : decide (t268.length ≤ 1024) = false := decide_eq_false (by omega)
 clear c3
 obtain rfl := Option.some.inj H
 go_enter Tryd.func101, Tryd.ntmps101
 go_wp2_with (first | ((with_reducible refine zD 1 rfl ?_); refine zn (N := 1) (cs := #[.bool a0_0, .slice A0_1 l0_1.length c0_1, .int .i64 a0_2]) (t := 25) rfl rfl ?_; intro gb267 hg w15 hbox hb; have BK267 := zA (hbox); have GW267 := zw hg; replace HB := ze hb; clear hb hbox hg; obtain ⟨hcz16_0, hcz16_1, hcz16_2, hfz16_0, hfz16_1, hfz16_2⟩ := zc BK267) | ((with_reducible refine zG 122 rfl ?_); refine zL (some 5) rfl rfl Tryd.func122 #[.slice A0_1 l0_1.length c0_1] rfl ?_; (with_reducible refine (limbs_Trim.calls k (fun k_ => k_ < w.heap.size) _ _ l0_1 t268 _ ?side1 A2.out).mono ?_); (case side1 => exact V_mk HC0_1.out (Kd.F_below (C_F (Kd.heap_int .u64) HR0_1.out) zs)); rintro e w17 ⟨v269, rfl, ho0, hb⟩; refine ⟨_, rfl, ?_⟩; have HO270 := zA (V_lower (V_mono (ok' := fun k_ => k_ ≠ gb267) ho0 (fun k_ hk_ => Or.elim hk_ (fun hs_ => fun e_ => Nat.not_le.2 hs_ (by rw [e_]; exact GW267.out)) (fun hn_ => (zj BK267 k_ hn_)))) (below_size zs)); replace BK267 := zb BK267 hb; replace HB := zf hb; (try clear ho0); obtain ⟨Ao18, co18, eo18⟩ := V_slice HO270.out; subst eo18))
 go_ret
 exact ⟨er, zs⟩
def dyad_number_right.f (k : Nat) (a0_0 : Bool) (l0_1 : List Int) (a0_2 : Int) : Option (Bool) := (raw_Fits.f k a0_0 l0_1 a0_2).bind fun t272 => (some t272)
theorem dyad_number_right.mono : ∀ a0 a1 a2 k, LeO (dyad_number_right.f k a0 a1 a2) (dyad_number_right.f (k + 1) a0 a1 a2) := by
 intro a0 a1 a2 k
 unfold dyad_number_right.f
 repeat' first
   | (with_reducible exact raw_Fits.mono _ _ _ _)
   | (with_reducible exact LeO.refl _)
   | (with_reducible exact LeO.none _)
   | (with_reducible refine LeO.ite ?_ ?_)
   | (with_reducible refine LeO.bind ?_ (fun _ => ?_))
   | exact raw_Fits.mono _ _ _ _
   | exact LeO.none _
   | refine LeO.ite ?_ ?_
   | refine LeO.bind ?_ (fun _ => ?_)
set_option maxHeartbeats 8000000 in
set_option maxRecDepth 100000 in
theorem dyad_number_right.calls (k : Nat) (a0_0 : Bool) (A0_1 : Option Addr) (c0_1 : Nat) (l0_1 : List Int) (a0_2 : Int) (r : Bool) (w : World) (hr0_1 : Kd.C (Kd.int .u64) w A0_1 l0_1.length l0_1) (hc0_1 : l0_1.length ≤ c0_1) (h : dyad_number_right.f k a0_0 l0_1 a0_2 = some r) :
  Calls Tryd.prog 72 #[.agg #[.bool a0_0, .slice A0_1 l0_1.length c0_1, .int .i64 a0_2]] w fun e w' => e = .returned (.bool r) ∧ Below w.heap.size w w' := by
 have hu64 := Tryd.underlying64
 have HR0_1 := zA hr0_1
 have HC0_1 := zA hc0_1
 clear hr0_1 hc0_1
 have HB := zA (Below.refl w.heap.size w)
 have H : ((raw_Fits.f k a0_0 l0_1 a0_2).bind fun t272 => (some t272)) = some r := h
 clear h
 obtain ⟨t272, A2, H⟩ := zh H
 obtain rfl := Option.some.inj H
 go_enter Tryd.func72, Tryd.ntmps72
 go_wp2_with (first | ((with_reducible refine zD 1 rfl ?_); refine zn (N := 1) (cs := #[.bool a0_0, .slice A0_1 l0_1.length c0_1, .int .i64 a0_2]) (t := 64) rfl rfl ?_; intro gb271 hg w3 hbox hb; have BK271 := zA (hbox); have GW271 := zw hg; replace HB := ze hb; clear hb hbox hg; obtain ⟨_, _, _, _, _, _⟩ := zc BK271) | ((with_reducible refine zG 101 rfl ?_); refine zL (some 4) rfl rfl Tryd.func101 #[.agg #[.bool a0_0, .slice A0_1 l0_1.length c0_1, .int .i64 a0_2]] rfl ?_; (with_reducible refine (raw_Fits.calls k a0_0 _ _ l0_1 a0_2 t272 _ ?side1 ?side2 A2.out).mono ?_); (case side1 => exact zk (C_below HR0_1.out HB.out)); (case side2 => exact HC0_1.out); rintro e w5 ⟨rfl, hb⟩; refine ⟨_, rfl, ?_⟩; replace BK271 := zb BK271 hb; replace HB := zf hb))
 go_ret
 exact ⟨er, zs⟩
def dyad_room.f (k : Nat) (a0_0 : Bool) (l0_1 : List Int) (a0_2 : Int) : Option (Bool × List Int × Int × Int) := (raw_Fits.f k a0_0 l0_1 a0_2).bind fun t275 => (if t275 = true then (some (a0_0, l0_1, a0_2, 0)) else (some (false, ([] : List Int), 0, 3)))
theorem dyad_room.mono : ∀ a0 a1 a2 k, LeO (dyad_room.f k a0 a1 a2) (dyad_room.f (k + 1) a0 a1 a2) := by
 intro a0 a1 a2 k
 unfold dyad_room.f
 repeat' first
   | (with_reducible exact raw_Fits.mono _ _ _ _)
   | (with_reducible exact LeO.refl _)
   | (with_reducible exact LeO.none _)
   | (with_reducible refine LeO.ite ?_ ?_)
   | (with_reducible refine LeO.bind ?_ (fun _ => ?_))
   | exact raw_Fits.mono _ _ _ _
   | exact LeO.none _
   | refine LeO.ite ?_ ?_
   | refine LeO.bind ?_ (fun _ => ?_)
set_option maxHeartbeats 8000000 in
set_option maxRecDepth 100000 in
theorem dyad_room.calls (k : Nat) (a0_0 : Bool) (P0_1_ : Nat → Prop) (A0_1 : Option Addr) (c0_1 : Nat) (l0_1 : List Int) (a0_2 : Int) (r1 : Bool) (r2 : List Int) (r3 : Int) (r4 : Int) (w : World) (hs0_1 : Kd.V (Kd.int .u64) 43 w w.heap.size (fun k_ => P0_1_ k_) (.slice A0_1 l0_1.length c0_1) l0_1) (h : dyad_room.f k a0_0 l0_1 a0_2 = some (r1, r2, r3, r4)) :
  Calls Tryd.prog 111 #[.agg #[.bool a0_0, .slice A0_1 l0_1.length c0_1, .int .i64 a0_2]] w fun e w' => ∃ v1_ : Value, e = .returned (.tuple #[.agg #[.bool r1, v1_, .int .i64 r3], .int .i64 r4]) ∧ Kd.V (Kd.int .u64) 43 w' w.heap.size (fun k_ => (P0_1_ k_ ∨ w.heap.size ≤ k_)) v1_ r2 ∧ Below w.heap.size w w' := by
 have hu25 := Tryd.underlying25
 have HO0_1 := zA (show Kd.V (Kd.int .u64) 43 w w.heap.size (fun k_ => (P0_1_ k_ ∨ w.heap.size ≤ k_)) (.slice A0_1 l0_1.length c0_1) l0_1 from V_mono hs0_1 (fun k_ hk => .inl hk))
 have HB := zA (Below.refl w.heap.size w)
 have H : ((raw_Fits.f k a0_0 l0_1 a0_2).bind fun t275 => (if t275 = true then (some (a0_0, l0_1, a0_2, 0)) else (some (false, ([] : List Int), 0, 3)))) = some (r1, r2, r3, r4) := h
 clear h
 obtain ⟨t275, A2, H⟩ := zh H
 by_cases c3 : t275 = true
 ·subst c3
  rw [if_pos rfl] at H
  simp only [Option.some.injEq, Prod.mk.injEq] at H
  obtain ⟨rfl, rfl, rfl, rfl⟩ := H
  go_enter Tryd.func111, Tryd.ntmps111
  go_wp2_with (first | ((with_reducible refine zD 1 rfl ?_); refine zn (N := 1) (cs := #[.bool a0_0, .slice A0_1 l0_1.length c0_1, .int .i64 a0_2]) (t := 25) rfl rfl ?_; intro gb273 hg w4 hbox hb; replace HO0_1 := zA (V_below (V_elderB (vu HO0_1.out) gb273 (Nat.le_of_eq hg.symm)) hb); have BK273 := zA (hbox); have GW273 := zw hg; replace HB := ze hb; clear hb hbox hg) | ((with_reducible refine zD 2 rfl ?_); refine zn (N := 2) (cs := #[.bool false, .slice none 0 0, .int .i64 0]) (t := 25) rfl rfl ?_; intro gb274 hg w5 hbox hb; replace HO0_1 := zA (V_below (V_elderB (vu HO0_1.out) gb274 (Nat.le_of_eq hg.symm)) hb); have BK274 := zA (hbox); have GW274 := zx hg; replace HB := zf hb; have NB273_274 := zl BK273 hg; have NB274_273 := zg BK273 hg; replace BK273 := zb BK273 hb; clear hb hbox hg; have hnb6 := NB273_274.out; have hnc6 := NB274_273.out; obtain ⟨_, _, _, _, _, _⟩ := zc BK273) | ((with_reducible refine zG 101 rfl ?_); refine zL (some 5) rfl rfl Tryd.func101 #[.agg #[.bool a0_0, .slice A0_1 l0_1.length c0_1, .int .i64 a0_2]] rfl ?_; (with_reducible refine (raw_Fits.calls k a0_0 _ _ l0_1 a0_2 true _ ?side1 ?side2 A2.out).mono ?_); (case side1 => exact zk (V_reads' HO0_1.out).2.2); (case side2 => exact (V_reads' HO0_1.out).2.1); rintro e w8 ⟨rfl, hb⟩; refine ⟨_, rfl, ?_⟩; replace HO0_1 := zA (V_below (vu HO0_1.out) hb); replace BK273 := zb BK273 hb; replace BK274 := zb BK274 hb; replace HB := zf hb; obtain ⟨hcz9_0, hcz9_1, hcz9_2, hfz9_0, hfz9_1, hfz9_2⟩ := zc BK273; obtain ⟨hcz10_0, hcz10_1, hcz10_2, hfz10_0, hfz10_1, hfz10_2⟩ := zc BK274))
  refine bodyPost_ret (results_ct rfl _ _ gb274 25 #[.bool a0_0, .slice A0_1 l0_1.length c0_1, .int .i64 a0_2] (0, 0) _ rfl (zy BK274) Tryd.underlying25 rfl (by kernel_rfl)) rfl ?_
  exact ⟨_, er, vu (V_mono (zv gb274 (V_mono HO0_1.out (fun k_ hk => (⟨hk, hk.2⟩ : _ ∧ k_ ≠ gb274))) (fun _ hk => hk.2) _ _ _) (fun _ hk => hk.1.1.1)), zs⟩
 replace c3 := Bool.eq_false_iff.mpr c3
 subst c3
 rw [if_neg (show ¬ (false = true) by decide)] at H
 simp only [Option.some.injEq, Prod.mk.injEq] at H
 obtain ⟨rfl, rfl, rfl, rfl⟩ := H
 go_enter Tryd.func111, Tryd.ntmps111
 go_wp2_with (first | ((with_reducible refine zD 1 rfl ?_); refine zn (N := 1) (cs := #[.bool a0_0, .slice A0_1 l0_1.length c0_1, .int .i64 a0_2]) (t := 25) rfl rfl ?_; intro gb273 hg w11 hbox hb; replace HO0_1 := zA (V_below (V_elderB (vu HO0_1.out) gb273 (Nat.le_of_eq hg.symm)) hb); have BK273 := zA (hbox); have GW273 := zw hg; replace HB := ze hb; clear hb hbox hg) | ((with_reducible refine zD 2 rfl ?_); refine zn (N := 2) (cs := #[.bool false, .slice none 0 0, .int .i64 0]) (t := 25) rfl rfl ?_; intro gb274 hg w12 hbox hb; replace HO0_1 := zA (V_below (V_elderB (vu HO0_1.out) gb274 (Nat.le_of_eq hg.symm)) hb); have BK274 := zA (hbox); have GW274 := zx hg; replace HB := zf hb; have NB273_274 := zl BK273 hg; have NB274_273 := zg BK273 hg; replace BK273 := zb BK273 hb; clear hb hbox hg; have hnb13 := NB273_274.out; have hnc13 := NB274_273.out; obtain ⟨hcz14_0, hcz14_1, hcz14_2, hfz14_0, hfz14_1, hfz14_2⟩ := zc BK273) | ((with_reducible refine zG 101 rfl ?_); refine zL (some 5) rfl rfl Tryd.func101 #[.agg #[.bool a0_0, .slice A0_1 l0_1.length c0_1, .int .i64 a0_2]] rfl ?_; (with_reducible refine (raw_Fits.calls k a0_0 _ _ l0_1 a0_2 false _ ?side1 ?side2 A2.out).mono ?_); (case side1 => exact zk (V_reads' HO0_1.out).2.2); (case side2 => exact (V_reads' HO0_1.out).2.1); rintro e w15 ⟨rfl, hb⟩; refine ⟨_, rfl, ?_⟩; replace HO0_1 := zA (V_below (vu HO0_1.out) hb); replace BK273 := zb BK273 hb; replace BK274 := zb BK274 hb; replace HB := zf hb; obtain ⟨hcz16_0, hcz16_1, hcz16_2, hfz16_0, hfz16_1, hfz16_2⟩ := zc BK274))
 refine bodyPost_ret (results_ct rfl _ _ gb274 25 #[.bool false, .slice none 0 0, .int .i64 0] (0, 0) _ rfl (zy BK274) Tryd.underlying25 rfl (by kernel_rfl)) rfl ?_
 exact ⟨_, er, V_nil _ _ _ _ _, zs⟩
section
variable {P : Program} {ops : Array Oper} {Q : Exit → Act → World → Prop}
/-- A call of a function value, as an arm of go_wp2_with. -/
theorem goesV_ {rest : List Oper} {oi : Oper} {a : Act} {w : World} (N : Option Tmp) (hd : oi.dst = N) (hg : oi.guard = none) {f : FuncId} {fn : Func} {op : Operand} {as_ : Array Operand} {ts : Array TypeId} (first cap : Array Value)
  (hop : oi.op = .call { callee := .value op, args := as_, argTypes := ts }) (hv : a.eval op = .func (.func f) first cap)
  (hf : P.funcs[f]? = some fn) (hname : (fn.name == "runtime.NumGoroutine") = false) (hb : fn.body.isSome = true) (args : Array Value)
  (hargs : first ++ as_.map a.eval ++ cap = args)
  (h : Calls P f args w fun e w' => ∃ v, e = .returned v ∧ wpList P ops Q rest (a.put N v) w') : wpList P ops Q (oi :: rest) a w := by
 refine wpList_plain hg fun K hK => ?_
 have he := enters_ hf hname hb args w
 have hrun : (execOp a.eval oi).run P w = .ok (.enter f args) w := by
  unfold execOp
  simp [hop, resolve, Deferred.ofValue, invoke, hv, ← hargs] at he ⊢
  exact he
 unfold Oper.wp
 rw [hrun, Oper.upon_enter]
 refine h.mono fun e w'' hh => ?_
 obtain ⟨v, rfl, hk⟩ := hh
 subst hd
 exact hK _ _ hk
end
/-- of's test: the number is not right. -/
theorem hand_of1 (k : Nat) (s : Bool) (A : Option Addr) (c : Nat) (l : List Int) (e : Int) (r : Bool) (w : World) (hr : Kd.C (Kd.int .u64) w A l.length l) (hc : l.length ≤ c) (h : dyad_number_right.f k s l e = some r) :
  Calls Tryd.prog 110 #[.agg #[.bool s, .slice A l.length c, .int .i64 e]] w fun x w' => x = .returned (.bool (!r)) ∧ Below w.heap.size w w' := by
 have hu64 := Tryd.underlying25
 have HB := zA (Below.refl w.heap.size w)
 have HR := zA hr
 have HC := zA hc
 have HH := zA h
 clear hr hc h
 go_enter Tryd.func110, Tryd.ntmps110
 go_wp2_with (first
  | ((with_reducible refine zD 1 rfl ?_); refine zn (N := 1) (cs := #[.bool s, .slice A l.length c, .int .i64 e]) (t := 25) rfl rfl ?_; intro g hg w1 hbox hb; have n0 := zA (below_step HB.out hb); have n1 := zA hbox; have n2 := zA (C_below HR.out hb); clear HB hb hg HR; have HB := n0; have BK := n1; have HR := n2; clear n0 n1 n2; have hc0 := (blk_cell hbox 0).trans rfl; have hc1 := (blk_cell hbox 1).trans rfl; have hc2 := (blk_cell hbox 2).trans rfl; have hf0 := blk_frozen hbox 0; have hf1 := blk_frozen hbox 1; have hf2 := blk_frozen hbox 2; clear hbox)
  | ((with_reducible refine zG 72 rfl ?_); refine goesL_ (some 4) rfl rfl Tryd.func72 (by kernel_rfl) rfl #[.agg #[.bool s, .slice A l.length c, .int .i64 e]] rfl (by (try simp only [List.map_toArray, List.map_cons, List.map_nil]); first | done | rfl) ?_; refine (dyad_number_right.calls k s _ _ l e r _ HR.out HC.out HH.out).mono ?_; rintro e w5 ⟨rfl, hb⟩; refine ⟨_, rfl, ?_⟩; have n1 := zA (below_step HB.out hb); clear HB hb; have HB := n1; clear n1))
 go_ret
 exact ⟨rfl, HB.out⟩
set_option maxRecDepth 100000 in
/-- slices.IndexFunc of one number. -/
theorem hand_index1 (k : Nat) (g : Nat) (s : Bool) (A : Option Addr) (c : Nat) (l : List Int) (e : Int) (r : Bool) (w : World) (hb0 : w.heap[g]? = some (.cells #[.bool s, .slice A l.length c, .int .i64 e] 25 (0, 0))) (hr : Kd.C (Kd.int .u64) w A l.length l) (hc : l.length ≤ c) (h : dyad_number_right.f k s l e = some r) :
  Calls Tryd.prog 133 #[.slice (some ⟨g, 0, none⟩) 1 1, .func (.func 110) #[] #[]] w fun x w' => x = .returned (.int .i64 (if r then -1 else 0)) ∧ Below w.heap.size w w' := by
 have hu25 := Tryd.underlying25
 have HB := zA (Below.refl w.heap.size w)
 have HR := zA hr
 have HC := zA hc
 have HH := zA h
 have hc0 := (blk_cell hb0 0).trans rfl; have hc1 := (blk_cell hb0 1).trans rfl; have hc2 := (blk_cell hb0 2).trans rfl; have hf0 := blk_frozen hb0 0; have hf1 := blk_frozen hb0 1; have hf2 := blk_frozen hb0 2
 have BK := zA hb0
 clear hr hc h hb0
 go_enter Tryd.func133, Tryd.ntmps133
 go_wp2
 refine wp_loop_rounds 2 ?_
 rw [rounds_succ]
 cases r
 ·go_wp2_with (refine goesV_ (some 16) rfl rfl #[] #[] rfl rfl Tryd.func110 (by kernel_rfl) rfl #[.agg #[.bool s, .slice A l.length c, .int .i64 e]] (by (try simp only [List.map_toArray, List.map_cons, List.map_nil]); first | done | rfl) ?_; refine (hand_of1 k s _ _ l e _ _ (C_below HR.out HB.out) HC.out HH.out).mono ?_; rintro e w5 ⟨rfl, hb⟩; refine ⟨_, rfl, ?_⟩; have n0 := zA (blk_below BK.out hb); have n1 := zA (below_step HB.out hb); clear HB hb BK; have HB := n1; have BK := n0; clear n0 n1)
  go_ret
  exact ⟨rfl, HB.out⟩
 go_wp2_with (refine goesV_ (some 16) rfl rfl #[] #[] rfl rfl Tryd.func110 (by kernel_rfl) rfl #[.agg #[.bool s, .slice A l.length c, .int .i64 e]] (by (try simp only [List.map_toArray, List.map_cons, List.map_nil]); first | done | rfl) ?_; refine (hand_of1 k s _ _ l e _ _ (C_below HR.out HB.out) HC.out HH.out).mono ?_; rintro e w5 ⟨rfl, hb⟩; refine ⟨_, rfl, ?_⟩; have n0 := zA (blk_below BK.out hb); have n1 := zA (below_step HB.out hb); clear HB hb BK; have HB := n1; have BK := n0; clear n0 n1)
 rw [rounds_succ]
 go_wp2
 go_ret
 exact ⟨rfl, HB.out⟩
set_option maxRecDepth 100000 in
/-- slices.IndexFunc of two numbers. -/
theorem hand_index2 (k : Nat) (g : Nat) (s : Bool) (A : Option Addr) (c : Nat) (l : List Int) (e : Int) (s2 : Bool) (A2 : Option Addr) (c2 : Nat) (l2 : List Int) (e2 : Int) (r r2 : Bool) (w : World) (hb0 : w.heap[g]? = some (.cells #[.bool s, .slice A l.length c, .int .i64 e, .bool s2, .slice A2 l2.length c2, .int .i64 e2] 25 (0, 0))) (hr : Kd.C (Kd.int .u64) w A l.length l) (hc : l.length ≤ c) (hr2 : Kd.C (Kd.int .u64) w A2 l2.length l2) (hc2 : l2.length ≤ c2) (h : dyad_number_right.f k s l e = some r) (h2 : r = true → dyad_number_right.f k s2 l2 e2 = some r2) :
  Calls Tryd.prog 133 #[.slice (some ⟨g, 0, none⟩) 2 2, .func (.func 110) #[] #[]] w fun x w' => x = .returned (.int .i64 (if r then (if r2 then -1 else 1) else 0)) ∧ Below w.heap.size w w' := by
 have hu25 := Tryd.underlying25
 have HB := zA (Below.refl w.heap.size w)
 have HR := zA hr
 have HC := zA hc
 have HH := zA h
 have HR2 := zA hr2
 have HC2 := zA hc2
 have HH2 := zA h2
 have BK := zA hb0
 clear hr hc h hr2 hc2 h2 hb0
 have hc0 := (blk_cell BK.out 0).trans rfl; have hf0 := blk_frozen BK.out 0; have hc1 := (blk_cell BK.out 1).trans rfl; have hf1 := blk_frozen BK.out 1; have hc2 := (blk_cell BK.out 2).trans rfl; have hf2 := blk_frozen BK.out 2; have hc3 := (blk_cell BK.out 3).trans rfl; have hf3 := blk_frozen BK.out 3; have hc4 := (blk_cell BK.out 4).trans rfl; have hf4 := blk_frozen BK.out 4; have hc5 := (blk_cell BK.out 5).trans rfl; have hf5 := blk_frozen BK.out 5
 go_enter Tryd.func133, Tryd.ntmps133
 go_wp2
 refine wp_loop_rounds 3 ?_
 rw [rounds_succ]
 cases r
 ·go_wp2_with (refine goesV_ (some 16) rfl rfl #[] #[] rfl rfl Tryd.func110 (by kernel_rfl) rfl #[.agg #[.bool s, .slice A l.length c, .int .i64 e]] (by (try simp only [List.map_toArray, List.map_cons, List.map_nil]); first | done | rfl) ?_; refine (hand_of1 k s _ _ l e _ _ (C_below HR.out HB.out) HC.out HH.out).mono ?_; rintro e w5 ⟨rfl, hb⟩; refine ⟨_, rfl, ?_⟩; have n0 := zA (blk_below BK.out hb); have n1 := zA (below_step HB.out hb); clear HB hb BK; have HB := n1; have BK := n0; clear n0 n1)
  go_ret
  exact ⟨rfl, HB.out⟩
 go_wp2_with (refine goesV_ (some 16) rfl rfl #[] #[] rfl rfl Tryd.func110 (by kernel_rfl) rfl #[.agg #[.bool s, .slice A l.length c, .int .i64 e]] (by (try simp only [List.map_toArray, List.map_cons, List.map_nil]); first | done | rfl) ?_; refine (hand_of1 k s _ _ l e _ _ (C_below HR.out HB.out) HC.out HH.out).mono ?_; rintro e w5 ⟨rfl, hb⟩; refine ⟨_, rfl, ?_⟩; have n0 := zA (blk_below BK.out hb); have n1 := zA (below_step HB.out hb); clear HB hb BK; have HB := n1; have BK := n0; clear n0 n1; have hc0 := (blk_cell BK.out 0).trans rfl; have hf0 := blk_frozen BK.out 0; have hc1 := (blk_cell BK.out 1).trans rfl; have hf1 := blk_frozen BK.out 1; have hc2 := (blk_cell BK.out 2).trans rfl; have hf2 := blk_frozen BK.out 2; have hc3 := (blk_cell BK.out 3).trans rfl; have hf3 := blk_frozen BK.out 3; have hc4 := (blk_cell BK.out 4).trans rfl; have hf4 := blk_frozen BK.out 4; have hc5 := (blk_cell BK.out 5).trans rfl; have hf5 := blk_frozen BK.out 5)
 rw [rounds_succ]
 have HH3 := zA (HH2.out (by simp))
 cases r2
 ·go_wp2_with (refine goesV_ (some 16) rfl rfl #[] #[] rfl rfl Tryd.func110 (by kernel_rfl) rfl #[.agg #[.bool s2, .slice A2 l2.length c2, .int .i64 e2]] (by (try simp only [List.map_toArray, List.map_cons, List.map_nil]); first | done | rfl) ?_; refine (hand_of1 k s2 _ _ l2 e2 _ _ (C_below HR2.out HB.out) HC2.out HH3.out).mono ?_; rintro e w5 ⟨rfl, hb⟩; refine ⟨_, rfl, ?_⟩; have n0 := zA (blk_below BK.out hb); have n1 := zA (below_step HB.out hb); clear HB hb BK; have HB := n1; have BK := n0; clear n0 n1)
  go_ret
  exact ⟨rfl, HB.out⟩
 go_wp2_with (refine goesV_ (some 16) rfl rfl #[] #[] rfl rfl Tryd.func110 (by kernel_rfl) rfl #[.agg #[.bool s2, .slice A2 l2.length c2, .int .i64 e2]] (by (try simp only [List.map_toArray, List.map_cons, List.map_nil]); first | done | rfl) ?_; refine (hand_of1 k s2 _ _ l2 e2 _ _ (C_below HR2.out HB.out) HC2.out HH3.out).mono ?_; rintro e w5 ⟨rfl, hb⟩; refine ⟨_, rfl, ?_⟩; have n0 := zA (blk_below BK.out hb); have n1 := zA (below_step HB.out hb); clear HB hb BK; have HB := n1; have BK := n0; clear n0 n1)
 rw [rounds_succ]
 go_wp2
 go_ret
 exact ⟨rfl, HB.out⟩
set_option maxRecDepth 100000 in
/-- slices.ContainsFunc, by what IndexFunc answers. -/
theorem hand_contains (sl : Value) (i : Int) (w : World) (h : Calls Tryd.prog 133 #[sl, .func (.func 110) #[] #[]] w fun x w' => x = .returned (.int .i64 i) ∧ Below w.heap.size w w') :
  Calls Tryd.prog 109 #[sl, .func (.func 110) #[] #[]] w fun x w' => x = .returned (.bool (decide (0 ≤ i))) ∧ Below w.heap.size w w' := by
 have HH := zA h
 clear h
 go_enter Tryd.func109, Tryd.ntmps109
 go_wp2_with ((with_reducible refine zG 133 rfl ?_); refine goesL_ (some 7) rfl rfl Tryd.func133 (by kernel_rfl) rfl #[sl, .func (.func 110) #[] #[]] rfl (by (try simp only [List.map_toArray, List.map_cons, List.map_nil]); first | done | rfl) ?_; refine HH.out.mono ?_; rintro e w5 ⟨rfl, hb⟩; refine ⟨_, rfl, ?_⟩; have HB := zA hb; clear hb)
 go_ret
 exact ⟨by simp, HB.out⟩
set_option maxRecDepth 100000 in
/-- of: room for what a function makes, where no number is wrong. -/
theorem hand_of (k : Nat) (sl : Value) (r : Bool) (fv : FuncId) (fn : Func) (first cap : Array Value) (hf : Tryd.prog.funcs[fv]? = some fn) (hname : (fn.name == "runtime.NumGoroutine") = false) (hbody : fn.body.isSome = true)
  (s1 : Bool) (l1 : List Int) (e1 : Int) (r1 : Bool) (r2 : List Int) (r3 r4 : Int) (ok : Nat → Prop) (w : World)
  (hc : ∀ w1, Below w.heap.size w w1 → Calls Tryd.prog 109 #[sl, .func (.func 110) #[] #[]] w1 fun x w2 => x = .returned (.bool (!r)) ∧ Below w1.heap.size w1 w2)
  (hm : r = true → ∀ w1, Below w.heap.size w w1 → Calls Tryd.prog fv (first ++ cap) w1 fun x w2 => ∃ v, x = .returned (.agg #[.bool s1, v, .int .i64 e1]) ∧ Kd.V (Kd.int .u64) 43 w2 w1.heap.size (fun k_ => ok k_ ∨ w1.heap.size ≤ k_) v l1 ∧ Below w1.heap.size w1 w2)
  (hroom : r = true → dyad_room.f k s1 l1 e1 = some (r1, r2, r3, r4))
  (hok : ∀ k_, ok k_ → k_ < w.heap.size) (hbad : r = false → (r1, r2, r3, r4) = (false, [], 0, 2)) :
  Calls Tryd.prog 60 #[.func (.func fv) first cap, sl] w fun x w' => ∃ v1_ : Value, x = .returned (.tuple #[.agg #[.bool r1, v1_, .int .i64 r3], .int .i64 r4]) ∧ Kd.V (Kd.int .u64) 43 w' w.heap.size (fun k_ => ok k_ ∨ w.heap.size ≤ k_) v1_ r2 ∧ Below w.heap.size w w' := by
 have hu25 := Tryd.underlying25
 have HB := zA (Below.refl w.heap.size w)
 have Hc := zA hc
 have Hm := zA hm
 have Hroom := zA hroom
 have Hbad := zA hbad
 have Hf := zA hf
 clear hc hm hroom hbad hf
 go_enter Tryd.func60, Tryd.ntmps60
 cases r
 ·have Hb := Hbad.out rfl
  simp only [Prod.mk.injEq] at Hb
  obtain ⟨rfl, rfl, rfl, rfl⟩ := Hb
  go_wp2_with (first | ((with_reducible refine zD 4 rfl ?_); refine zn (N := 4) (cs := #[.bool false, .slice none 0 0, .int .i64 0]) (t := 25) rfl rfl ?_; intro g hg w1 hbox hb; have GE := zA (hg ▸ Nat.le_refl _ : w.heap.size ≤ g); have n0 := zA (below_step HB.out hb); have n1 := zA hbox; clear HB hb hbox hg; have HB := n0; have BK := n1; clear n0 n1) | ((with_reducible refine zG 109 rfl ?_); refine goesL_ (some 7) rfl rfl Tryd.func109 (by kernel_rfl) rfl #[sl, .func (.func 110) #[] #[]] rfl (by (try simp only [List.map_toArray, List.map_cons, List.map_nil]); first | done | rfl) ?_; refine (Hc.out _ HB.out).mono ?_; rintro e w5 ⟨rfl, hb⟩; refine ⟨_, rfl, ?_⟩; have n0 := zA (blk_below BK.out hb); have n1 := zA (below_step HB.out hb); clear HB hb BK; have HB := n1; have BK := n0; clear n0 n1; have hc0 := (blk_cell BK.out 0).trans rfl; have hf0 := blk_frozen BK.out 0; have hc1 := (blk_cell BK.out 1).trans rfl; have hf1 := blk_frozen BK.out 1; have hc2 := (blk_cell BK.out 2).trans rfl; have hf2 := blk_frozen BK.out 2))
  refine bodyPost_ret (results_ct rfl _ _ g 25 #[.bool false, .slice none 0 0, .int .i64 0] (0, 0) _ rfl (by refine blk_put (cs := #[.bool false, .slice none 0 0, .int .i64 0]) ?_ 2 _ rfl; refine blk_put (cs := #[.bool false, .slice none 0 0, .int .i64 0]) ?_ 1 _ rfl; refine blk_put (cs := #[.bool false, .slice none 0 0, .int .i64 0]) ?_ 0 _ rfl; exact BK.out) Tryd.underlying25 rfl (by kernel_rfl)) rfl ?_
  exact ⟨_, rfl, V_nil _ _ _ _ _, below_set (below_set (below_set HB.out GE.out) GE.out) GE.out⟩
 go_wp2_with (first | ((with_reducible refine zD 4 rfl ?_); refine zn (N := 4) (cs := #[.bool false, .slice none 0 0, .int .i64 0]) (t := 25) rfl rfl ?_; intro g hg w1 hbox hb; have GE := zA (hg ▸ Nat.le_refl _ : w.heap.size ≤ g); have n0 := zA (below_step HB.out hb); have n1 := zA hbox; clear HB hb hbox hg; have HB := n0; have BK := n1; clear n0 n1) | ((with_reducible refine zG 109 rfl ?_); refine goesL_ (some 7) rfl rfl Tryd.func109 (by kernel_rfl) rfl #[sl, .func (.func 110) #[] #[]] rfl (by (try simp only [List.map_toArray, List.map_cons, List.map_nil]); first | done | rfl) ?_; refine (Hc.out _ HB.out).mono ?_; rintro e w5 ⟨rfl, hb⟩; refine ⟨_, rfl, ?_⟩; have n0 := zA (blk_below BK.out hb); have n1 := zA (below_step HB.out hb); clear HB hb BK; have HB := n1; have BK := n0; clear n0 n1; have hc0 := (blk_cell BK.out 0).trans rfl; have hf0 := blk_frozen BK.out 0; have hc1 := (blk_cell BK.out 1).trans rfl; have hf1 := blk_frozen BK.out 1; have hc2 := (blk_cell BK.out 2).trans rfl; have hf2 := blk_frozen BK.out 2) | ((with_reducible refine zD 10 rfl ?_); refine goesV_ (some 10) rfl rfl first cap rfl rfl Hf.out hname hbody (first ++ cap) (by simp) ?_; refine (Hm.out rfl _ HB.out).mono ?_; rintro e w6 ⟨v6, rfl, hv, hb⟩; obtain ⟨A6, c6, rfl⟩ := V_slice hv; refine ⟨_, rfl, ?_⟩; have LT := zA (blk_lt BK.out); have HV := zA hv; have n0 := zA (blk_below BK.out hb); have n1 := zA (below_step HB.out hb); have LE := zA hb.size; clear HB hb BK hv; have HB := n1; have BK := n0; clear n0 n1) | ((with_reducible refine zG 111 rfl ?_); refine goesL_ (some 11) rfl rfl Tryd.func111 (by kernel_rfl) rfl #[.agg #[.bool s1, .slice A6 l1.length c6, .int .i64 e1]] rfl (by (try simp only [List.map_toArray, List.map_cons, List.map_nil]); first | done | rfl) ?_; refine (dyad_room.calls k s1 _ _ _ l1 e1 r1 r2 r3 r4 _ HV.out (Hroom.out rfl)).mono ?_; rintro e w7 ⟨v7, rfl, hv, hb⟩; obtain ⟨A7, c7, rfl⟩ := V_slice hv; refine ⟨_, rfl, ?_⟩; have HV7 := zA (V_mono hv (ok' := fun k_ => (ok k_ ∨ w.heap.size ≤ k_) ∧ k_ ≠ g) (fun k_ hk => by { have h1 := LT.out; have h2 := LE.out; have h3 := GE.out; rcases hk with (hk | hk) | hk; (exact ⟨.inl hk, fun e => by { subst e; exact absurd (hok _ hk) (Nat.not_lt.mpr h3) }⟩); (exact ⟨.inr (by omega), by omega⟩); (exact ⟨.inr (by omega), by omega⟩) })); have n0 := zA (blk_below BK.out hb); have n1 := zA (below_step HB.out hb); clear HB hb BK hv HV; have HB := n1; have BK := n0; clear n0 n1; have hc0 := (blk_cell BK.out 0).trans rfl; have hf0 := blk_frozen BK.out 0; have hc1 := (blk_cell BK.out 1).trans rfl; have hf1 := blk_frozen BK.out 1; have hc2 := (blk_cell BK.out 2).trans rfl; have hf2 := blk_frozen BK.out 2))
 refine bodyPost_ret (results_ct rfl _ _ g 25 #[.bool r1, .slice A7 r2.length c7, .int .i64 r3] (0, 0) _ rfl (by refine blk_put (cs := #[.bool r1, .slice A7 r2.length c7, .int .i64 0]) ?_ 2 _ rfl; refine blk_put (cs := #[.bool r1, .slice none 0 0, .int .i64 0]) ?_ 1 _ rfl; refine blk_put (cs := #[.bool false, .slice none 0 0, .int .i64 0]) ?_ 0 _ rfl; exact BK.out) Tryd.underlying25 rfl (by kernel_rfl)) rfl ?_
 exact ⟨_, rfl, V_mono (V_far (p := ⟨g, 2, none⟩) (V_far (p := ⟨g, 1, none⟩) (V_far (p := ⟨g, 0, none⟩) HV7.out (fun _ hk => hk.2) (.bool r1)) (fun _ hk => hk.2) (.slice A7 r2.length c7)) (fun _ hk => hk.2) (.int .i64 r3)) (fun _ hk => hk.1), below_set (below_set (below_set HB.out GE.out) GE.out) GE.out⟩
theorem hand_slice_event {P : Program} {ops : Array Oper} {rest : List Oper} {o : Oper} {a : Act} {Q : Exit → Act → World → Prop} {W : World} {n : Nat} (hgd : o.guard = none) {N : Tmp} (_hd : o.dst = some N) {cs : Array Value} {t : TypeId}
  (hrun : (execOp a.eval o).run P W = .ok (.value (.slice (some ⟨W.heap.size, 0, none⟩) n n)) (W.alloc (.cells cs t (0, 0))))
  (h : ∀ g, g = W.heap.size → ∀ w1, w1.heap[g]? = some (.cells cs t (0, 0)) → Below W.heap.size W w1 → wpList P ops Q rest (a.put o.dst (.slice (some ⟨g, 0, none⟩) n n)) w1) : wpList P ops Q (o :: rest) a W :=
 Kd.event_run hgd hrun (h _ rfl _ (blk_new W _) (below_alloc (Below.refl _ _) _))
theorem hand_V_of_C {w : World} {base : Nat} {A : Option Addr} {c : Nat} {l : List Int} (e : Nat) (hr : Kd.C (Kd.int .u64) w A l.length l) (hc : l.length ≤ c) : Kd.V (Kd.int .u64) e w base (fun _ => True) (.slice A l.length c) l :=
 V_mk hc (Kd.F_mono (C_F (Kd.heap_int _) hr) (fun _ _ => trivial))
def tzI (x : Int) : Int := IntKind.u64.wrap (bits BinOp.and IntKind.u64 x (IntKind.u64.wrap (-x)) * 285870213051353865) / 288230376151711744
def bits_TrailingZeros64.f (a0 : Int) : Option (Int) := if a0 = 0 then some 64 else if 0 ≤ tzI a0 then (if tzI a0 < 64 then some (tzTab.getD (tzI a0).toNat 0) else none) else none
theorem tzTab_bd : ∀ i : Nat, i < 64 → 0 ≤ tzTab.getD i 0 ∧ tzTab.getD i 0 < 64 := by decide
set_option maxHeartbeats 8000000 in
set_option maxRecDepth 100000 in
theorem bits_TrailingZeros64.calls (a0 : Int) (r : Int) (w : World) (hT : Laid w) (h : bits_TrailingZeros64.f a0 = some r) :
  Calls Tryd.prog 139 #[.int .u64 a0] w fun e w' => e = .returned (.int .i64 r) ∧ Drawn0 w w' := by
 unfold bits_TrailingZeros64.f at h
 by_cases c : a0 = 0
 ·rw [if_pos c] at h
  obtain rfl := Option.some.inj h
  subst c
  go_enter Tryd.func139, Tryd.ntmps139
  go_wp2
  go_ret
  exact ⟨rfl, Drawn0.refl _⟩
 rw [if_neg c] at h
 have c0 : (a0 == 0) = false := beq_eq_false_iff_ne.mpr c
 by_cases p : 0 ≤ tzI a0
 ·rw [if_pos p] at h
  by_cases q : tzI a0 < 64
  ·rw [if_pos q] at h
   have hc := hT (tzI a0).toNat (by omega)
   have hb := tzTab_bd (tzI a0).toNat (by omega)
   have hr := Option.some.inj h
   rw [hr] at hc hb
   have hb0 := hb.1
   have hb1 := hb.2
   clear h hr hb hT c
   unfold tzI at p q hc
   go_enter Tryd.func139, Tryd.ntmps139
   go_wp2
   go_ret
   exact ⟨by first | rfl | simp, Drawn0.refl _⟩
  rw [if_neg q] at h
  cases h
 rw [if_neg p] at h
 cases h
def limbs_Low.l0 : Nat → List Int → Int → Int → Option (Int)
 | 0, _, _, _ => none
 | k + 1, x5, x6, x7 => if x7 < x6 then (if 0 ≤ x7 then (if x7 < (x5.length : Int) then (if (rd x5 x7) = 0 then (limbs_Low.l0 k x5 x6 (wrap64 (x7 + 1))) else ((bits_TrailingZeros64.f (rd x5 x7)).bind fun t117 => (some (wrap64 ((wrap64 (64 * x7)) + t117))))) else (none)) else (none)) else (some 0)
def limbs_Low.f (k : Nat) (l0 : List Int) : Option (Int) := limbs_Low.l0 k l0 (l0.length : Int) 0
theorem limbs_Low.mono_l : ∀ k, (∀ y0 y1 y2, LeO (limbs_Low.l0 k y0 y1 y2) (limbs_Low.l0 (k + 1) y0 y1 y2))
 | 0 => fun _ _ _ r h => by simp [limbs_Low.l0] at h
 | k + 1 => by
  have ih0 := limbs_Low.mono_l k
  intro y0 y1 y2
  unfold limbs_Low.l0
  repeat' first
  | (with_reducible exact ih0 _ _ _)
  | (with_reducible exact LeO.refl _)
  | (with_reducible exact LeO.none _)
  | (with_reducible refine LeO.ite ?_ ?_)
  | (with_reducible refine LeO.bind ?_ (fun _ => ?_))
  | exact ih0 _ _ _
  | exact LeO.none _
  | refine LeO.ite ?_ ?_
  | refine LeO.bind ?_ (fun _ => ?_)
theorem limbs_Low.mono : ∀ a0 k, LeO (limbs_Low.f k a0) (limbs_Low.f (k + 1) a0) := by
 intro a0 k
 have ih0 := limbs_Low.mono_l k
 unfold limbs_Low.f
 repeat' first
   | (with_reducible exact ih0 _ _ _)
   | (with_reducible exact LeO.refl _)
   | (with_reducible exact LeO.none _)
   | (with_reducible refine LeO.ite ?_ ?_)
   | (with_reducible refine LeO.bind ?_ (fun _ => ?_))
   | exact ih0 _ _ _
   | exact LeO.none _
   | refine LeO.ite ?_ ?_
   | refine LeO.bind ?_ (fun _ => ?_)
set_option maxHeartbeats 8000000 in
set_option maxRecDepth 100000 in
theorem limbs_Low.calls (k : Nat) (A0 : Option Addr) (c0 : Nat) (l0 : List Int) (r : Int) (w : World) (hr0 : Kd.C (Kd.int .u64) w A0 l0.length l0) (hc0 : l0.length ≤ c0) (hT : Laid w) (h : limbs_Low.f k l0 = some r) :
  Calls Tryd.prog 129 #[.slice A0 l0.length c0] w fun e w' => e = .returned (.int .i64 r) ∧ Drawn0 w w' := by
 have HR0 := zA hr0
 have HC0 := zA hc0
 clear hr0 hc0
 have H : (limbs_Low.l0 k l0 (l0.length : Int) 0) = some r := h
 clear h
 have H' := zA H
 clear H
 go_enter Tryd.func129, Tryd.ntmps129
 go_wp2
 go_loopg [7] k (fun kq v7 w' => ∃ (x7_1 : Int), v7 = .int .i64 x7_1 ∧ Aside0 (limbs_Low.l0 kq l0 (l0.length : Int) x7_1 = some r) ∧ Aside0 (kq ≤ k) ∧ Drawn0 w w')
 case atStart => exact ⟨(0), zi, H', ⟨Nat.le_refl _⟩, by repeat (first | exact Drawn0.refl _ | apply Drawn0.step)⟩
 case round =>
  clear H'
  obtain ⟨x7_1, rfl, HA, HK1, ⟨m1, rfl⟩⟩ := hrel
  cases gk with
  | zero => exact absurd HA.out (by simp [limbs_Low.l0])
  | succ k1 =>
   have H := HA.out
   clear HA
   simp only [limbs_Low.l0] at H
   by_cases c2 : x7_1 < (l0.length : Int)
   ·rw [if_pos c2] at H
    have c2b0 := decide_eq_true c2
    clear c2
    replace H := dn H
    obtain ⟨c3, H⟩ := H
    have c3b0 := decide_eq_true c3
    clear c3
    replace H := dn H
    obtain ⟨c4, H⟩ := H
    have c4b0 := decide_eq_true c4
    clear c4
    by_cases c5 : (rd l0 x7_1) = 0
    ·rw [if_pos c5] at H
     have c5b0 := beq_iff_eq.mpr c5
     have c5b1 := bne_eq_false_iff_eq.mpr c5
     clear c5
     have H' := zA H
     clear H
     have p116 : 0 ≤ (x7_1 : Int) := od
     have q116 : x7_1 < (l0.length : Int) := od
     obtain ⟨ad116, e116, hx116_0⟩ := Kd.at_int HR0.out x7_1 p116 q116
     cases e116
     replace p116 := eq_true p116
     replace q116 := eq_true q116
     go_wp2
     go_roundg k1
     case measure => have := HK1.out; omega
     case rel => exact ⟨(wrap64 (x7_1 + 1)), zi, H', ⟨by have := HK1.out; omega⟩, by repeat (first | exact Drawn0.refl _ | apply Drawn0.step)⟩
    rw [if_neg c5] at H
    have c5b0 := beq_eq_false_iff_ne.mpr c5
    have c5b1 := bne_iff_ne.mpr c5
    obtain ⟨t117, A6, H⟩ := zh H
    obtain rfl := Option.some.inj H
    have p116 : 0 ≤ (x7_1 : Int) := od
    have q116 : x7_1 < (l0.length : Int) := od
    obtain ⟨ad116, e116, hx116_0⟩ := Kd.at_int HR0.out x7_1 p116 q116
    cases e116
    replace p116 := eq_true p116
    replace q116 := eq_true q116
    go_wp2_with (first | ((with_reducible refine zG 139 rfl ?_); refine zL (some 17) rfl rfl Tryd.func139 #[.int .u64 (rd l0 x7_1)] rfl ?_; (with_reducible refine (bits_TrailingZeros64.calls (rd l0 x7_1) t117 _ (by repeat (first | (with_reducible first | exact hT | apply laid_drewN | apply laid_drew) | exact hT)) A6.out).mono ?_); rintro e w' ⟨rfl, ⟨nd, rfl⟩⟩; refine ⟨_, rfl, ?_⟩))
    go_ret
    exact ⟨by first | rfl | (simp; done) | (simp [*]; done), by repeat (first | exact Drawn0.refl _ | apply Drawn0.step)⟩
   rw [if_neg c2] at H
   have c2b0 := decide_eq_false c2
   clear c2
   obtain rfl := Option.some.inj H
   go_wp2
   go_ret
   exact ⟨by first | rfl | (simp; done) | (simp [*]; done), by repeat (first | exact Drawn0.refl _ | apply Drawn0.step)⟩
end Go.Proofs.YtemfckibdojbbaaDoor.PAll
