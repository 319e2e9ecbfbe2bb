/- Printed functions, merged by a program of this session. -/
import Derived.Test.YtnjfckadjklmfaaDoorProg
import Derived.Below
import Derived.Deep.Draws
import Derived.Deep.AppendLies
import Derived.Maps.AppendAt
import Derived.OwnWalk
import Derived.Laws.BytesArg
import Derived.Laws.MakeOwn
import Derived.Laws.OwnMore
import Derived.Deep.OwnRows
import Derived.Tactics
import Derived.Lib.ConvBytes
import Derived.Laws.Slices
import Derived.WalkKit
import Derived.KernelRfl
import Derived.RowKit3
import Derived.Deep.LoopGhost
import Derived.Deep.QuietTactic
import Derived.BigQuiet
import Derived.WideLaws
import Derived.Deep.DeepCutAuto
import Derived.Deep.CutBlock
import Derived.Deep.RegionHeld3
import Derived.Laws.Rows
import Derived.Lib.AppendStr
import Derived.ArgAppend
import Derived.Laws.IdiomCopy
import Derived.OrdersHeld
import Derived.Laws.BitsLemmas
import Derived.RowKit
import Derived.Test.YtnjfckadjklmfaaDoorXRoundPointsWWords
import Derived.Test.YtnjfckadjklmfaaDoorXRoundPointsWLast
import Derived.Test.YtnjfckadjklmfaaDoorXRoundPointsWTab
import Derived.Test.YtnjfckadjklmfaaDoorXRoundPointsWApart
import Derived.Test.YtnjfckadjklmfaaDoorXRoundPointsWFoot
import Derived.Test.YtnjfckadjklmfaaDoorXRoundPointsWKept
import Derived.Test.YtnjfckadjklmfaaDoorXRoundPointsWShare
import Derived.Test.YtnjfckadjklmfaaDoorXRoundPointsWN
import Derived.Test.YtnjfckadjklmfaaDoorXRoundPointsWEqStruct
import Derived.Test.YtnjfckadjklmfaaDoorXRoundPointsWRepsOne
import Derived.Test.YtnjfckadjklmfaaDoorXRoundPointsWInv
import Derived.Test.YtnjfckadjklmfaaDoorXRoundPointsWGuard
import Derived.Test.YtnjfckadjklmfaaDoorXRoundPointsWMore
import Derived.Test.YtnjfckadjklmfaaDoorXRoundPointsSh
namespace Go.Proofs.YtnjfckadjklmfaaDoor.PAll
open Go.RowKit Go.Proofs.YtnjfckadjklmfaaDoorW.PrintWords Go.Proofs.YtnjfckadjklmfaaDoorW.PrintLast Go.Proofs.YtnjfckadjklmfaaDoorW.PrintMore Go.Proofs.YtnjfckadjklmfaaDoorW.PrintWords.Kd
attribute [local go_sem] max2_int min2_int max_two min_two max_three min_three max_four min_four   -- for this text's walks alone
set_option linter.unusedVariables false
set_option linter.unusedSimpArgs false
def errW : Option Int → Value
 | none => .nilIface
 | some c => .iface 0 (.int .i64 c)
theorem errW_none : errW none = .nilIface := rfl
theorem errW_some (c : Int) : errW (some c) = .iface 0 (.int .i64 c) := rfl
theorem info26 : (Tryd.prog.info? 26).map (fun i => (i.zero, i.size, i.bytes)) = some (some (.int .u64 0), 1, 8) := by kernel_rfl
theorem append_types {P : Program} {t t' e e' : TypeId} {ty : TypeId} {args : Array Value} {w : World} (ht : P.underlying t = some (.slice e)) (ht' : P.underlying t' = some (.slice e')) : (Builtin.append_ #[t, t'] ty args).run P w = (Builtin.append_ #[t, t] ty args).run P w := by
 unfold Builtin.append_
 cases h0 : args[0]? <;> cases h1 : args[1]? <;> simp only [List.getElem?_toArray, List.getElem?_cons_zero, List.getElem?_cons_succ, Sem.run_bind, run_underlying ht, Result.andThen_ok]
 rename_i s x
 cases s <;> try rfl
 dsimp only;simp only [Sem.run_bind, run_underlying ht, run_underlying ht', Result.andThen_ok, Sem.run_pure]
namespace Kd
open Go.Proofs.YtnjfckadjklmfaaDoorW.PrintWords.Kd
section
variable {P : Program} {ops : Array Oper} {rest : List Oper} {o : Oper} {a : Act} {Q : Exit → Act → World → Prop} {α : Type}
theorem R_append_rows2 (d : Kd α) {Rr : α → List Value → Prop} {w0 W : World} (base : Nat) (hgd : o.guard = none) (s x : Operand) (t t' e : TypeId) (z : Value) (bytes : Nat)
  (ho : o.op = .call { callee := .builtin .append, args := #[s, x], argTypes := #[t, t'] })
  (ht : P.underlying t = some (.slice e)) (ht' : P.underlying t' = some (.slice e)) (hinfo : (P.info? e).map (fun i => (i.zero, i.size, i.bytes)) = some (some z, d.sz, bytes)) (hz : z.cells.size = d.sz) (hs0 : 0 < d.sz) (hb0 : 0 < bytes)
  (v : Value) (xs ys : List α) (A : Option Addr) (m c : Nat) (ok okp : Nat → Prop) (hs : a.eval s = v) (hx : a.eval x = .slice A m c)
  (HO : d.R e W base ok v xs) (HR : ReadsRow Rr d.sz W A m ys) (hKM : ∀ x cs, Rr x cs → d.M W base okp x cs) (hokp : ∀ k, okp k → ok k ∧ some k ≠ v.ownBlock) (hfresh : ∀ k, W.heap.size ≤ k → ok k)
  (HB : Below base w0 W) (hbase : base ≤ W.heap.size) (hl : (xs.length + m) * bytes ≤ 140737488355328)
  (h : ∀ v1 w1, d.R e w1 base ok v1 (xs ++ ys) → Below base w0 w1 → W.grownBy w1 v.ownBlock → (v1.ownBlock = v.ownBlock ∨ ∃ b, v1.ownBlock = some b ∧ W.heap.size ≤ b) → wpList P ops Q rest (a.put o.dst v1) w1) :
  wpList P ops Q (o :: rest) a W := by
 obtain ⟨i0, hi, hzz⟩ := Option.map_eq_some_iff.1 hinfo;simp only [Prod.mk.injEq] at hzz;obtain ⟨hz0, hz1, hz2⟩ := hzz;have hm : ys.length = m := HR.1;have hlen : xs.length + m ≤ 140737488355328 := Nat.le_trans (Nat.le_mul_of_pos_right _ hb0) hl;obtain ⟨hok, inner, hown, hr⟩ := HO
 have hrun : ∃ v1 w1, (Builtin.append_ #[t, t] o.type #[v, .slice A m c]).run P W = .ok v1 w1 ∧ d.R e w1 base ok v1 (xs ++ ys) ∧ W.grownBy w1 v.ownBlock ∧ (v1.ownBlock = v.ownBlock ∨ ∃ b, v1.ownBlock = some b ∧ W.heap.size ≤ b) := by
  rcases A with _ | ad
  ·have h0 : m = 0 := by
    rcases Nat.eq_zero_or_pos m with h0 | h0
    ·exact h0
    obtain ⟨ad, h, _⟩ := HR.2.2 h0;cases h
   subst h0;obtain rfl : ys = [] := List.eq_nil_of_length_eq_zero hm;refine ⟨v, W, ?_, by rw [List.append_nil]; exact ⟨hok, inner, hown, hr⟩, World.grownBy.refl W _, .inl rfl⟩
   rcases hown.2 with ⟨rfl, hn⟩ | ⟨g, cap, cur, rfl, _, _, hnc, _⟩
   ·simp [Builtin.append_, run_underlying ht, sizeOf, typeInfo, hi, Builtin.lenOf, Builtin.firstCells]
   simp [Builtin.append_, run_underlying ht, sizeOf, typeInfo, hi, Builtin.lenOf, Builtin.firstCells, hnc, storeCells]
  obtain ⟨news, hnr, hnc⟩ := ReadsRow.inner_ HR;have hnM : Reps (d.M W base okp) d.sz ys news := hnr.imp_ (fun p c hp => hKM p c hp)
  have hone : ∀ u ∈ news, u.oneCell' = true := by
   intro u hu;obtain ⟨q, hq, rfl⟩ := List.mem_iff_getElem.1 hu
   have hql : q / d.sz < ys.length := by
    rw [Nat.div_lt_iff_lt_mul hs0];rw [← hnM.1];exact hq
   have hc := hnM.2 (q / d.sz) _ (List.getElem?_eq_getElem hql);refine d.K_one (d.K_of_M hc) _ ?_;rw [List.mem_iff_getElem?];refine ⟨q % d.sz, ?_⟩;rw [List.getElem?_take, if_pos (Nat.mod_lt _ hs0), List.getElem?_drop, Nat.mul_comm, Nat.div_add_mod, List.getElem?_eq_getElem hq]
  obtain ⟨v1, w1, hrun, h2, hg, _, hat⟩ := run_append_own_at (P := P) W base t o.type e i0 z d.sz bytes ht hi hz0 hz1 hz2 hz hs0 v xs.length inner hown ad m c news (by rw [hnM.1, hm]) hnc hone (by simp only [maxLen]; omega) hl hbase
  have hat' : v1.ownBlock = v.ownBlock ∨ ∃ b, v1.ownBlock = some b ∧ W.heap.size ≤ b := by
   rcases hat with hat | hat
   ·exact .inl hat
   exact .inr ⟨_, hat, Nat.le_refl _⟩
  have hne : ∀ k, some k ≠ v.ownBlock → k < W.heap.size → some k ≠ v1.ownBlock := by
   intro k hk hlt
   rcases hat' with hat | ⟨b, hb, hle⟩
   ·rw [hat]; exact hk
   rw [hb];intro he
   injection he with he
   omega
  have step : ∀ {q : α} {c : List Value} {o : Nat → Prop}, d.M W base o q c → (∀ k, o k → ok k ∧ some k ≠ v.ownBlock) → d.M w1 base (fun k => ok k ∧ some k ≠ v1.ownBlock) q c := by
   intro q c o hq ho;have h1 := d.M_move (w1 := w1) (fun k hk => hg.block k hk.2.2.1 (ho k hk.1).2) (d.M_bound hq);exact d.M_mono (fun k hk => ⟨(ho k hk.1).1, hne k (ho k hk.1).2 hk.2.2.1⟩) h1
  refine ⟨v1, w1, hrun, ⟨fun k hk => ?_, inner ++ news, by rw [List.length_append, hm]; exact h2, reps_append (hr.imp_ (fun _ _ hq => step hq (fun _ hk => hk))) (hnM.imp_ (fun _ _ hq => step hq hokp))⟩, hg, hat'⟩
  rcases hat' with hat | ⟨b, hb, hle⟩
  ·exact hok k (hat ▸ hk)
  rw [hb] at hk
  injection hk with hk
  exact hfresh k (by omega)
 obtain ⟨v1, w1, hr1, h1, hg, hat⟩ := hrun
 refine wpList_plain hgd fun K hK => ?_
 unfold Oper.wp execOp
 simp only [ho, resolve, invoke, builtin, Sem.run_bind, Sem.run_pure, Result.andThen_ok, List.map_toArray, List.map_cons, List.map_nil, hs, hx, append_types ht ht', hr1];exact hK _ _ (h v1 w1 h1 (HB.grown hg hbase (own_base hown)) hg hat)
end
end Kd
/-- The table of math/bits.TrailingZeros64. -/
def tzTab : List Int := [0, 1, 56, 2, 57, 49, 28, 3, 61, 58, 42, 50, 38, 29, 17, 4, 62, 47, 59, 36, 45, 43, 51, 22, 53, 39, 33, 30, 24, 18, 12, 5, 63, 55, 48, 27, 60, 41, 37, 16, 46, 35, 44, 21, 52, 32, 23, 11, 54, 26, 40, 15, 34, 20, 31, 10, 25, 14, 19, 9, 13, 8, 7, 6]
/-- The table lies in memory as the program's text lays it. -/
def Laid (w : World) : Prop := ∀ i : Nat, i < 64 → w.cell? ⟨0, i, none⟩ = some (.int .u8 (tzTab.getD i 0))
theorem laid_drewN {w : World} (h : Laid w) (n : Nat) : Laid (w.drewN n) := fun i hi => by
 have := h i hi
 simpa using this
theorem laid_drew {w : World} (h : Laid w) : Laid w.drew := fun i hi => by
 have := h i hi
 simpa using this
theorem laid_below {w w' : World} (h : Laid w) (hb : Below w.heap.size w w') : Laid w' := fun i hi => by
 have h0 := h i hi;rw [hb.cell (p := ⟨0, i, none⟩) (World.block_lt_of_cell? w ⟨0, i, none⟩ h0)];exact h0
def add64s (x y c : Int) : Int := ((x.toNat + y.toNat + c.toNat) % 18446744073709551616 : Nat)
def add64c (x y c : Int) : Int := ((x.toNat + y.toNat + c.toNat) / 18446744073709551616 : Nat)
def sub64s (x y c : Int) : Int := ((x.toNat + 18446744073709551616 - y.toNat - c.toNat) % 18446744073709551616 : Nat)
def sub64c (x y c : Int) : Int := if x.toNat < y.toNat + c.toNat then 1 else 0
def sub64Entry : Array Value → Sem Value := fun args => do
 let (x, y, b) ← Extern.MathBitsCarry.three "Sub64" args
 pure (Extern.MathBitsCarry.pair ((x + Extern.MathBitsCarry.m64 - y - b) % Extern.MathBitsCarry.m64) (if x < y + b then 1 else 0))
theorem carry_nat {c : Int} (h : decide (c ≤ 1) = true) : c.toNat = 0 ∨ c.toNat = 1 := by
 have h' := of_decide_eq_true h
 omega
theorem add64_run {P : Program} (x y c : Int) (h : decide (c ≤ 1) = true) (w : World) : (add64Entry #[.int .u64 x, .int .u64 y, .int .u64 c]).run P w = .ok (.tuple #[.int .u64 (add64s x y c), .int .u64 (add64c x y c)]) w := by
 have key : ∀ k : Nat, k = 0 ∨ k = 1 → c.toNat = k → (add64Entry #[.int .u64 x, .int .u64 y, .int .u64 c]).run P w = .ok (Extern.MathBitsCarry.pair ((x.toNat + y.toNat + k) % Extern.MathBitsCarry.m64) ((x.toNat + y.toNat + k) / Extern.MathBitsCarry.m64)) w := by
  intro k hk hc
  rcases hk with rfl | rfl
  ·cases c with
   | ofNat n => cases hc; rfl
   | negSucc m => rfl
  cases c with
  | ofNat n => cases hc; rfl
  | negSucc m => cases hc
 rw [key _ (carry_nat h) rfl]; rfl
theorem sub64_run {P : Program} (x y c : Int) (h : decide (c ≤ 1) = true) (w : World) : (sub64Entry #[.int .u64 x, .int .u64 y, .int .u64 c]).run P w = .ok (.tuple #[.int .u64 (sub64s x y c), .int .u64 (sub64c x y c)]) w := by
 have key : ∀ k : Nat, k = 0 ∨ k = 1 → c.toNat = k → (sub64Entry #[.int .u64 x, .int .u64 y, .int .u64 c]).run P w = .ok (Extern.MathBitsCarry.pair ((x.toNat + Extern.MathBitsCarry.m64 - y.toNat - k) % Extern.MathBitsCarry.m64) (if x.toNat < y.toNat + k then 1 else 0)) w := by
  intro k hk hc
  rcases hk with rfl | rfl
  ·cases c with
   | ofNat n => cases hc; rfl
   | negSucc m => rfl
  cases c with
  | ofNat n => cases hc; rfl
  | negSucc m => cases hc
 rw [key _ (carry_nat h) rfl]
 unfold Extern.MathBitsCarry.pair sub64s sub64c Extern.MathBitsCarry.m64
 split <;> rfl
theorem ext118 (x y c : Int) (h : decide (c ≤ 1) = true) (w : World) : (callFunc 118 #[.int .u64 x, .int .u64 y, .int .u64 c]).run Tryd.prog w = .ok (.value (.tuple #[.int .u64 (add64s x y c), .int .u64 (add64c x y c)])) w := by
 rw [run_callFunc_extern (e := add64Entry) Tryd.func118 (by kernel_rfl) (by kernel_rfl) (by kernel_rfl) (by kernel_rfl)];rw [add64_run x y c h w]; rfl
theorem ext119 (x y c : Int) (h : decide (c ≤ 1) = true) (w : World) : (callFunc 119 #[.int .u64 x, .int .u64 y, .int .u64 c]).run Tryd.prog w = .ok (.value (.tuple #[.int .u64 (sub64s x y c), .int .u64 (sub64c x y c)])) w := by
 rw [run_callFunc_extern (e := sub64Entry) Tryd.func119 (by kernel_rfl) (by kernel_rfl) (by kernel_rfl) (by kernel_rfl)];rw [sub64_run x y c h w]; rfl
theorem fld75_0 (v0 v1 v2 : Value) (w : World) : (Instr.field 75 (.agg #[v0, v1, v2]) 0).run Tryd.prog w = .ok (v0) w := by kernel_rfl
theorem fld75_1 (v0 v1 v2 : Value) (w : World) : (Instr.field 75 (.agg #[v0, v1, v2]) 1).run Tryd.prog w = .ok (v1) w := by kernel_rfl
theorem fld75_2 (v0 v1 v2 : Value) (w : World) : (Instr.field 75 (.agg #[v0, v1, v2]) 2).run Tryd.prog w = .ok (v2) w := by kernel_rfl
attribute [local go_sem] fld75_0 fld75_1 fld75_2 ext118 ext119
def limbs_Trim.l0 : Nat → List Int → Int → Option (List Int)
 | 0, _, _ => none
 | k + 1, x0, x3 => if x3 > 0 then (if 0 ≤ (wrap64 (x3 - 1)) then (if (wrap64 (x3 - 1)) < (x0.length : Int) then (if (rd x0 (wrap64 (x3 - 1))) = 0 then (limbs_Trim.l0 k x0 (wrap64 (x3 - 1))) else (if 0 ≤ x3 then (if x3 ≤ (x0.length : Int) then (some (x0.take (x3 : Int).toNat)) else (none)) else (none))) else (none)) else (none)) else (if 0 ≤ x3 then (if x3 ≤ (x0.length : Int) then (some (x0.take (x3 : Int).toNat)) else (none)) else (none))
def limbs_Trim.f (k : Nat) (l0 : List Int) : Option (List Int) := limbs_Trim.l0 k l0 (l0.length : Int)
theorem limbs_Trim.mono_l : ∀ k, (∀ y0 y1, LeO (limbs_Trim.l0 k y0 y1) (limbs_Trim.l0 (k + 1) y0 y1))
 | 0 => fun _ _ r h => by simp [limbs_Trim.l0] at h
 | k + 1 => by
  have ih0 := limbs_Trim.mono_l k;intro y0 y1
  unfold limbs_Trim.l0
  repeat' first
  | (with_reducible exact ih0 _ _)
  | (with_reducible exact LeO.refl _)
  | (with_reducible exact LeO.none _)
  | (with_reducible refine LeO.ite ?_ ?_)
  | (with_reducible refine LeO.bind ?_ (fun _ => ?_))
  | exact ih0 _ _
  | exact LeO.none _
  | refine LeO.ite ?_ ?_
  | refine LeO.bind ?_ (fun _ => ?_)
theorem limbs_Trim.mono : ∀ a0 k, LeO (limbs_Trim.f k a0) (limbs_Trim.f (k + 1) a0) := by
 intro a0 k;have ih0 := limbs_Trim.mono_l k
 unfold limbs_Trim.f
 repeat' first
   | (with_reducible exact ih0 _ _)
   | (with_reducible exact LeO.refl _)
   | (with_reducible exact LeO.none _)
   | (with_reducible refine LeO.ite ?_ ?_)
   | (with_reducible refine LeO.bind ?_ (fun _ => ?_))
   | exact ih0 _ _
   | exact LeO.none _
   | refine LeO.ite ?_ ?_
   | refine LeO.bind ?_ (fun _ => ?_)
theorem cut_to3 {P : Program} (t e : TypeId) (kh km : IntKind) {i : TypeInfo} (ht : P.underlying t = some (.slice e)) (hi : P.info? e = some i) (A : Option Addr) (n c : Nat) (j : Int) (h0 : 0 ≤ j) (hm : j ≤ n) (hc : n ≤ c) :
  ∀ W : World, (Instr.slice t (.slice A n c) none (some (.int kh j)) (some (.int km j))).run P W = .ok (.slice A j.toNat j.toNat) W := by
 intro W;obtain ⟨m, rfl⟩ := Int.eq_ofNat_of_zero_le h0
 have hb : ∀ (k : IntKind) (y : Nat) (code : BoundsCode) (w : World), m ≤ y → (Instr.sliceBound (.int k (m : Int)) y code).run P w = .ok m w := by
  intro k y code w hy
  have : (m : Int) ≤ (y : Int) := by omega
  simp [Instr.sliceBound, asIntOf, this]
 simp [Instr.slice, run_underlying ht, Instr.sliceBounds, hb _ c _ _ (by omega), hb _ m _ _ (Nat.le_refl m), sizeOf, typeInfo, hi, Result.andThen]
 cases A <;> simp [Addr.add]
set_option maxHeartbeats 8000000 in
set_option maxRecDepth 100000 in
theorem limbs_Trim.calls (k : Nat) (P0_ : Nat → Prop) (A0 : Option Addr) (c0 : Nat) (l0 : List Int) (r : List Int) (w : World) (hs0 : Kd.V (Kd.int .u64) 26 w w.heap.size (fun k_ => P0_ k_) (.slice A0 l0.length c0) l0) (h : limbs_Trim.f k l0 = some r) :
  Calls Tryd.prog 84 #[.slice A0 l0.length c0] w fun e w' => ∃ v0_ : Value, e = .returned (v0_) ∧ Kd.V (Kd.int .u64) 26 w' w.heap.size (fun k_ => (P0_ k_ ∨ w.heap.size ≤ k_)) v0_ r ∧ Below w.heap.size w w' := by
 have aj := zA (show Kd.V (Kd.int .u64) 26 w w.heap.size (fun k_ => (P0_ k_ ∨ w.heap.size ≤ k_)) (.slice A0 l0.length c0) l0 from V_mono hs0 (fun k_ hk => .inl hk));have HB := zA (Below.refl w.heap.size w);have H : (limbs_Trim.l0 k l0 (l0.length : Int)) = some r := h;clear h;have H' := zA H;clear H;go_enter Tryd.func84, Tryd.ntmps84
 go_wp2
 go_loopg [3] k (fun kq v3 w' => ∃ (a1 : Int), v3 = .int .i64 a1 ∧ Aside0 (limbs_Trim.l0 kq l0 a1 = some r) ∧ Aside0 (kq ≤ k) ∧ Aside0 (Kd.V (Kd.int .u64) 26 w' w.heap.size (fun k_ => (P0_ k_ ∨ w.heap.size ≤ k_)) (.slice A0 l0.length c0) l0) ∧ Aside0 (Below w.heap.size w w'))
 case atStart => exact ⟨((l0.length : Int)), zi, H', ⟨Nat.le_refl _⟩, ⟨vu aj.out⟩, ⟨bq⟩⟩
 case round =>
  clear H';obtain ⟨a1, rfl, HA, HK1, a3, HB⟩ := hrel
  cases gk with
  | zero => exact absurd HA.out (by simp [limbs_Trim.l0])
  | succ k1 =>
   have H := HA.out;clear HA;simp only [limbs_Trim.l0] at H
   by_cases c2 : a1 > 0
   ·rw [if_pos c2] at H;have ag := decide_eq_true c2;clear c2;obtain ⟨a2, a6⟩ : ∃ j_ : Int, (wrap64 (a1 - 1)) = j_ := ⟨_, rfl⟩;replace H : (if 0 ≤ (a2) then (if (a2) < (l0.length : Int) then (if (rd l0 (a2)) = 0 then (limbs_Trim.l0 k1 l0 a2) else (if 0 ≤ a1 then (if a1 ≤ (l0.length : Int) then (some (l0.take (a1 : Int).toNat)) else (none)) else (none))) else (none)) else (none)) = some r := zQ a6 H;have hji3w : (IntKind.i64.wrap (a1 - 1)) = a2 := (i64_w _).trans a6;replace H := dn H;obtain ⟨c4, H⟩ := H;have aq := decide_eq_true c4;clear c4;replace H := dn H;obtain ⟨c5, H⟩ := H;have ar := decide_eq_true c5;clear c5
    by_cases c6 : (rd l0 (a2)) = 0
    ·rw [if_pos c6] at H;have ah := beq_iff_eq.mpr c6;have ai := bne_eq_false_iff_eq.mpr c6;clear c6;have H' := zA H;clear H;have p101 : 0 ≤ ((a2) : Int) := od;have q101 : (a2) < (l0.length : Int) := od;obtain ⟨ad101, e101, ac⟩ := Kd.at_int (V_reads' a3.out).2.2 (a2) p101 q101;cases e101;replace p101 := eq_true p101;replace q101 := eq_true q101
     go_wp2
     go_roundg k1
     case measure => have := HK1.out; omega
     case rel => exact ⟨(a2), (by first | rfl | (simp; done) | (simp only [← a6] <;> (first | rfl | simp)) | (simp [*]; done)), (by first | exact H' | (simp only [a6]; exact H') | (simp only [a6] at H' ⊢; exact H')), ⟨by have := HK1.out; omega⟩, ⟨vu a3.out⟩, ⟨bq⟩⟩
    rw [if_neg c6] at H;have ah := beq_eq_false_iff_ne.mpr c6;have ai := bne_iff_ne.mpr c6;replace H := dn H;obtain ⟨c7, H⟩ := H;have au := eq_true c7;have av := decide_eq_true c7;clear c7;replace H := dn H;obtain ⟨c8, H⟩ := H;have aw := eq_true c8;have ax := decide_eq_true c8;clear c8;obtain ⟨a4, a7⟩ : ∃ y_ : List Int, y_ = (l0.take (a1 : Int).toNat) := ⟨_, rfl⟩;replace H : (some a4) = some r := zR a7 H;have aa := zA a7;clear a7;obtain rfl := Option.some.inj H;have p101 : 0 ≤ ((a2) : Int) := od;have q101 : (a2) < (l0.length : Int) := od;obtain ⟨ad101, e101, ac⟩ := Kd.at_int (V_reads' a3.out).2.2 (a2) p101 q101;cases e101;replace p101 := eq_true p101;replace q101 := eq_true q101;have q9 : (a1 : Int) ≤ ((l0.length : Int) : Int) := od;obtain ⟨i09, hi09, _, hsz9, _⟩ := info_parts info26;have hroom9 : l0.length ≤ c0 := (V_reads' a3.out).2.1;have hC9 : Kd.F (Kd.int .u64) _ _ (some ad101) l0.length l0 := (V_at (base := w.heap.size) a3.out).2.2;have hcut9 := cut_to3 (P := Tryd.prog) 22 26 .i64 .i64 Tryd.underlying22 hi09 (some ad101) l0.length c0 a1 (od) q9 hroom9;have hr9 := Kd.F_take (m := (a1 : Int).toNat) hC9 (by omega);have ad : a4.length = (a1 : Int).toNat := (by rw [aa.out, List.length_take]; omega);rw [← aa.out] at hr9;rw [← ad] at hcut9;have ae := zA (show Kd.V (Kd.int .u64) 26 _ w.heap.size _ (.slice (some ad101) a4.length a4.length) a4 from V_mk (Nat.le_refl _) hr9);have ak := zA (show a4.length ≤ a4.length from Nat.le_refl _);clear hr9 hC9 hroom9 hi09 hsz9;have KY9 := zA ad;clear ad;replace q9 := eq_true q9
    go_wp2
    go_ret;exact ⟨_, by first | rfl | (simp [errW_none, errW_some] <;> rfl) | (simp only [← a6]; first | rfl | (simp [errW_none, errW_some] <;> rfl)) | (simp [*, errW_none, errW_some] <;> rfl), vu ae.out, bq⟩
   rw [if_neg c2] at H;have ag := decide_eq_false c2;clear c2;replace H := dn H;obtain ⟨c10, H⟩ := H;have al := eq_true c10;have am := decide_eq_true c10;clear c10;replace H := dn H;obtain ⟨c11, H⟩ := H;have an := eq_true c11;have ao := decide_eq_true c11;clear c11;obtain ⟨a5, a8⟩ : ∃ y_ : List Int, y_ = (l0.take (a1 : Int).toNat) := ⟨_, rfl⟩;replace H : (some a5) = some r := zR a8 H;have ab := zA a8;clear a8;obtain rfl := Option.some.inj H;have q12 : (a1 : Int) ≤ ((l0.length : Int) : Int) := od;obtain ⟨i012, hi012, _, hsz12, _⟩ := info_parts info26;have hroom12 : l0.length ≤ c0 := (V_reads' a3.out).2.1;have hC12 : Kd.F (Kd.int .u64) _ _ A0 l0.length l0 := (V_at (base := w.heap.size) a3.out).2.2;have hcut12 := cut_to3 (P := Tryd.prog) 22 26 .i64 .i64 Tryd.underlying22 hi012 A0 l0.length c0 a1 (od) q12 hroom12;have hr12 := Kd.F_take (m := (a1 : Int).toNat) hC12 (by omega);have a9 : a5.length = (a1 : Int).toNat := (by rw [ab.out, List.length_take]; omega);rw [← ab.out] at hr12;rw [← a9] at hcut12;have af := zA (show Kd.V (Kd.int .u64) 26 _ w.heap.size _ (.slice A0 a5.length a5.length) a5 from V_mk (Nat.le_refl _) hr12);have ap := zA (show a5.length ≤ a5.length from Nat.le_refl _);clear hr12 hC12 hroom12 hi012 hsz12;have KY12 := zA a9;clear a9;replace q12 := eq_true q12
   go_wp2
   go_ret;exact ⟨_, er, vu af.out, bq⟩
def raw_Fits.f (k : Nat) (a4 : Bool) (a2 : List Int) (a1 : Int) : Option (Bool) := (limbs_Trim.f k a2).bind fun a3 => (if (a3.length : Int) ≤ 1024 then (if a1 ≥ (-32768) then (some (decide (a1 ≤ 32768))) else (some false)) else (some false))
theorem raw_Fits.mono : ∀ a0 a1 a2 k, LeO (raw_Fits.f k a0 a1 a2) (raw_Fits.f (k + 1) a0 a1 a2) := by
 intro a0 a1 a2 k
 unfold raw_Fits.f
 repeat' first
   | (with_reducible exact limbs_Trim.mono _ _)
   | (with_reducible exact LeO.refl _)
   | (with_reducible exact LeO.none _)
   | (with_reducible refine LeO.ite ?_ ?_)
   | (with_reducible refine LeO.bind ?_ (fun _ => ?_))
   | exact limbs_Trim.mono _ _
   | exact LeO.none _
   | refine LeO.ite ?_ ?_
   | refine LeO.bind ?_ (fun _ => ?_)
set_option maxHeartbeats 8000000 in
set_option maxRecDepth 100000 in
theorem raw_Fits.calls (k : Nat) (ac : Bool) (a3 : Option Addr) (a4 : Nat) (a2 : List Int) (a5 : Int) (r : Bool) (w : World) (af : Kd.C (Kd.int .u64) w a3 a2.length a2) (ag : a2.length ≤ a4) (h : raw_Fits.f k ac a2 a5 = some r) :
  Calls Tryd.prog 63 #[.agg #[.bool ac, .slice a3 a2.length a4, .int .i64 a5]] w fun e w' => e = .returned (.bool r) ∧ Below w.heap.size w w' := by
 have hu25 := Tryd.underlying25;have ad := zA af;have ae := zA ag;clear af ag;have HB := zA (Below.refl w.heap.size w);have H : ((limbs_Trim.f k a2).bind fun a6 => (if (a6.length : Int) ≤ 1024 then (if a5 ≥ (-32768) then (some (decide (a5 ≤ 32768))) else (some false)) else (some false))) = some r := h;clear h;obtain ⟨a6, A2, H⟩ := zh H
 by_cases c3 : (a6.length : Int) ≤ 1024
 ·rw [if_pos c3] at H;have ah := decide_eq_true c3;have ai : decide (a6.length ≤ 1024) = true := decide_eq_true (by omega);clear c3
  by_cases c4 : a5 ≥ (-32768)
  ·rw [if_pos c4] at H;have aj := decide_eq_true c4;clear c4;obtain rfl := Option.some.inj H;go_enter Tryd.func63, Tryd.ntmps63
   go_wp2_with (first | ((with_reducible refine zD 1 rfl ?_); refine zn (N := 1) (cs := #[.bool ac, .slice a3 a2.length a4, .int .i64 a5]) (t := 25) rfl rfl ?_; intro a7 hg w5 hbox hb; have a1 := zA (hbox); have a8 := zw hg; replace HB := ze hb; clear hb hbox hg; obtain ⟨_, _, _, _, _, _⟩ := zc a1) | ((with_reducible refine zG 84 rfl ?_); refine zL (some 5) rfl rfl Tryd.func84 #[.slice a3 a2.length a4] rfl ?_; (with_reducible refine (limbs_Trim.calls k (fun k_ => k_ < w.heap.size) _ _ a2 a6 _ ?a9 A2.out).mono ?_); (case a9 => exact V_mk ae.out (Kd.F_below (C_F (Kd.heap_int .u64) ad.out) zs)); rintro e w7 ⟨v114, rfl, ab, hb⟩; refine ⟨_, rfl, ?_⟩; have aa := zA (V_lower (V_mono (ok' := fun k_ => k_ ≠ a7) ab (fun k_ hk_ => Or.elim hk_ (fun hs_ => fun e_ => Nat.not_le.2 hs_ (by rw [e_]; exact a8.out)) (fun hn_ => (zj a1 k_ hn_)))) (below_size zs)); replace a1 := zb a1 hb; replace HB := zf hb; (try clear ab); obtain ⟨aG, aH, au⟩ := V_slice aa.out; subst au; obtain ⟨av, aw, ax, ay, aA, aB⟩ := zc a1))
   go_ret;exact ⟨er, zs⟩
  rw [if_neg c4] at H;have aj := decide_eq_false c4;clear c4;obtain rfl := Option.some.inj H;go_enter Tryd.func63, Tryd.ntmps63
  go_wp2_with (first | ((with_reducible refine zD 1 rfl ?_); refine zn (N := 1) (cs := #[.bool ac, .slice a3 a2.length a4, .int .i64 a5]) (t := 25) rfl rfl ?_; intro a7 hg w10 hbox hb; have a1 := zA (hbox); have a8 := zw hg; replace HB := ze hb; clear hb hbox hg; obtain ⟨_, _, _, _, _, _⟩ := zc a1) | ((with_reducible refine zG 84 rfl ?_); refine zL (some 5) rfl rfl Tryd.func84 #[.slice a3 a2.length a4] rfl ?_; (with_reducible refine (limbs_Trim.calls k (fun k_ => k_ < w.heap.size) _ _ a2 a6 _ ?a9 A2.out).mono ?_); (case a9 => exact V_mk ae.out (Kd.F_below (C_F (Kd.heap_int .u64) ad.out) zs)); rintro e w12 ⟨v114, rfl, ab, hb⟩; refine ⟨_, rfl, ?_⟩; have aa := zA (V_lower (V_mono (ok' := fun k_ => k_ ≠ a7) ab (fun k_ hk_ => Or.elim hk_ (fun hs_ => fun e_ => Nat.not_le.2 hs_ (by rw [e_]; exact a8.out)) (fun hn_ => (zj a1 k_ hn_)))) (below_size zs)); replace a1 := zb a1 hb; replace HB := zf hb; (try clear ab); obtain ⟨aC, aD, ak⟩ := V_slice aa.out; subst ak; obtain ⟨am, an, ao, ap, aq, ar⟩ := zc a1))
  go_ret;exact ⟨er, zs⟩
 rw [if_neg c3] at H;have ah := decide_eq_false c3;have ai : decide (a6.length ≤ 1024) = false := decide_eq_false (by omega);clear c3;obtain rfl := Option.some.inj H;go_enter Tryd.func63, Tryd.ntmps63
 go_wp2_with (first | ((with_reducible refine zD 1 rfl ?_); refine zn (N := 1) (cs := #[.bool ac, .slice a3 a2.length a4, .int .i64 a5]) (t := 25) rfl rfl ?_; intro a7 hg w15 hbox hb; have a1 := zA (hbox); have a8 := zw hg; replace HB := ze hb; clear hb hbox hg; obtain ⟨_, _, _, _, _, _⟩ := zc a1) | ((with_reducible refine zG 84 rfl ?_); refine zL (some 5) rfl rfl Tryd.func84 #[.slice a3 a2.length a4] rfl ?_; (with_reducible refine (limbs_Trim.calls k (fun k_ => k_ < w.heap.size) _ _ a2 a6 _ ?a9 A2.out).mono ?_); (case a9 => exact V_mk ae.out (Kd.F_below (C_F (Kd.heap_int .u64) ad.out) zs)); rintro e w17 ⟨v114, rfl, ab, hb⟩; refine ⟨_, rfl, ?_⟩; have aa := zA (V_lower (V_mono (ok' := fun k_ => k_ ≠ a7) ab (fun k_ hk_ => Or.elim hk_ (fun hs_ => fun e_ => Nat.not_le.2 hs_ (by rw [e_]; exact a8.out)) (fun hn_ => (zj a1 k_ hn_)))) (below_size zs)); replace a1 := zb a1 hb; replace HB := zf hb; (try clear ab); obtain ⟨aE, aF, al⟩ := V_slice aa.out; subst al))
 go_ret;exact ⟨er, zs⟩
def dyad_number_right.f (k : Nat) (a1 : Bool) (a2 : List Int) (a3 : Int) : Option (Bool) := (raw_Fits.f k a1 a2 a3).bind fun a4 => (some a4)
theorem dyad_number_right.mono : ∀ a0 a1 a2 k, LeO (dyad_number_right.f k a0 a1 a2) (dyad_number_right.f (k + 1) a0 a1 a2) := by
 intro a0 a1 a2 k
 unfold dyad_number_right.f
 repeat' first
   | (with_reducible exact raw_Fits.mono _ _ _ _)
   | (with_reducible exact LeO.refl _)
   | (with_reducible exact LeO.none _)
   | (with_reducible refine LeO.ite ?_ ?_)
   | (with_reducible refine LeO.bind ?_ (fun _ => ?_))
   | exact raw_Fits.mono _ _ _ _
   | exact LeO.none _
   | refine LeO.ite ?_ ?_
   | refine LeO.bind ?_ (fun _ => ?_)
set_option maxHeartbeats 8000000 in
set_option maxRecDepth 100000 in
theorem dyad_number_right.calls (k : Nat) (a2 : Bool) (a4 : Option Addr) (a5 : Nat) (a1 : List Int) (a3 : Int) (r : Bool) (w : World) (a8 : Kd.C (Kd.int .u64) w a4 a1.length a1) (a9 : a1.length ≤ a5) (h : dyad_number_right.f k a2 a1 a3 = some r) :
  Calls Tryd.prog 53 #[.agg #[.bool a2, .slice a4 a1.length a5, .int .i64 a3]] w fun e w' => e = .returned (.bool r) ∧ Below w.heap.size w w' := by
 have hu70 := Tryd.underlying70;have aa := zA a8;have ab := zA a9;clear a8 a9;have HB := zA (Below.refl w.heap.size w);have H : ((raw_Fits.f k a2 a1 a3).bind fun a7 => (some a7)) = some r := h;clear h;obtain ⟨a7, A2, H⟩ := zh H;obtain rfl := Option.some.inj H;go_enter Tryd.func53, Tryd.ntmps53
 go_wp2_with (first | ((with_reducible refine zD 1 rfl ?_); refine zn (N := 1) (cs := #[.bool a2, .slice a4 a1.length a5, .int .i64 a3]) (t := 70) rfl rfl ?_; intro ae hg w3 hbox hb; have a6 := zA (hbox); have af := zw hg; replace HB := ze hb; clear hb hbox hg; obtain ⟨_, _, _, _, _, _⟩ := zc a6) | ((with_reducible refine zG 63 rfl ?_); refine zL (some 4) rfl rfl Tryd.func63 #[.agg #[.bool a2, .slice a4 a1.length a5, .int .i64 a3]] rfl ?_; (with_reducible refine (raw_Fits.calls k a2 _ _ a1 a3 a7 _ ?ac ?ad A2.out).mono ?_); (case ac => exact zk (C_below aa.out HB.out)); (case ad => exact ab.out); rintro e w5 ⟨rfl, hb⟩; refine ⟨_, rfl, ?_⟩; replace a6 := zb a6 hb; replace HB := zf hb))
 go_ret;exact ⟨er, zs⟩
def dyad_Check.f (k : Nat) (a1 : Bool) (a2 : List Int) (a3 : Int) : Option (Int) := (dyad_number_right.f k a1 a2 a3).bind fun a4 => (if a4 = true then (some 0) else (some 2))
theorem dyad_Check.mono : ∀ a0 a1 a2 k, LeO (dyad_Check.f k a0 a1 a2) (dyad_Check.f (k + 1) a0 a1 a2) := by
 intro a0 a1 a2 k
 unfold dyad_Check.f
 repeat' first
   | (with_reducible exact dyad_number_right.mono _ _ _ _)
   | (with_reducible exact LeO.refl _)
   | (with_reducible exact LeO.none _)
   | (with_reducible refine LeO.ite ?_ ?_)
   | (with_reducible refine LeO.bind ?_ (fun _ => ?_))
   | exact dyad_number_right.mono _ _ _ _
   | exact LeO.none _
   | refine LeO.ite ?_ ?_
   | refine LeO.bind ?_ (fun _ => ?_)
set_option maxHeartbeats 8000000 in
set_option maxRecDepth 100000 in
theorem dyad_Check.calls (k : Nat) (a2 : Bool) (a5 : Option Addr) (a6 : Nat) (a1 : List Int) (a3 : Int) (r : Int) (w : World) (aa : Kd.C (Kd.int .u64) w a5 a1.length a1) (ab : a1.length ≤ a6) (h : dyad_Check.f k a2 a1 a3 = some r) :
  Calls Tryd.prog 32 #[.agg #[.bool a2, .slice a5 a1.length a6, .int .i64 a3]] w fun e w' => e = .returned (.int .i64 r) ∧ Below w.heap.size w w' := by
 have hu25 := Tryd.underlying25;have ac := zA aa;have ad := zA ab;clear aa ab;have HB := zA (Below.refl w.heap.size w);have H : ((dyad_number_right.f k a2 a1 a3).bind fun a9 => (if a9 = true then (some 0) else (some 2))) = some r := h;clear h;obtain ⟨a9, A2, H⟩ := zh H
 by_cases c3 : a9 = true
 ·subst c3;rw [if_pos rfl] at H;obtain rfl := Option.some.inj H;go_enter Tryd.func32, Tryd.ntmps32
  go_wp2_with (first | ((with_reducible refine zD 1 rfl ?_); refine zn (N := 1) (cs := #[.bool a2, .slice a5 a1.length a6, .int .i64 a3]) (t := 25) rfl rfl ?_; intro ae hg w4 hbox hb; have a4 := zA (hbox); have af := zw hg; replace HB := ze hb; clear hb hbox hg; obtain ⟨_, _, _, _, _, _⟩ := zc a4) | ((with_reducible refine zG 53 rfl ?_); refine zL (some 4) rfl rfl Tryd.func53 #[.agg #[.bool a2, .slice a5 a1.length a6, .int .i64 a3]] rfl ?_; (with_reducible refine (dyad_number_right.calls k a2 _ _ a1 a3 true _ ?a7 ?a8 A2.out).mono ?_); (case a7 => exact zk (C_below ac.out HB.out)); (case a8 => exact ad.out); rintro e w6 ⟨rfl, hb⟩; refine ⟨_, rfl, ?_⟩; replace a4 := zb a4 hb; replace HB := zf hb))
  go_ret;exact ⟨er, zs⟩
 replace c3 := Bool.eq_false_iff.mpr c3;subst c3;rw [if_neg (show ¬ (false = true) by decide)] at H;obtain rfl := Option.some.inj H;go_enter Tryd.func32, Tryd.ntmps32
 go_wp2_with (first | ((with_reducible refine zD 1 rfl ?_); refine zn (N := 1) (cs := #[.bool a2, .slice a5 a1.length a6, .int .i64 a3]) (t := 25) rfl rfl ?_; intro ae hg w7 hbox hb; have a4 := zA (hbox); have af := zw hg; replace HB := ze hb; clear hb hbox hg; obtain ⟨_, _, _, _, _, _⟩ := zc a4) | ((with_reducible refine zG 53 rfl ?_); refine zL (some 4) rfl rfl Tryd.func53 #[.agg #[.bool a2, .slice a5 a1.length a6, .int .i64 a3]] rfl ?_; (with_reducible refine (dyad_number_right.calls k a2 _ _ a1 a3 false _ ?a7 ?a8 A2.out).mono ?_); (case a7 => exact zk (C_below ac.out HB.out)); (case a8 => exact ad.out); rintro e w9 ⟨rfl, hb⟩; refine ⟨_, rfl, ?_⟩; replace a4 := zb a4 hb; replace HB := zf hb))
 go_ret;exact ⟨er, zs⟩
def bits_Neg.f (a0 : Int) : Option (Int) := some (Go.bits .xor .u64 a0 9223372036854775808)
set_option maxHeartbeats 8000000 in
set_option maxRecDepth 100000 in
theorem bits_Neg.calls (a0 : Int) (r : Int) (w : World) (h : bits_Neg.f a0 = some r) :
  Calls Tryd.prog 17 #[.int .u64 a0] w fun e w' => e = .returned (.int .u64 r) ∧ Drawn0 w w' := by
 have H : (some (Go.bits .xor .u64 a0 9223372036854775808)) = some r := h;clear h;obtain rfl := Option.some.inj H;go_enter Tryd.func17, Tryd.ntmps17
 go_wp2
 go_ret;exact ⟨by first | rfl | (simp; done) | (simp [*]; done), by repeat (first | exact Drawn0.refl _ | apply Drawn0.step)⟩
def nat_number_own.f (l0 : List Int) : Option (List Int) := if ([] : List Int).length + l0.length < 17592186044416 then (some (([] : List Int) ++ l0)) else (none)
set_option maxHeartbeats 8000000 in
set_option maxRecDepth 100000 in
theorem nat_number_own.calls (A0 : Option Addr) (c0 : Nat) (l0 : List Int) (r : List Int) (w : World) (hr0 : Kd.C (Kd.int .u64) w A0 l0.length l0) (hc0 : l0.length ≤ c0) (h : nat_number_own.f l0 = some r) :
  Calls Tryd.prog 96 #[.slice A0 l0.length c0] w fun e w' => ∃ v0_ : Value, e = .returned (v0_) ∧ Kd.R (Kd.int .u64) 26 w' w.heap.size (fun _ => True) v0_ r ∧ Below w.heap.size w w' := by
 have a6 := zA hr0;have a7 := zA hc0;clear hr0 hc0;have HB := zA (Below.refl w.heap.size w);have H : (if ([] : List Int).length + l0.length < 17592186044416 then (some (([] : List Int) ++ l0)) else (none)) = some r := h;clear h;replace H := dn H;obtain ⟨c2, H⟩ := H;have a4 := zA c2;clear c2;obtain ⟨a5, a1⟩ : ∃ y_ : List Int, y_ = (([] : List Int) ++ l0) := ⟨_, rfl⟩;replace H : (some a5) = some r := zR a1 H;have a2 := zA a1;clear a1;obtain rfl := Option.some.inj H;go_enter Tryd.func96, Tryd.ntmps96
 go_wp2_with (first | ((with_reducible refine gate_builtin (b := .append) (xs := #[.const (.slice none 0 0), .tmp 3]) rfl ?_); at_builtin; refine Kd.R_append_rows2 (Kd.int .u64) (w0 := w) w.heap.size rfl (.const (.slice none 0 0)) (.tmp 3) 23 106 26 (.int .u64 0) 8 rfl Tryd.underlying23 Tryd.underlying106 info26 rfl (by decide) (by omega) (.slice none 0 0) ([] : List Int) l0 _ _ _ (fun _ => True) (fun _ => False) rfl rfl ?aO ?aR (fun _ _ h => h) (fun _ h => h.elim) ?aF ?aB ?aS ?aL ?_; (case aR => repeat (first | exact a6.out | (with_reducible refine C_alloc ?_ _) | (with_reducible refine C_drewN ?_ _) | (with_reducible refine C_drew ?_))); (case aB => exact bq); (case aF => exact (fun _ _ => trivial)); (case aO => exact ((R_nil _ _ _ _ (fun _ => True)))); (case aS => exact (below_size bq)); (case aL => have := a4.out; omega); intro v121 w3 ho hb hg hat; rw [← a2.out] at ho; replace HB := zA (hb); have a3 := zA (ho); clear ho hb hg hat))
 go_ret;exact ⟨_, er, ru a3.out, bq⟩
def nat_norm.l0 : Nat → List Int → Option (List Int)
 | 0, _ => none
 | k + 1, x0 => if (x0.length : Int) > 0 then (if 0 ≤ (wrap64 ((x0.length : Int) - 1)) then (if (wrap64 ((x0.length : Int) - 1)) < (x0.length : Int) then (if (rd x0 (wrap64 ((x0.length : Int) - 1))) = 0 then (if (wrap64 ((x0.length : Int) - 1)) ≤ (x0.length : Int) then (nat_norm.l0 k (x0.take ((wrap64 ((x0.length : Int) - 1)) : Int).toNat)) else (none)) else (some x0)) else (none)) else (none)) else (some x0)
def nat_norm.f (k : Nat) (l0 : List Int) : Option (List Int) := nat_norm.l0 k l0
theorem nat_norm.mono_l : ∀ k, (∀ y0, LeO (nat_norm.l0 k y0) (nat_norm.l0 (k + 1) y0))
 | 0 => fun _ r h => by simp [nat_norm.l0] at h
 | k + 1 => by
  have ih0 := nat_norm.mono_l k;intro y0
  unfold nat_norm.l0
  repeat' first
  | (with_reducible exact ih0 _)
  | (with_reducible exact LeO.refl _)
  | (with_reducible exact LeO.none _)
  | (with_reducible refine LeO.ite ?_ ?_)
  | (with_reducible refine LeO.bind ?_ (fun _ => ?_))
  | exact ih0 _
  | exact LeO.none _
  | refine LeO.ite ?_ ?_
  | refine LeO.bind ?_ (fun _ => ?_)
theorem nat_norm.mono : ∀ a0 k, LeO (nat_norm.f k a0) (nat_norm.f (k + 1) a0) := by
 intro a0 k;have ih0 := nat_norm.mono_l k
 unfold nat_norm.f
 repeat' first
   | (with_reducible exact ih0 _)
   | (with_reducible exact LeO.refl _)
   | (with_reducible exact LeO.none _)
   | (with_reducible refine LeO.ite ?_ ?_)
   | (with_reducible refine LeO.bind ?_ (fun _ => ?_))
   | exact ih0 _
   | exact LeO.none _
   | refine LeO.ite ?_ ?_
   | refine LeO.bind ?_ (fun _ => ?_)
set_option maxHeartbeats 8000000 in
set_option maxRecDepth 100000 in
theorem nat_norm.calls (k : Nat) (P0_ : Nat → Prop) (A0 : Option Addr) (c0 : Nat) (l0 : List Int) (r : List Int) (w : World) (hs0 : Kd.V (Kd.int .u64) 26 w w.heap.size (fun k_ => P0_ k_) (.slice A0 l0.length c0) l0) (h : nat_norm.f k l0 = some r) :
  Calls Tryd.prog 95 #[.slice A0 l0.length c0] w fun e w' => ∃ v0_ : Value, e = .returned (v0_) ∧ Kd.V (Kd.int .u64) 26 w' w.heap.size (fun k_ => (P0_ k_ ∨ w.heap.size ≤ k_)) v0_ r ∧ Below w.heap.size w w' := by
 have ai := zA (show Kd.V (Kd.int .u64) 26 w w.heap.size (fun k_ => (P0_ k_ ∨ w.heap.size ≤ k_)) (.slice A0 l0.length c0) l0 from V_mono hs0 (fun k_ hk => .inl hk));have HB := zA (Below.refl w.heap.size w);have H : (nat_norm.l0 k l0) = some r := h;clear h;have H' := zA H;clear H;go_enter Tryd.func95, Tryd.ntmps95
 go_wp2
 go_loopg [0] k (fun kq v0 w' => ∃ (a1 : List Int), Aside0 (nat_norm.l0 kq a1 = some r) ∧ Aside0 (kq ≤ k) ∧ Aside0 (Kd.V (Kd.int .u64) 26 w' w.heap.size (fun k_ => (P0_ k_ ∨ w.heap.size ≤ k_)) v0 a1) ∧ Aside0 (Below w.heap.size w w'))
 case atStart => exact ⟨(l0), H', ⟨Nat.le_refl _⟩, ⟨vu ai.out⟩, ⟨bq⟩⟩
 case round =>
  clear H';obtain ⟨a1, HA, HK1, a3, HB⟩ := hrel
  cases gk with
  | zero => exact absurd HA.out (by simp [nat_norm.l0])
  | succ k1 =>
   have H := HA.out;clear HA;simp only [nat_norm.l0] at H
   by_cases c2 : (a1.length : Int) > 0
   ·rw [if_pos c2] at H;have ac := decide_eq_true c2;have ad : decide (0 < a1.length) = true := decide_eq_true (by omega);clear c2;obtain ⟨a2, a5⟩ : ∃ j_ : Int, (wrap64 ((a1.length : Int) - 1)) = j_ := ⟨_, rfl⟩;replace H : (if 0 ≤ (a2) then (if (a2) < (a1.length : Int) then (if (rd a1 (a2)) = 0 then (if (a2) ≤ (a1.length : Int) then (nat_norm.l0 k1 (a1.take ((a2) : Int).toNat)) else (none)) else (some a1)) else (none)) else (none)) = some r := zQ a5 H;have hji3w : (IntKind.i64.wrap ((a1.length : Int) - 1)) = a2 := (i64_w _).trans a5;replace H := dn H;obtain ⟨c4, H⟩ := H;have al := decide_eq_true c4;clear c4;replace H := dn H;obtain ⟨c5, H⟩ := H;have am := decide_eq_true c5;clear c5
    by_cases c6 : (rd a1 (a2)) = 0
    ·rw [if_pos c6] at H;have ae := beq_iff_eq.mpr c6;have af := bne_eq_false_iff_eq.mpr c6;clear c6;have an := eq_true (od : 0 ≤ (a2));replace H := dn H;obtain ⟨c8, H⟩ := H;have ao := eq_true c8;have ap := decide_eq_true c8;clear c8;obtain ⟨a4, a6⟩ : ∃ y_ : List Int, y_ = (a1.take ((a2) : Int).toNat) := ⟨_, rfl⟩;replace H : (nat_norm.l0 k1 a4) = some r := zR a6 H;have a8 := zA a6;clear a6;have H' := zA H;clear H;obtain ⟨aw, a9, aj⟩ := V_slice a3.out;subst aj;have p123 : 0 ≤ ((a2) : Int) := od;have q123 : (a2) < (a1.length : Int) := od;obtain ⟨ad123, e123, aa⟩ := Kd.at_int (V_reads' a3.out).2.2 (a2) p123 q123;cases e123;replace p123 := eq_true p123;replace q123 := eq_true q123;have q10 : ((a2) : Int) ≤ ((a1.length : Int) : Int) := od;obtain ⟨i010, hi010, _, hsz10, _⟩ := info_parts info26;have hroom10 : a1.length ≤ a9 := (V_reads' a3.out).2.1;have hC10 : Kd.F (Kd.int .u64) _ _ (some ad123) a1.length a1 := (V_at (base := w.heap.size) a3.out).2.2;have hcut10 := cut_to (P := Tryd.prog) 23 26 .i64 Tryd.underlying23 hi010 (some ad123) a1.length a9 (a2) (od) q10 hroom10;have hr10 := Kd.F_take (m := ((a2) : Int).toNat) hC10 (by omega);have a7 : a4.length = ((a2) : Int).toNat := (by rw [a8.out, List.length_take]; omega);rw [← a8.out] at hr10;rw [← a7] at hcut10;have ab := zA (show Kd.V (Kd.int .u64) 26 _ w.heap.size _ (.slice (some ad123) a4.length a9) a4 from V_mk (by omega) hr10);have ak := zA (show a4.length ≤ a9 from by omega);clear hr10 hC10 hroom10 hi010 hsz10;have KY10 := zA a7;clear a7;replace q10 := eq_true q10
     go_wp2
     go_roundg k1
     case measure => have := HK1.out; omega
     case rel => exact ⟨(a4), (by first | exact H' | (simp only [a5]; exact H') | (simp only [a5] at H' ⊢; exact H')), ⟨by have := HK1.out; omega⟩, ⟨vu ab.out⟩, ⟨bq⟩⟩
    rw [if_neg c6] at H;have ae := beq_eq_false_iff_ne.mpr c6;have af := bne_iff_ne.mpr c6;obtain rfl := Option.some.inj H;obtain ⟨aq, ar, ag⟩ := V_slice a3.out;subst ag;have p123 : 0 ≤ ((a2) : Int) := od;have q123 : (a2) < (a1.length : Int) := od;obtain ⟨ad123, e123, aa⟩ := Kd.at_int (V_reads' a3.out).2.2 (a2) p123 q123;cases e123;replace p123 := eq_true p123;replace q123 := eq_true q123
    go_wp2
    go_ret;exact ⟨_, by first | rfl | (simp [errW_none, errW_some] <;> rfl) | (simp only [← a5]; first | rfl | (simp [errW_none, errW_some] <;> rfl)) | (simp [*, errW_none, errW_some] <;> rfl), vu a3.out, bq⟩
   rw [if_neg c2] at H;have ac := decide_eq_false c2;have ad : decide (0 < a1.length) = false := decide_eq_false (by omega);clear c2;obtain rfl := Option.some.inj H;obtain ⟨au, av, ah⟩ := V_slice a3.out;subst ah
   go_wp2
   go_ret;exact ⟨_, er, vu a3.out, bq⟩
def nat_number_great.f (l0 : List Int) : Option (Bool) := some (decide ((l0.length : Int) > 1024))
set_option maxHeartbeats 8000000 in
set_option maxRecDepth 100000 in
theorem nat_number_great.calls (A0 : Option Addr) (c0 : Nat) (l0 : List Int) (r : Bool) (w : World) (hr0 : Kd.C (Kd.int .u64) w A0 l0.length l0) (hc0 : l0.length ≤ c0) (h : nat_number_great.f l0 = some r) :
  Calls Tryd.prog 120 #[.slice A0 l0.length c0] w fun e w' => e = .returned (.bool r) ∧ Drawn0 w w' := by
 have a1 := zA hr0;have a2 := zA hc0;clear hr0 hc0;have H : (some (decide ((l0.length : Int) > 1024))) = some r := h;clear h;obtain rfl := Option.some.inj H;go_enter Tryd.func120, Tryd.ntmps120
 go_wp2
 go_ret;exact ⟨by first | rfl | (simp; done) | (simp [*]; done), by repeat (first | exact Drawn0.refl _ | apply Drawn0.step)⟩
def nat_one.f (k : Nat) (l0 : List Int) : Option (List Int × Int) := (nat_norm.f k l0).bind fun a1 => ((nat_number_great.f a1).bind fun a2 => (if a2 = true then (some (([] : List Int), 3)) else (some (a1, 0))))
theorem nat_one.mono : ∀ a0 k, LeO (nat_one.f k a0) (nat_one.f (k + 1) a0) := by
 intro a0 k
 unfold nat_one.f
 repeat' first
   | (with_reducible exact nat_norm.mono _ _)
   | (with_reducible exact LeO.refl _)
   | (with_reducible exact LeO.none _)
   | (with_reducible refine LeO.ite ?_ ?_)
   | (with_reducible refine LeO.bind ?_ (fun _ => ?_))
   | exact nat_norm.mono _ _
   | exact LeO.none _
   | refine LeO.ite ?_ ?_
   | refine LeO.bind ?_ (fun _ => ?_)
set_option maxHeartbeats 8000000 in
set_option maxRecDepth 100000 in
theorem nat_one.calls (k : Nat) (P0_ : Nat → Prop) (A0 : Option Addr) (c0 : Nat) (l0 : List Int) (r1 : List Int) (r2 : Int) (w : World) (hs0 : Kd.V (Kd.int .u64) 26 w w.heap.size (fun k_ => P0_ k_) (.slice A0 l0.length c0) l0) (h : nat_one.f k l0 = some (r1, r2)) :
  Calls Tryd.prog 103 #[.slice A0 l0.length c0] w fun e w' => ∃ v0_ : Value, e = .returned (.tuple #[v0_, .int .i64 r2]) ∧ Kd.V (Kd.int .u64) 26 w' w.heap.size (fun k_ => (P0_ k_ ∨ w.heap.size ≤ k_)) v0_ r1 ∧ Below w.heap.size w w' := by
 have a4 := zA (show Kd.V (Kd.int .u64) 26 w w.heap.size (fun k_ => (P0_ k_ ∨ w.heap.size ≤ k_)) (.slice A0 l0.length c0) l0 from V_mono hs0 (fun k_ hk => .inl hk));have HB := zA (Below.refl w.heap.size w);have H : ((nat_norm.f k l0).bind fun a2 => ((nat_number_great.f a2).bind fun a7 => (if a7 = true then (some (([] : List Int), 3)) else (some (a2, 0))))) = some (r1, r2) := h;clear h;obtain ⟨a2, A2, H⟩ := zh H;obtain ⟨a7, A3, H⟩ := zh H
 by_cases c4 : a7 = true
 ·subst c4;rw [if_pos rfl] at H;simp only [Option.some.injEq, Prod.mk.injEq] at H;obtain ⟨rfl, rfl⟩ := H;go_enter Tryd.func103, Tryd.ntmps103
  go_wp2_with (first | ((with_reducible refine zG 95 rfl ?_); refine zL (some 6) rfl rfl Tryd.func95 #[.slice A0 l0.length c0] rfl ?_; (with_reducible refine (nat_norm.calls k (fun k_ => (P0_ k_ ∨ w.heap.size ≤ k_)) _ _ l0 a2 _ ?a3 A2.out).mono ?_); (case a3 => exact a4.out); rintro e w5 ⟨v130, rfl, a6, hb⟩; refine ⟨_, rfl, ?_⟩; replace a4 := zA (V_below (vu a4.out) hb); have a1 := zA (V_lower (V_mono (ok' := fun k_ => (P0_ k_ ∨ w.heap.size ≤ k_)) a6 (fun k_ hk_ => Or.elim hk_ (fun hs_ => hs_) (fun hn_ => (.inr (Nat.le_trans (below_size bq) hn_))))) (below_size bq)); replace HB := ze hb; (try clear a6); obtain ⟨a8, a9, aa⟩ := V_slice a1.out; subst aa) | ((with_reducible refine zG 120 rfl ?_); refine zL (some 8) rfl rfl Tryd.func120 #[.slice a8 a2.length a9] rfl ?_; (with_reducible refine (nat_number_great.calls _ _ a2 true _ ?a3 ?a5 A3.out).mono ?_); (case a3 => exact zk (V_reads' a1.out).2.2); (case a5 => exact (V_reads' a1.out).2.1); rintro e w' ⟨rfl, ⟨nd, rfl⟩⟩; refine ⟨_, rfl, ?_⟩))
  go_ret2
  exact ⟨_, er, V_nil _ _ _ _ _, bq⟩
 replace c4 := Bool.eq_false_iff.mpr c4;subst c4;rw [if_neg (show ¬ (false = true) by decide)] at H;simp only [Option.some.injEq, Prod.mk.injEq] at H;obtain ⟨rfl, rfl⟩ := H;go_enter Tryd.func103, Tryd.ntmps103
 go_wp2_with (first | ((with_reducible refine zG 95 rfl ?_); refine zL (some 6) rfl rfl Tryd.func95 #[.slice A0 l0.length c0] rfl ?_; (with_reducible refine (nat_norm.calls k (fun k_ => (P0_ k_ ∨ w.heap.size ≤ k_)) _ _ l0 a2 _ ?a3 A2.out).mono ?_); (case a3 => exact a4.out); rintro e w7 ⟨v130, rfl, a6, hb⟩; refine ⟨_, rfl, ?_⟩; replace a4 := zA (V_below (vu a4.out) hb); have a1 := zA (V_lower (V_mono (ok' := fun k_ => (P0_ k_ ∨ w.heap.size ≤ k_)) a6 (fun k_ hk_ => Or.elim hk_ (fun hs_ => hs_) (fun hn_ => (.inr (Nat.le_trans (below_size bq) hn_))))) (below_size bq)); replace HB := ze hb; (try clear a6); obtain ⟨ab, ac, ad⟩ := V_slice a1.out; subst ad) | ((with_reducible refine zG 120 rfl ?_); refine zL (some 8) rfl rfl Tryd.func120 #[.slice ab a2.length ac] rfl ?_; (with_reducible refine (nat_number_great.calls _ _ a2 false _ ?a3 ?a5 A3.out).mono ?_); (case a3 => exact zk (V_reads' a1.out).2.2); (case a5 => exact (V_reads' a1.out).2.1); rintro e w' ⟨rfl, ⟨nd, rfl⟩⟩; refine ⟨_, rfl, ?_⟩))
 go_ret2
 exact ⟨_, er, vu a1.out, bq⟩
def nat_Norm.f (k : Nat) (l0 : List Int) : Option (List Int × Int) := (nat_one.f k l0).bind fun a1 => (if a1.2 = 0 then ((nat_number_own.f a1.1).bind fun a2 => (some (a2, 0))) else (some (([] : List Int), a1.2)))
theorem nat_Norm.mono : ∀ a0 k, LeO (nat_Norm.f k a0) (nat_Norm.f (k + 1) a0) := by
 intro a0 k
 unfold nat_Norm.f
 repeat' first
   | (with_reducible exact nat_one.mono _ _)
   | (with_reducible exact LeO.refl _)
   | (with_reducible exact LeO.none _)
   | (with_reducible refine LeO.ite ?_ ?_)
   | (with_reducible refine LeO.bind ?_ (fun _ => ?_))
   | exact nat_one.mono _ _
   | exact LeO.none _
   | refine LeO.ite ?_ ?_
   | refine LeO.bind ?_ (fun _ => ?_)
set_option maxHeartbeats 8000000 in
set_option maxRecDepth 100000 in
theorem nat_Norm.calls (k : Nat) (A0 : Option Addr) (c0 : Nat) (l0 : List Int) (r1 : List Int) (r2 : Int) (w : World) (hr0 : Kd.C (Kd.int .u64) w A0 l0.length l0) (hc0 : l0.length ≤ c0) (h : nat_Norm.f k l0 = some (r1, r2)) :
  Calls Tryd.prog 75 #[.slice A0 l0.length c0] w fun e w' => ∃ v0_ : Value, e = .returned (.tuple #[v0_, .int .i64 r2]) ∧ Kd.R (Kd.int .u64) 26 w' w.heap.size (fun _ => True) v0_ r1 ∧ Below w.heap.size w w' := by
 have aa := zA hr0;have ab := zA hc0;clear hr0 hc0;have HB := zA (Below.refl w.heap.size w);have H : ((nat_one.f k l0).bind fun a4 => (if a4.2 = 0 then ((nat_number_own.f a4.1).bind fun a6 => (some (a6, 0))) else (some (([] : List Int), a4.2)))) = some (r1, r2) := h;clear h;obtain ⟨⟨a5, a7⟩, A2, H⟩ := zh H;(try dsimp only at H)
 by_cases c3 : a7 = 0
 ·rw [if_pos c3] at H;have ac := beq_iff_eq.mpr c3;have ad := bne_eq_false_iff_eq.mpr c3;clear c3;obtain ⟨a6, A4, H⟩ := zh H;simp only [Option.some.injEq, Prod.mk.injEq] at H;obtain ⟨rfl, rfl⟩ := H;go_enter Tryd.func75, Tryd.ntmps75
  go_wp2_with (first | ((with_reducible refine zG 103 rfl ?_); refine zL (some 8) rfl rfl Tryd.func103 #[.slice A0 l0.length c0] rfl ?_; (with_reducible refine (nat_one.calls k (fun k_ => k_ < w.heap.size) _ _ l0 a5 a7 _ ?a2 A2.out).mono ?_); (case a2 => exact V_mk ab.out (Kd.F_below (C_F (Kd.heap_int .u64) aa.out) bq)); rintro e w5 ⟨v134, rfl, a3, hb⟩; refine ⟨_, rfl, ?_⟩; have a1 := zA (V_lower (V_mono (ok' := fun k_ => True) a3 (fun k_ hk_ => trivial)) (below_size bq)); replace HB := ze hb; (try clear a3); obtain ⟨ae, af, ag⟩ := V_slice a1.out; subst ag) | ((with_reducible refine zG 96 rfl ?_); refine zL (some 15) rfl rfl Tryd.func96 #[.slice ae a5.length af] rfl ?_; (with_reducible refine (nat_number_own.calls _ _ a5 a6 _ ?a2 ?a8 A4.out).mono ?_); (case a2 => exact zk (V_reads' a1.out).2.2); (case a8 => exact (V_reads' a1.out).2.1); rintro e w7 ⟨v138, rfl, a3, hb⟩; refine ⟨_, rfl, ?_⟩; replace a1 := zA (V_elder' (vu a1.out) (R_base a3) hb); have a9 := zA (R_lower a3 (below_size bq)); replace HB := ze hb; (try clear a3)))
  go_ret2
  exact ⟨_, er, ru a9.out, bq⟩
 rw [if_neg c3] at H;have ac := beq_eq_false_iff_ne.mpr c3;have ad := bne_iff_ne.mpr c3;simp only [Option.some.injEq, Prod.mk.injEq] at H;obtain ⟨rfl, rfl⟩ := H;go_enter Tryd.func75, Tryd.ntmps75
 go_wp2_with (first | ((with_reducible refine zG 103 rfl ?_); refine zL (some 8) rfl rfl Tryd.func103 #[.slice A0 l0.length c0] rfl ?_; (with_reducible refine (nat_one.calls k (fun k_ => k_ < w.heap.size) _ _ l0 a5 a7 _ ?a2 A2.out).mono ?_); (case a2 => exact V_mk ab.out (Kd.F_below (C_F (Kd.heap_int .u64) aa.out) bq)); rintro e w8 ⟨v134, rfl, a3, hb⟩; refine ⟨_, rfl, ?_⟩; have a1 := zA (V_lower (V_mono (ok' := fun k_ => True) a3 (fun k_ hk_ => trivial)) (below_size bq)); replace HB := ze hb; (try clear a3)))
 go_ret2
 exact ⟨_, er, by first | exact R_nil _ _ _ _ _ | exact Kd.N_nil _ _ _ _ _ | exact V_nil _ _ _ _ _ | exact Kd.Q_nil _ _ _ _ _ | exact Kd.S_nil _ _ _ _ _, bq⟩
end Go.Proofs.YtnjfckadjklmfaaDoor.PAll
