/- Printed functions, merged by a program of this session. -/
import Derived.Test.YtnjfckadjklmfaaDoorProg
import Derived.Below
import Derived.Deep.Draws
import Derived.Deep.AppendLies
import Derived.Maps.AppendAt
import Derived.OwnWalk
import Derived.Laws.BytesArg
import Derived.Laws.MakeOwn
import Derived.Laws.OwnMore
import Derived.Deep.OwnRows
import Derived.Tactics
import Derived.Lib.ConvBytes
import Derived.Laws.Slices
import Derived.WalkKit
import Derived.KernelRfl
import Derived.RowKit3
import Derived.Deep.LoopGhost
import Derived.Deep.QuietTactic
import Derived.BigQuiet
import Derived.WideLaws
import Derived.Deep.DeepCutAuto
import Derived.Deep.CutBlock
import Derived.Deep.RegionHeld3
import Derived.Laws.Rows
import Derived.Lib.AppendStr
import Derived.ArgAppend
import Derived.Laws.IdiomCopy
import Derived.OrdersHeld
import Derived.Laws.BitsLemmas
import Derived.RowKit
import Derived.Test.YtnjfckadjklmfaaDoorXRoundNearsWWords
import Derived.Test.YtnjfckadjklmfaaDoorXRoundNearsWLast
import Derived.Test.YtnjfckadjklmfaaDoorXRoundNearsWTab
import Derived.Test.YtnjfckadjklmfaaDoorXRoundNearsWApart
import Derived.Test.YtnjfckadjklmfaaDoorXRoundNearsWFoot
import Derived.Test.YtnjfckadjklmfaaDoorXRoundNearsWKept
import Derived.Test.YtnjfckadjklmfaaDoorXRoundNearsWShare
import Derived.Test.YtnjfckadjklmfaaDoorXRoundNearsWN
import Derived.Test.YtnjfckadjklmfaaDoorXRoundNearsWEqStruct
import Derived.Test.YtnjfckadjklmfaaDoorXRoundNearsWRepsOne
import Derived.Test.YtnjfckadjklmfaaDoorXRoundNearsWInv
import Derived.Test.YtnjfckadjklmfaaDoorXRoundNearsWGuard
import Derived.Test.YtnjfckadjklmfaaDoorXRoundNearsWMore
import Derived.Test.YtnjfckadjklmfaaDoorXRoundNearsSh
namespace Go.Proofs.YtnjfckadjklmfaaDoor.PAll
open Go.RowKit Go.Proofs.YtnjfckadjklmfaaDoorW.PrintWords Go.Proofs.YtnjfckadjklmfaaDoorW.PrintLast Go.Proofs.YtnjfckadjklmfaaDoorW.PrintMore Go.Proofs.YtnjfckadjklmfaaDoorW.PrintWords.Kd
attribute [local go_sem] max2_int min2_int max_two min_two max_three min_three max_four min_four   -- for this text's walks alone
set_option linter.unusedVariables false
set_option linter.unusedSimpArgs false
def errW : Option Int → Value
 | none => .nilIface
 | some c => .iface 0 (.int .i64 c)
theorem errW_none : errW none = .nilIface := rfl
theorem errW_some (c : Int) : errW (some c) = .iface 0 (.int .i64 c) := rfl
theorem info26 : (Tryd.prog.info? 26).map (fun i => (i.zero, i.size, i.bytes)) = some (some (.int .u64 0), 1, 8) := by kernel_rfl
theorem append_types {P : Program} {t t' e e' : TypeId} {ty : TypeId} {args : Array Value} {w : World} (ht : P.underlying t = some (.slice e)) (ht' : P.underlying t' = some (.slice e')) : (Builtin.append_ #[t, t'] ty args).run P w = (Builtin.append_ #[t, t] ty args).run P w := by
 unfold Builtin.append_
 cases h0 : args[0]? <;> cases h1 : args[1]? <;> simp only [List.getElem?_toArray, List.getElem?_cons_zero, List.getElem?_cons_succ, Sem.run_bind, run_underlying ht, Result.andThen_ok]
 rename_i s x
 cases s <;> try rfl
 dsimp only
 simp only [Sem.run_bind, run_underlying ht, run_underlying ht', Result.andThen_ok, Sem.run_pure]
namespace Kd
open Go.Proofs.YtnjfckadjklmfaaDoorW.PrintWords.Kd
section
variable {P : Program} {ops : Array Oper} {rest : List Oper} {o : Oper} {a : Act} {Q : Exit → Act → World → Prop} {α : Type}
theorem R_append_rows2 (d : Kd α) {Rr : α → List Value → Prop} {w0 W : World} (base : Nat) (hgd : o.guard = none) (s x : Operand) (t t' e : TypeId) (z : Value) (bytes : Nat)
  (ho : o.op = .call { callee := .builtin .append, args := #[s, x], argTypes := #[t, t'] })
  (ht : P.underlying t = some (.slice e)) (ht' : P.underlying t' = some (.slice e)) (hinfo : (P.info? e).map (fun i => (i.zero, i.size, i.bytes)) = some (some z, d.sz, bytes)) (hz : z.cells.size = d.sz) (hs0 : 0 < d.sz) (hb0 : 0 < bytes)
  (v : Value) (xs ys : List α) (A : Option Addr) (m c : Nat) (ok okp : Nat → Prop) (hs : a.eval s = v) (hx : a.eval x = .slice A m c)
  (HO : d.R e W base ok v xs) (HR : ReadsRow Rr d.sz W A m ys) (hKM : ∀ x cs, Rr x cs → d.M W base okp x cs) (hokp : ∀ k, okp k → ok k ∧ some k ≠ v.ownBlock) (hfresh : ∀ k, W.heap.size ≤ k → ok k)
  (HB : Below base w0 W) (hbase : base ≤ W.heap.size) (hl : (xs.length + m) * bytes ≤ 140737488355328)
  (h : ∀ v1 w1, d.R e w1 base ok v1 (xs ++ ys) → Below base w0 w1 → W.grownBy w1 v.ownBlock → (v1.ownBlock = v.ownBlock ∨ ∃ b, v1.ownBlock = some b ∧ W.heap.size ≤ b) → wpList P ops Q rest (a.put o.dst v1) w1) :
  wpList P ops Q (o :: rest) a W := by
 obtain ⟨i0, hi, hzz⟩ := Option.map_eq_some_iff.1 hinfo
 simp only [Prod.mk.injEq] at hzz
 obtain ⟨hz0, hz1, hz2⟩ := hzz
 have hm : ys.length = m := HR.1
 have hlen : xs.length + m ≤ 140737488355328 := Nat.le_trans (Nat.le_mul_of_pos_right _ hb0) hl
 obtain ⟨hok, inner, hown, hr⟩ := HO
 have hrun : ∃ v1 w1, (Builtin.append_ #[t, t] o.type #[v, .slice A m c]).run P W = .ok v1 w1 ∧ d.R e w1 base ok v1 (xs ++ ys) ∧ W.grownBy w1 v.ownBlock ∧ (v1.ownBlock = v.ownBlock ∨ ∃ b, v1.ownBlock = some b ∧ W.heap.size ≤ b) := by
  rcases A with _ | ad
  ·have h0 : m = 0 := by
    rcases Nat.eq_zero_or_pos m with h0 | h0
    ·exact h0
    obtain ⟨ad, h, _⟩ := HR.2.2 h0
    cases h
   subst h0
   obtain rfl : ys = [] := List.eq_nil_of_length_eq_zero hm
   refine ⟨v, W, ?_, by rw [List.append_nil]; exact ⟨hok, inner, hown, hr⟩, World.grownBy.refl W _, .inl rfl⟩
   rcases hown.2 with ⟨rfl, hn⟩ | ⟨g, cap, cur, rfl, _, _, hnc, _⟩
   ·simp [Builtin.append_, run_underlying ht, sizeOf, typeInfo, hi, Builtin.lenOf, Builtin.firstCells]
   simp [Builtin.append_, run_underlying ht, sizeOf, typeInfo, hi, Builtin.lenOf, Builtin.firstCells, hnc, storeCells]
  obtain ⟨news, hnr, hnc⟩ := ReadsRow.inner_ HR
  have hnM : Reps (d.M W base okp) d.sz ys news := hnr.imp_ (fun p c hp => hKM p c hp)
  have hone : ∀ u ∈ news, u.oneCell' = true := by
   intro u hu
   obtain ⟨q, hq, rfl⟩ := List.mem_iff_getElem.1 hu
   have hql : q / d.sz < ys.length := by
    rw [Nat.div_lt_iff_lt_mul hs0]
    rw [← hnM.1]
    exact hq
   have hc := hnM.2 (q / d.sz) _ (List.getElem?_eq_getElem hql)
   refine d.K_one (d.K_of_M hc) _ ?_
   rw [List.mem_iff_getElem?]
   refine ⟨q % d.sz, ?_⟩
   rw [List.getElem?_take, if_pos (Nat.mod_lt _ hs0), List.getElem?_drop, Nat.mul_comm, Nat.div_add_mod, List.getElem?_eq_getElem hq]
  obtain ⟨v1, w1, hrun, h2, hg, _, hat⟩ := run_append_own_at (P := P) W base t o.type e i0 z d.sz bytes ht hi hz0 hz1 hz2 hz hs0 v xs.length inner hown ad m c news (by rw [hnM.1, hm]) hnc hone (by simp only [maxLen]; omega) hl hbase
  have hat' : v1.ownBlock = v.ownBlock ∨ ∃ b, v1.ownBlock = some b ∧ W.heap.size ≤ b := by
   rcases hat with hat | hat
   ·exact .inl hat
   exact .inr ⟨_, hat, Nat.le_refl _⟩
  have hne : ∀ k, some k ≠ v.ownBlock → k < W.heap.size → some k ≠ v1.ownBlock := by
   intro k hk hlt
   rcases hat' with hat | ⟨b, hb, hle⟩
   ·rw [hat]; exact hk
   rw [hb]
   intro he
   injection he with he
   omega
  have step : ∀ {q : α} {c : List Value} {o : Nat → Prop}, d.M W base o q c → (∀ k, o k → ok k ∧ some k ≠ v.ownBlock) → d.M w1 base (fun k => ok k ∧ some k ≠ v1.ownBlock) q c := by
   intro q c o hq ho
   have h1 := d.M_move (w1 := w1) (fun k hk => hg.block k hk.2.2.1 (ho k hk.1).2) (d.M_bound hq)
   exact d.M_mono (fun k hk => ⟨(ho k hk.1).1, hne k (ho k hk.1).2 hk.2.2.1⟩) h1
  refine ⟨v1, w1, hrun, ⟨fun k hk => ?_, inner ++ news, by rw [List.length_append, hm]; exact h2, reps_append (hr.imp_ (fun _ _ hq => step hq (fun _ hk => hk))) (hnM.imp_ (fun _ _ hq => step hq hokp))⟩, hg, hat'⟩
  rcases hat' with hat | ⟨b, hb, hle⟩
  ·exact hok k (hat ▸ hk)
  rw [hb] at hk
  injection hk with hk
  exact hfresh k (by omega)
 obtain ⟨v1, w1, hr1, h1, hg, hat⟩ := hrun
 refine wpList_plain hgd fun K hK => ?_
 unfold Oper.wp execOp
 simp only [ho, resolve, invoke, builtin, Sem.run_bind, Sem.run_pure, Result.andThen_ok, List.map_toArray, List.map_cons, List.map_nil, hs, hx, append_types ht ht', hr1]
 exact hK _ _ (h v1 w1 h1 (HB.grown hg hbase (own_base hown)) hg hat)
end
end Kd
/-- The table of math/bits.TrailingZeros64. -/
def tzTab : List Int := [0, 1, 56, 2, 57, 49, 28, 3, 61, 58, 42, 50, 38, 29, 17, 4, 62, 47, 59, 36, 45, 43, 51, 22, 53, 39, 33, 30, 24, 18, 12, 5, 63, 55, 48, 27, 60, 41, 37, 16, 46, 35, 44, 21, 52, 32, 23, 11, 54, 26, 40, 15, 34, 20, 31, 10, 25, 14, 19, 9, 13, 8, 7, 6]
/-- The table lies in memory as the program's text lays it. -/
def Laid (w : World) : Prop := ∀ i : Nat, i < 64 → w.cell? ⟨0, i, none⟩ = some (.int .u8 (tzTab.getD i 0))
theorem laid_drewN {w : World} (h : Laid w) (n : Nat) : Laid (w.drewN n) := fun i hi => by
 have := h i hi
 simpa using this
theorem laid_drew {w : World} (h : Laid w) : Laid w.drew := fun i hi => by
 have := h i hi
 simpa using this
theorem laid_below {w w' : World} (h : Laid w) (hb : Below w.heap.size w w') : Laid w' := fun i hi => by
 have h0 := h i hi
 rw [hb.cell (p := ⟨0, i, none⟩) (World.block_lt_of_cell? w ⟨0, i, none⟩ h0)]
 exact h0
def add64s (x y c : Int) : Int := ((x.toNat + y.toNat + c.toNat) % 18446744073709551616 : Nat)
def add64c (x y c : Int) : Int := ((x.toNat + y.toNat + c.toNat) / 18446744073709551616 : Nat)
def sub64s (x y c : Int) : Int := ((x.toNat + 18446744073709551616 - y.toNat - c.toNat) % 18446744073709551616 : Nat)
def sub64c (x y c : Int) : Int := if x.toNat < y.toNat + c.toNat then 1 else 0
def sub64Entry : Array Value → Sem Value := fun args => do
 let (x, y, b) ← Extern.MathBitsCarry.three "Sub64" args
 pure (Extern.MathBitsCarry.pair ((x + Extern.MathBitsCarry.m64 - y - b) % Extern.MathBitsCarry.m64) (if x < y + b then 1 else 0))
theorem carry_nat {c : Int} (h : decide (c ≤ 1) = true) : c.toNat = 0 ∨ c.toNat = 1 := by
 have h' := of_decide_eq_true h
 omega
theorem add64_run {P : Program} (x y c : Int) (h : decide (c ≤ 1) = true) (w : World) : (add64Entry #[.int .u64 x, .int .u64 y, .int .u64 c]).run P w = .ok (.tuple #[.int .u64 (add64s x y c), .int .u64 (add64c x y c)]) w := by
 have key : ∀ k : Nat, k = 0 ∨ k = 1 → c.toNat = k → (add64Entry #[.int .u64 x, .int .u64 y, .int .u64 c]).run P w = .ok (Extern.MathBitsCarry.pair ((x.toNat + y.toNat + k) % Extern.MathBitsCarry.m64) ((x.toNat + y.toNat + k) / Extern.MathBitsCarry.m64)) w := by
  intro k hk hc
  rcases hk with rfl | rfl
  ·cases c with
   | ofNat n => cases hc; rfl
   | negSucc m => rfl
  cases c with
  | ofNat n => cases hc; rfl
  | negSucc m => cases hc
 rw [key _ (carry_nat h) rfl]; rfl
theorem sub64_run {P : Program} (x y c : Int) (h : decide (c ≤ 1) = true) (w : World) : (sub64Entry #[.int .u64 x, .int .u64 y, .int .u64 c]).run P w = .ok (.tuple #[.int .u64 (sub64s x y c), .int .u64 (sub64c x y c)]) w := by
 have key : ∀ k : Nat, k = 0 ∨ k = 1 → c.toNat = k → (sub64Entry #[.int .u64 x, .int .u64 y, .int .u64 c]).run P w = .ok (Extern.MathBitsCarry.pair ((x.toNat + Extern.MathBitsCarry.m64 - y.toNat - k) % Extern.MathBitsCarry.m64) (if x.toNat < y.toNat + k then 1 else 0)) w := by
  intro k hk hc
  rcases hk with rfl | rfl
  ·cases c with
   | ofNat n => cases hc; rfl
   | negSucc m => rfl
  cases c with
  | ofNat n => cases hc; rfl
  | negSucc m => cases hc
 rw [key _ (carry_nat h) rfl]
 unfold Extern.MathBitsCarry.pair sub64s sub64c Extern.MathBitsCarry.m64
 split <;> rfl
theorem ext118 (x y c : Int) (h : decide (c ≤ 1) = true) (w : World) : (callFunc 118 #[.int .u64 x, .int .u64 y, .int .u64 c]).run Tryd.prog w = .ok (.value (.tuple #[.int .u64 (add64s x y c), .int .u64 (add64c x y c)])) w := by
 rw [run_callFunc_extern (e := add64Entry) Tryd.func118 (by kernel_rfl) (by kernel_rfl) (by kernel_rfl) (by kernel_rfl)]
 rw [add64_run x y c h w]; rfl
theorem ext119 (x y c : Int) (h : decide (c ≤ 1) = true) (w : World) : (callFunc 119 #[.int .u64 x, .int .u64 y, .int .u64 c]).run Tryd.prog w = .ok (.value (.tuple #[.int .u64 (sub64s x y c), .int .u64 (sub64c x y c)])) w := by
 rw [run_callFunc_extern (e := sub64Entry) Tryd.func119 (by kernel_rfl) (by kernel_rfl) (by kernel_rfl) (by kernel_rfl)]
 rw [sub64_run x y c h w]; rfl
theorem fld75_0 (v0 v1 v2 : Value) (w : World) : (Instr.field 75 (.agg #[v0, v1, v2]) 0).run Tryd.prog w = .ok (v0) w := by kernel_rfl
theorem fld75_1 (v0 v1 v2 : Value) (w : World) : (Instr.field 75 (.agg #[v0, v1, v2]) 1).run Tryd.prog w = .ok (v1) w := by kernel_rfl
theorem fld75_2 (v0 v1 v2 : Value) (w : World) : (Instr.field 75 (.agg #[v0, v1, v2]) 2).run Tryd.prog w = .ok (v2) w := by kernel_rfl
attribute [local go_sem] fld75_0 fld75_1 fld75_2 ext118 ext119
theorem eqA29 (d : Nat) (w : World) (x0 y0 : Int) (x1 y1 : Int) :
  (Op.equalIn (d + 2) 29 (.agg #[.int .u64 x0, .int .u8 x1]) (.agg #[.int .u64 y0, .int .u8 y1])).run Tryd.prog w = .ok (x0 == y0 && (x1 == y1)) w := by
 refine eqA_of Tryd.underlying29 (by kernel_rfl) ?_
 refine eqf_cons (by rfl) (by go_simp; rfl) (by go_simp; rfl) (by go_simp) ?_
 exact eqf_last (by rfl) (by go_simp; rfl) (by go_simp; rfl) (by go_simp)
def limbs_Trim.l0 : Nat → List Int → Int → Option (List Int)
 | 0, _, _ => none
 | k + 1, x0, x3 => if x3 > 0 then (if 0 ≤ (wrap64 (x3 - 1)) then (if (wrap64 (x3 - 1)) < (x0.length : Int) then (if (rd x0 (wrap64 (x3 - 1))) = 0 then (limbs_Trim.l0 k x0 (wrap64 (x3 - 1))) else (if 0 ≤ x3 then (if x3 ≤ (x0.length : Int) then (some (x0.take (x3 : Int).toNat)) else (none)) else (none))) else (none)) else (none)) else (if 0 ≤ x3 then (if x3 ≤ (x0.length : Int) then (some (x0.take (x3 : Int).toNat)) else (none)) else (none))
def limbs_Trim.f (k : Nat) (l0 : List Int) : Option (List Int) := limbs_Trim.l0 k l0 (l0.length : Int)
theorem limbs_Trim.mono_l : ∀ k, (∀ y0 y1, LeO (limbs_Trim.l0 k y0 y1) (limbs_Trim.l0 (k + 1) y0 y1))
 | 0 => fun _ _ r h => by simp [limbs_Trim.l0] at h
 | k + 1 => by
  have ih0 := limbs_Trim.mono_l k
  intro y0 y1
  unfold limbs_Trim.l0
  repeat' first
  | (with_reducible exact ih0 _ _)
  | (with_reducible exact LeO.refl _)
  | (with_reducible exact LeO.none _)
  | (with_reducible refine LeO.ite ?_ ?_)
  | (with_reducible refine LeO.bind ?_ (fun _ => ?_))
  | exact ih0 _ _
  | exact LeO.none _
  | refine LeO.ite ?_ ?_
  | refine LeO.bind ?_ (fun _ => ?_)
theorem limbs_Trim.mono : ∀ a0 k, LeO (limbs_Trim.f k a0) (limbs_Trim.f (k + 1) a0) := by
 intro a0 k
 have ih0 := limbs_Trim.mono_l k
 unfold limbs_Trim.f
 repeat' first
   | (with_reducible exact ih0 _ _)
   | (with_reducible exact LeO.refl _)
   | (with_reducible exact LeO.none _)
   | (with_reducible refine LeO.ite ?_ ?_)
   | (with_reducible refine LeO.bind ?_ (fun _ => ?_))
   | exact ih0 _ _
   | exact LeO.none _
   | refine LeO.ite ?_ ?_
   | refine LeO.bind ?_ (fun _ => ?_)
theorem cut_to3 {P : Program} (t e : TypeId) (kh km : IntKind) {i : TypeInfo} (ht : P.underlying t = some (.slice e)) (hi : P.info? e = some i) (A : Option Addr) (n c : Nat) (j : Int) (h0 : 0 ≤ j) (hm : j ≤ n) (hc : n ≤ c) :
  ∀ W : World, (Instr.slice t (.slice A n c) none (some (.int kh j)) (some (.int km j))).run P W = .ok (.slice A j.toNat j.toNat) W := by
 intro W
 obtain ⟨m, rfl⟩ := Int.eq_ofNat_of_zero_le h0
 have hb : ∀ (k : IntKind) (y : Nat) (code : BoundsCode) (w : World), m ≤ y → (Instr.sliceBound (.int k (m : Int)) y code).run P w = .ok m w := by
  intro k y code w hy
  have : (m : Int) ≤ (y : Int) := by omega
  simp [Instr.sliceBound, asIntOf, this]
 simp [Instr.slice, run_underlying ht, Instr.sliceBounds, hb _ c _ _ (by omega), hb _ m _ _ (Nat.le_refl m), sizeOf, typeInfo, hi, Result.andThen]
 cases A <;> simp [Addr.add]
set_option maxHeartbeats 8000000 in
set_option maxRecDepth 100000 in
theorem limbs_Trim.calls (k : Nat) (P0_ : Nat → Prop) (A0 : Option Addr) (c0 : Nat) (l0 : List Int) (r : List Int) (w : World) (hs0 : Kd.V (Kd.int .u64) 26 w w.heap.size (fun k_ => P0_ k_) (.slice A0 l0.length c0) l0) (h : limbs_Trim.f k l0 = some r) :
  Calls Tryd.prog 84 #[.slice A0 l0.length c0] w fun e w' => ∃ v0_ : Value, e = .returned (v0_) ∧ Kd.V (Kd.int .u64) 26 w' w.heap.size (fun k_ => (P0_ k_ ∨ w.heap.size ≤ k_)) v0_ r ∧ Below w.heap.size w w' := by
 have HO0 := zA (show Kd.V (Kd.int .u64) 26 w w.heap.size (fun k_ => (P0_ k_ ∨ w.heap.size ≤ k_)) (.slice A0 l0.length c0) l0 from V_mono hs0 (fun k_ hk => .inl hk))
 have HB := zA (Below.refl w.heap.size w)
 have H : (limbs_Trim.l0 k l0 (l0.length : Int)) = some r := h
 clear h
 have H' := zA H
 clear H
 go_enter Tryd.func84, Tryd.ntmps84
 go_wp2
 go_loopg [3] k (fun kq v3 w' => ∃ (x3_1 : Int), v3 = .int .i64 x3_1 ∧ Aside0 (limbs_Trim.l0 kq l0 x3_1 = some r) ∧ Aside0 (kq ≤ k) ∧ Aside0 (Kd.V (Kd.int .u64) 26 w' w.heap.size (fun k_ => (P0_ k_ ∨ w.heap.size ≤ k_)) (.slice A0 l0.length c0) l0) ∧ Aside0 (Below w.heap.size w w'))
 case atStart => exact ⟨((l0.length : Int)), zi, H', ⟨Nat.le_refl _⟩, ⟨vu HO0.out⟩, ⟨bq⟩⟩
 case round =>
  clear H'
  obtain ⟨x3_1, rfl, HA, HK1, HO_0, HB⟩ := hrel
  cases gk with
  | zero => exact absurd HA.out (by simp [limbs_Trim.l0])
  | succ k1 =>
   have H := HA.out
   clear HA
   simp only [limbs_Trim.l0] at H
   by_cases c2 : x3_1 > 0
   ·rw [if_pos c2] at H
    have c2b0 := decide_eq_true c2
    clear c2
    obtain ⟨ji3, hji3⟩ : ∃ j_ : Int, (wrap64 (x3_1 - 1)) = j_ := ⟨_, rfl⟩
    replace H : (if 0 ≤ (ji3) then (if (ji3) < (l0.length : Int) then (if (rd l0 (ji3)) = 0 then (limbs_Trim.l0 k1 l0 ji3) else (if 0 ≤ x3_1 then (if x3_1 ≤ (l0.length : Int) then (some (l0.take (x3_1 : Int).toNat)) else (none)) else (none))) else (none)) else (none)) = some r := zQ hji3 H
    have hji3w : (IntKind.i64.wrap (x3_1 - 1)) = ji3 := (i64_w _).trans hji3
    replace H := dn H
    obtain ⟨c4, H⟩ := H
    have c4b0 := decide_eq_true c4
    clear c4
    replace H := dn H
    obtain ⟨c5, H⟩ := H
    have c5b0 := decide_eq_true c5
    clear c5
    by_cases c6 : (rd l0 (ji3)) = 0
    ·rw [if_pos c6] at H
     have c6b0 := beq_iff_eq.mpr c6
     have c6b1 := bne_eq_false_iff_eq.mpr c6
     clear c6
     have H' := zA H
     clear H
     have p101 : 0 ≤ ((ji3) : Int) := od
     have q101 : (ji3) < (l0.length : Int) := od
     obtain ⟨ad101, e101, hx101_0⟩ := Kd.at_int (V_reads' HO_0.out).2.2 (ji3) p101 q101
     cases e101
     replace p101 := eq_true p101
     replace q101 := eq_true q101
     go_wp2
     go_roundg k1
     case measure => have := HK1.out; omega
     case rel => exact ⟨(ji3), (by first | rfl | (simp; done) | (simp only [← hji3] <;> (first | rfl | simp)) | (simp [*]; done)), (by first | exact H' | (simp only [hji3]; exact H') | (simp only [hji3] at H' ⊢; exact H')), ⟨by have := HK1.out; omega⟩, ⟨vu HO_0.out⟩, ⟨bq⟩⟩
    rw [if_neg c6] at H
    have c6b0 := beq_eq_false_iff_ne.mpr c6
    have c6b1 := bne_iff_ne.mpr c6
    replace H := dn H
    obtain ⟨c7, H⟩ := H
    have c7b0 := eq_true c7
    have c7b1 := decide_eq_true c7
    clear c7
    replace H := dn H
    obtain ⟨c8, H⟩ := H
    have c8b0 := eq_true c8
    have c8b1 := decide_eq_true c8
    clear c8
    obtain ⟨y102, hy102⟩ : ∃ y_ : List Int, y_ = (l0.take (x3_1 : Int).toNat) := ⟨_, rfl⟩
    replace H : (some y102) = some r := zR hy102 H
    have Ny102 := zA hy102
    clear hy102
    obtain rfl := Option.some.inj H
    have p101 : 0 ≤ ((ji3) : Int) := od
    have q101 : (ji3) < (l0.length : Int) := od
    obtain ⟨ad101, e101, hx101_0⟩ := Kd.at_int (V_reads' HO_0.out).2.2 (ji3) p101 q101
    cases e101
    replace p101 := eq_true p101
    replace q101 := eq_true q101
    have q9 : (x3_1 : Int) ≤ ((l0.length : Int) : Int) := od
    obtain ⟨i09, hi09, _, hsz9, _⟩ := info_parts info26
    have hroom9 : l0.length ≤ c0 := (V_reads' HO_0.out).2.1
    have hC9 : Kd.F (Kd.int .u64) _ _ (some ad101) l0.length l0 := (V_at (base := w.heap.size) HO_0.out).2.2
    have hcut9 := cut_to3 (P := Tryd.prog) 22 26 .i64 .i64 Tryd.underlying22 hi09 (some ad101) l0.length c0 x3_1 (od) q9 hroom9
    have hr9 := Kd.F_take (m := (x3_1 : Int).toNat) hC9 (by omega)
    have hy9 : y102.length = (x3_1 : Int).toNat := (by rw [Ny102.out, List.length_take]; omega)
    rw [← Ny102.out] at hr9
    rw [← hy9] at hcut9
    have HO106 := zA (show Kd.V (Kd.int .u64) 26 _ w.heap.size _ (.slice (some ad101) y102.length y102.length) y102 from V_mk (Nat.le_refl _) hr9)
    have HC106 := zA (show y102.length ≤ y102.length from Nat.le_refl _)
    clear hr9 hC9 hroom9 hi09 hsz9
    have KY9 := zA hy9
    clear hy9
    replace q9 := eq_true q9
    go_wp2
    go_ret
    exact ⟨_, by first | rfl | (simp [errW_none, errW_some] <;> rfl) | (simp only [← hji3]; first | rfl | (simp [errW_none, errW_some] <;> rfl)) | (simp [*, errW_none, errW_some] <;> rfl), vu HO106.out, bq⟩
   rw [if_neg c2] at H
   have c2b0 := decide_eq_false c2
   clear c2
   replace H := dn H
   obtain ⟨c10, H⟩ := H
   have c10b0 := eq_true c10
   have c10b1 := decide_eq_true c10
   clear c10
   replace H := dn H
   obtain ⟨c11, H⟩ := H
   have c11b0 := eq_true c11
   have c11b1 := decide_eq_true c11
   clear c11
   obtain ⟨y107, hy107⟩ : ∃ y_ : List Int, y_ = (l0.take (x3_1 : Int).toNat) := ⟨_, rfl⟩
   replace H : (some y107) = some r := zR hy107 H
   have Ny107 := zA hy107
   clear hy107
   obtain rfl := Option.some.inj H
   have q12 : (x3_1 : Int) ≤ ((l0.length : Int) : Int) := od
   obtain ⟨i012, hi012, _, hsz12, _⟩ := info_parts info26
   have hroom12 : l0.length ≤ c0 := (V_reads' HO_0.out).2.1
   have hC12 : Kd.F (Kd.int .u64) _ _ A0 l0.length l0 := (V_at (base := w.heap.size) HO_0.out).2.2
   have hcut12 := cut_to3 (P := Tryd.prog) 22 26 .i64 .i64 Tryd.underlying22 hi012 A0 l0.length c0 x3_1 (od) q12 hroom12
   have hr12 := Kd.F_take (m := (x3_1 : Int).toNat) hC12 (by omega)
   have hy12 : y107.length = (x3_1 : Int).toNat := (by rw [Ny107.out, List.length_take]; omega)
   rw [← Ny107.out] at hr12
   rw [← hy12] at hcut12
   have HO111 := zA (show Kd.V (Kd.int .u64) 26 _ w.heap.size _ (.slice A0 y107.length y107.length) y107 from V_mk (Nat.le_refl _) hr12)
   have HC111 := zA (show y107.length ≤ y107.length from Nat.le_refl _)
   clear hr12 hC12 hroom12 hi012 hsz12
   have KY12 := zA hy12
   clear hy12
   replace q12 := eq_true q12
   go_wp2
   go_ret
   exact ⟨_, er, vu HO111.out, bq⟩
def raw_Fits.f (k : Nat) (a0_0 : Bool) (l0_1 : List Int) (a0_2 : Int) : Option (Bool) := (limbs_Trim.f k l0_1).bind fun t113 => (if (t113.length : Int) ≤ 1024 then (if a0_2 ≥ (-32768) then (some (decide (a0_2 ≤ 32768))) else (some false)) else (some false))
theorem raw_Fits.mono : ∀ a0 a1 a2 k, LeO (raw_Fits.f k a0 a1 a2) (raw_Fits.f (k + 1) a0 a1 a2) := by
 intro a0 a1 a2 k
 unfold raw_Fits.f
 repeat' first
   | (with_reducible exact limbs_Trim.mono _ _)
   | (with_reducible exact LeO.refl _)
   | (with_reducible exact LeO.none _)
   | (with_reducible refine LeO.ite ?_ ?_)
   | (with_reducible refine LeO.bind ?_ (fun _ => ?_))
   | exact limbs_Trim.mono _ _
   | exact LeO.none _
   | refine LeO.ite ?_ ?_
   | refine LeO.bind ?_ (fun _ => ?_)
set_option maxHeartbeats 8000000 in
set_option maxRecDepth 100000 in
theorem raw_Fits.calls (k : Nat) (a0_0 : Bool) (A0_1 : Option Addr) (c0_1 : Nat) (l0_1 : List Int) (a0_2 : Int) (r : Bool) (w : World) (hr0_1 : Kd.C (Kd.int .u64) w A0_1 l0_1.length l0_1) (hc0_1 : l0_1.length ≤ c0_1) (h : raw_Fits.f k a0_0 l0_1 a0_2 = some r) :
  Calls Tryd.prog 63 #[.agg #[.bool a0_0, .slice A0_1 l0_1.length c0_1, .int .i64 a0_2]] w fun e w' => e = .returned (.bool r) ∧ Below w.heap.size w w' := by
 have hu25 := Tryd.underlying25
 have HR0_1 := zA hr0_1
 have HC0_1 := zA hc0_1
 clear hr0_1 hc0_1
 have HB := zA (Below.refl w.heap.size w)
 have H : ((limbs_Trim.f k l0_1).bind fun t113 => (if (t113.length : Int) ≤ 1024 then (if a0_2 ≥ (-32768) then (some (decide (a0_2 ≤ 32768))) else (some false)) else (some false))) = some r := h
 clear h
 obtain ⟨t113, A2, H⟩ := zh H
 by_cases c3 : (t113.length : Int) ≤ 1024
 ·rw [if_pos c3] at H
  have c3b0 := decide_eq_true c3
  have c3b1 : decide (t113.length ≤ 1024) = true := decide_eq_true (by omega)
  clear c3
  by_cases c4 : a0_2 ≥ (-32768)
  ·rw [if_pos c4] at H
   have c4b0 := decide_eq_true c4
   clear c4
   obtain rfl := Option.some.inj H
   go_enter Tryd.func63, Tryd.ntmps63
   go_wp2_with (first | ((with_reducible refine zD 1 rfl ?_); refine zn (N := 1) (cs := #[.bool a0_0, .slice A0_1 l0_1.length c0_1, .int .i64 a0_2]) (t := 25) rfl rfl ?_; intro gb112 hg w5 hbox hb; have BK112 := zA (hbox); have GW112 := zw hg; replace HB := ze hb; clear hb hbox hg; obtain ⟨_, _, _, _, _, _⟩ := zc BK112) | ((with_reducible refine zG 84 rfl ?_); refine zL (some 5) rfl rfl Tryd.func84 #[.slice A0_1 l0_1.length c0_1] rfl ?_; (with_reducible refine (limbs_Trim.calls k (fun k_ => k_ < w.heap.size) _ _ l0_1 t113 _ ?side1 A2.out).mono ?_); (case side1 => exact V_mk HC0_1.out (Kd.F_below (C_F (Kd.heap_int .u64) HR0_1.out) zs)); rintro e w7 ⟨v114, rfl, ho0, hb⟩; refine ⟨_, rfl, ?_⟩; have HO115 := zA (V_lower (V_mono (ok' := fun k_ => k_ ≠ gb112) ho0 (fun k_ hk_ => Or.elim hk_ (fun hs_ => fun e_ => Nat.not_le.2 hs_ (by rw [e_]; exact GW112.out)) (fun hn_ => (zj BK112 k_ hn_)))) (below_size zs)); replace BK112 := zb BK112 hb; replace HB := zf hb; (try clear ho0); obtain ⟨Ao8, co8, eo8⟩ := V_slice HO115.out; subst eo8; obtain ⟨hcz9_0, hcz9_1, hcz9_2, hfz9_0, hfz9_1, hfz9_2⟩ := zc BK112))
   go_ret
   exact ⟨er, zs⟩
  rw [if_neg c4] at H
  have c4b0 := decide_eq_false c4
  clear c4
  obtain rfl := Option.some.inj H
  go_enter Tryd.func63, Tryd.ntmps63
  go_wp2_with (first | ((with_reducible refine zD 1 rfl ?_); refine zn (N := 1) (cs := #[.bool a0_0, .slice A0_1 l0_1.length c0_1, .int .i64 a0_2]) (t := 25) rfl rfl ?_; intro gb112 hg w10 hbox hb; have BK112 := zA (hbox); have GW112 := zw hg; replace HB := ze hb; clear hb hbox hg; obtain ⟨_, _, _, _, _, _⟩ := zc BK112) | ((with_reducible refine zG 84 rfl ?_); refine zL (some 5) rfl rfl Tryd.func84 #[.slice A0_1 l0_1.length c0_1] rfl ?_; (with_reducible refine (limbs_Trim.calls k (fun k_ => k_ < w.heap.size) _ _ l0_1 t113 _ ?side1 A2.out).mono ?_); (case side1 => exact V_mk HC0_1.out (Kd.F_below (C_F (Kd.heap_int .u64) HR0_1.out) zs)); rintro e w12 ⟨v114, rfl, ho0, hb⟩; refine ⟨_, rfl, ?_⟩; have HO115 := zA (V_lower (V_mono (ok' := fun k_ => k_ ≠ gb112) ho0 (fun k_ hk_ => Or.elim hk_ (fun hs_ => fun e_ => Nat.not_le.2 hs_ (by rw [e_]; exact GW112.out)) (fun hn_ => (zj BK112 k_ hn_)))) (below_size zs)); replace BK112 := zb BK112 hb; replace HB := zf hb; (try clear ho0); obtain ⟨Ao13, co13, eo13⟩ := V_slice HO115.out; subst eo13; obtain ⟨hcz14_0, hcz14_1, hcz14_2, hfz14_0, hfz14_1, hfz14_2⟩ := zc BK112))
  go_ret
  exact ⟨er, zs⟩
 rw [if_neg c3] at H
 have c3b0 := decide_eq_false c3
 have c3b1 : decide (t113.length ≤ 1024) = false := decide_eq_false (by omega)
 clear c3
 obtain rfl := Option.some.inj H
 go_enter Tryd.func63, Tryd.ntmps63
 go_wp2_with (first | ((with_reducible refine zD 1 rfl ?_); refine zn (N := 1) (cs := #[.bool a0_0, .slice A0_1 l0_1.length c0_1, .int .i64 a0_2]) (t := 25) rfl rfl ?_; intro gb112 hg w15 hbox hb; have BK112 := zA (hbox); have GW112 := zw hg; replace HB := ze hb; clear hb hbox hg; obtain ⟨_, _, _, _, _, _⟩ := zc BK112) | ((with_reducible refine zG 84 rfl ?_); refine zL (some 5) rfl rfl Tryd.func84 #[.slice A0_1 l0_1.length c0_1] rfl ?_; (with_reducible refine (limbs_Trim.calls k (fun k_ => k_ < w.heap.size) _ _ l0_1 t113 _ ?side1 A2.out).mono ?_); (case side1 => exact V_mk HC0_1.out (Kd.F_below (C_F (Kd.heap_int .u64) HR0_1.out) zs)); rintro e w17 ⟨v114, rfl, ho0, hb⟩; refine ⟨_, rfl, ?_⟩; have HO115 := zA (V_lower (V_mono (ok' := fun k_ => k_ ≠ gb112) ho0 (fun k_ hk_ => Or.elim hk_ (fun hs_ => fun e_ => Nat.not_le.2 hs_ (by rw [e_]; exact GW112.out)) (fun hn_ => (zj BK112 k_ hn_)))) (below_size zs)); replace BK112 := zb BK112 hb; replace HB := zf hb; (try clear ho0); obtain ⟨Ao18, co18, eo18⟩ := V_slice HO115.out; subst eo18))
 go_ret
 exact ⟨er, zs⟩
def dyad_number_right.f (k : Nat) (a0_0 : Bool) (l0_1 : List Int) (a0_2 : Int) : Option (Bool) := (raw_Fits.f k a0_0 l0_1 a0_2).bind fun t117 => (some t117)
theorem dyad_number_right.mono : ∀ a0 a1 a2 k, LeO (dyad_number_right.f k a0 a1 a2) (dyad_number_right.f (k + 1) a0 a1 a2) := by
 intro a0 a1 a2 k
 unfold dyad_number_right.f
 repeat' first
   | (with_reducible exact raw_Fits.mono _ _ _ _)
   | (with_reducible exact LeO.refl _)
   | (with_reducible exact LeO.none _)
   | (with_reducible refine LeO.ite ?_ ?_)
   | (with_reducible refine LeO.bind ?_ (fun _ => ?_))
   | exact raw_Fits.mono _ _ _ _
   | exact LeO.none _
   | refine LeO.ite ?_ ?_
   | refine LeO.bind ?_ (fun _ => ?_)
set_option maxHeartbeats 8000000 in
set_option maxRecDepth 100000 in
theorem dyad_number_right.calls (k : Nat) (a0_0 : Bool) (A0_1 : Option Addr) (c0_1 : Nat) (l0_1 : List Int) (a0_2 : Int) (r : Bool) (w : World) (hr0_1 : Kd.C (Kd.int .u64) w A0_1 l0_1.length l0_1) (hc0_1 : l0_1.length ≤ c0_1) (h : dyad_number_right.f k a0_0 l0_1 a0_2 = some r) :
  Calls Tryd.prog 53 #[.agg #[.bool a0_0, .slice A0_1 l0_1.length c0_1, .int .i64 a0_2]] w fun e w' => e = .returned (.bool r) ∧ Below w.heap.size w w' := by
 have hu70 := Tryd.underlying70
 have HR0_1 := zA hr0_1
 have HC0_1 := zA hc0_1
 clear hr0_1 hc0_1
 have HB := zA (Below.refl w.heap.size w)
 have H : ((raw_Fits.f k a0_0 l0_1 a0_2).bind fun t117 => (some t117)) = some r := h
 clear h
 obtain ⟨t117, A2, H⟩ := zh H
 obtain rfl := Option.some.inj H
 go_enter Tryd.func53, Tryd.ntmps53
 go_wp2_with (first | ((with_reducible refine zD 1 rfl ?_); refine zn (N := 1) (cs := #[.bool a0_0, .slice A0_1 l0_1.length c0_1, .int .i64 a0_2]) (t := 70) rfl rfl ?_; intro gb116 hg w3 hbox hb; have BK116 := zA (hbox); have GW116 := zw hg; replace HB := ze hb; clear hb hbox hg; obtain ⟨_, _, _, _, _, _⟩ := zc BK116) | ((with_reducible refine zG 63 rfl ?_); refine zL (some 4) rfl rfl Tryd.func63 #[.agg #[.bool a0_0, .slice A0_1 l0_1.length c0_1, .int .i64 a0_2]] rfl ?_; (with_reducible refine (raw_Fits.calls k a0_0 _ _ l0_1 a0_2 t117 _ ?side1 ?side2 A2.out).mono ?_); (case side1 => exact zk (C_below HR0_1.out HB.out)); (case side2 => exact HC0_1.out); rintro e w5 ⟨rfl, hb⟩; refine ⟨_, rfl, ?_⟩; replace BK116 := zb BK116 hb; replace HB := zf hb))
 go_ret
 exact ⟨er, zs⟩
def dyad_Check.f (k : Nat) (a0_0 : Bool) (l0_1 : List Int) (a0_2 : Int) : Option (Int) := (dyad_number_right.f k a0_0 l0_1 a0_2).bind fun t119 => (if t119 = true then (some 0) else (some 2))
theorem dyad_Check.mono : ∀ a0 a1 a2 k, LeO (dyad_Check.f k a0 a1 a2) (dyad_Check.f (k + 1) a0 a1 a2) := by
 intro a0 a1 a2 k
 unfold dyad_Check.f
 repeat' first
   | (with_reducible exact dyad_number_right.mono _ _ _ _)
   | (with_reducible exact LeO.refl _)
   | (with_reducible exact LeO.none _)
   | (with_reducible refine LeO.ite ?_ ?_)
   | (with_reducible refine LeO.bind ?_ (fun _ => ?_))
   | exact dyad_number_right.mono _ _ _ _
   | exact LeO.none _
   | refine LeO.ite ?_ ?_
   | refine LeO.bind ?_ (fun _ => ?_)
set_option maxHeartbeats 8000000 in
set_option maxRecDepth 100000 in
theorem dyad_Check.calls (k : Nat) (a0_0 : Bool) (A0_1 : Option Addr) (c0_1 : Nat) (l0_1 : List Int) (a0_2 : Int) (r : Int) (w : World) (hr0_1 : Kd.C (Kd.int .u64) w A0_1 l0_1.length l0_1) (hc0_1 : l0_1.length ≤ c0_1) (h : dyad_Check.f k a0_0 l0_1 a0_2 = some r) :
  Calls Tryd.prog 32 #[.agg #[.bool a0_0, .slice A0_1 l0_1.length c0_1, .int .i64 a0_2]] w fun e w' => e = .returned (.int .i64 r) ∧ Below w.heap.size w w' := by
 have hu25 := Tryd.underlying25
 have HR0_1 := zA hr0_1
 have HC0_1 := zA hc0_1
 clear hr0_1 hc0_1
 have HB := zA (Below.refl w.heap.size w)
 have H : ((dyad_number_right.f k a0_0 l0_1 a0_2).bind fun t119 => (if t119 = true then (some 0) else (some 2))) = some r := h
 clear h
 obtain ⟨t119, A2, H⟩ := zh H
 by_cases c3 : t119 = true
 ·subst c3
  rw [if_pos rfl] at H
  obtain rfl := Option.some.inj H
  go_enter Tryd.func32, Tryd.ntmps32
  go_wp2_with (first | ((with_reducible refine zD 1 rfl ?_); refine zn (N := 1) (cs := #[.bool a0_0, .slice A0_1 l0_1.length c0_1, .int .i64 a0_2]) (t := 25) rfl rfl ?_; intro gb118 hg w4 hbox hb; have BK118 := zA (hbox); have GW118 := zw hg; replace HB := ze hb; clear hb hbox hg; obtain ⟨_, _, _, _, _, _⟩ := zc BK118) | ((with_reducible refine zG 53 rfl ?_); refine zL (some 4) rfl rfl Tryd.func53 #[.agg #[.bool a0_0, .slice A0_1 l0_1.length c0_1, .int .i64 a0_2]] rfl ?_; (with_reducible refine (dyad_number_right.calls k a0_0 _ _ l0_1 a0_2 true _ ?side1 ?side2 A2.out).mono ?_); (case side1 => exact zk (C_below HR0_1.out HB.out)); (case side2 => exact HC0_1.out); rintro e w6 ⟨rfl, hb⟩; refine ⟨_, rfl, ?_⟩; replace BK118 := zb BK118 hb; replace HB := zf hb))
  go_ret
  exact ⟨er, zs⟩
 replace c3 := Bool.eq_false_iff.mpr c3
 subst c3
 rw [if_neg (show ¬ (false = true) by decide)] at H
 obtain rfl := Option.some.inj H
 go_enter Tryd.func32, Tryd.ntmps32
 go_wp2_with (first | ((with_reducible refine zD 1 rfl ?_); refine zn (N := 1) (cs := #[.bool a0_0, .slice A0_1 l0_1.length c0_1, .int .i64 a0_2]) (t := 25) rfl rfl ?_; intro gb118 hg w7 hbox hb; have BK118 := zA (hbox); have GW118 := zw hg; replace HB := ze hb; clear hb hbox hg; obtain ⟨_, _, _, _, _, _⟩ := zc BK118) | ((with_reducible refine zG 53 rfl ?_); refine zL (some 4) rfl rfl Tryd.func53 #[.agg #[.bool a0_0, .slice A0_1 l0_1.length c0_1, .int .i64 a0_2]] rfl ?_; (with_reducible refine (dyad_number_right.calls k a0_0 _ _ l0_1 a0_2 false _ ?side1 ?side2 A2.out).mono ?_); (case side1 => exact zk (C_below HR0_1.out HB.out)); (case side2 => exact HC0_1.out); rintro e w9 ⟨rfl, hb⟩; refine ⟨_, rfl, ?_⟩; replace BK118 := zb BK118 hb; replace HB := zf hb))
 go_ret
 exact ⟨er, zs⟩
def bits_Neg.f (a0 : Int) : Option (Int) := some (Go.bits .xor .u64 a0 9223372036854775808)
set_option maxHeartbeats 8000000 in
set_option maxRecDepth 100000 in
theorem bits_Neg.calls (a0 : Int) (r : Int) (w : World) (h : bits_Neg.f a0 = some r) :
  Calls Tryd.prog 17 #[.int .u64 a0] w fun e w' => e = .returned (.int .u64 r) ∧ Drawn0 w w' := by
 have H : (some (Go.bits .xor .u64 a0 9223372036854775808)) = some r := h
 clear h
 obtain rfl := Option.some.inj H
 go_enter Tryd.func17, Tryd.ntmps17
 go_wp2
 go_ret
 exact ⟨by first | rfl | (simp; done) | (simp [*]; done), by repeat (first | exact Drawn0.refl _ | apply Drawn0.step)⟩
def nat_number_own.f (l0 : List Int) : Option (List Int) := if ([] : List Int).length + l0.length < 17592186044416 then (some (([] : List Int) ++ l0)) else (none)
set_option maxHeartbeats 8000000 in
set_option maxRecDepth 100000 in
theorem nat_number_own.calls (A0 : Option Addr) (c0 : Nat) (l0 : List Int) (r : List Int) (w : World) (hr0 : Kd.C (Kd.int .u64) w A0 l0.length l0) (hc0 : l0.length ≤ c0) (h : nat_number_own.f l0 = some r) :
  Calls Tryd.prog 96 #[.slice A0 l0.length c0] w fun e w' => ∃ v0_ : Value, e = .returned (v0_) ∧ Kd.R (Kd.int .u64) 26 w' w.heap.size (fun _ => True) v0_ r ∧ Below w.heap.size w w' := by
 have HR0 := zA hr0
 have HC0 := zA hc0
 clear hr0 hc0
 have HB := zA (Below.refl w.heap.size w)
 have H : (if ([] : List Int).length + l0.length < 17592186044416 then (some (([] : List Int) ++ l0)) else (none)) = some r := h
 clear h
 replace H := dn H
 obtain ⟨c2, H⟩ := H
 have LMc2 := zA c2
 clear c2
 obtain ⟨y120, hy120⟩ : ∃ y_ : List Int, y_ = (([] : List Int) ++ l0) := ⟨_, rfl⟩
 replace H : (some y120) = some r := zR hy120 H
 have Ny120 := zA hy120
 clear hy120
 obtain rfl := Option.some.inj H
 go_enter Tryd.func96, Tryd.ntmps96
 go_wp2_with (first | ((with_reducible refine gate_builtin (b := .append) (xs := #[.const (.slice none 0 0), .tmp 3]) rfl ?_); at_builtin; refine Kd.R_append_rows2 (Kd.int .u64) (w0 := w) w.heap.size rfl (.const (.slice none 0 0)) (.tmp 3) 23 106 26 (.int .u64 0) 8 rfl Tryd.underlying23 Tryd.underlying106 info26 rfl (by decide) (by omega) (.slice none 0 0) ([] : List Int) l0 _ _ _ (fun _ => True) (fun _ => False) rfl rfl ?aO ?aR (fun _ _ h => h) (fun _ h => h.elim) ?aF ?aB ?aS ?aL ?_; (case aR => repeat (first | exact HR0.out | (with_reducible refine C_alloc ?_ _) | (with_reducible refine C_drewN ?_ _) | (with_reducible refine C_drew ?_))); (case aB => exact bq); (case aF => exact (fun _ _ => trivial)); (case aO => exact ((R_nil _ _ _ _ (fun _ => True)))); (case aS => exact (below_size bq)); (case aL => have := LMc2.out; omega); intro v121 w3 ho hb hg hat; rw [← Ny120.out] at ho; replace HB := zA (hb); have HO122 := zA (ho); clear ho hb hg hat))
 go_ret
 exact ⟨_, er, ru HO122.out, bq⟩
def nat_norm.l0 : Nat → List Int → Option (List Int)
 | 0, _ => none
 | k + 1, x0 => if (x0.length : Int) > 0 then (if 0 ≤ (wrap64 ((x0.length : Int) - 1)) then (if (wrap64 ((x0.length : Int) - 1)) < (x0.length : Int) then (if (rd x0 (wrap64 ((x0.length : Int) - 1))) = 0 then (if (wrap64 ((x0.length : Int) - 1)) ≤ (x0.length : Int) then (nat_norm.l0 k (x0.take ((wrap64 ((x0.length : Int) - 1)) : Int).toNat)) else (none)) else (some x0)) else (none)) else (none)) else (some x0)
def nat_norm.f (k : Nat) (l0 : List Int) : Option (List Int) := nat_norm.l0 k l0
theorem nat_norm.mono_l : ∀ k, (∀ y0, LeO (nat_norm.l0 k y0) (nat_norm.l0 (k + 1) y0))
 | 0 => fun _ r h => by simp [nat_norm.l0] at h
 | k + 1 => by
  have ih0 := nat_norm.mono_l k
  intro y0
  unfold nat_norm.l0
  repeat' first
  | (with_reducible exact ih0 _)
  | (with_reducible exact LeO.refl _)
  | (with_reducible exact LeO.none _)
  | (with_reducible refine LeO.ite ?_ ?_)
  | (with_reducible refine LeO.bind ?_ (fun _ => ?_))
  | exact ih0 _
  | exact LeO.none _
  | refine LeO.ite ?_ ?_
  | refine LeO.bind ?_ (fun _ => ?_)
theorem nat_norm.mono : ∀ a0 k, LeO (nat_norm.f k a0) (nat_norm.f (k + 1) a0) := by
 intro a0 k
 have ih0 := nat_norm.mono_l k
 unfold nat_norm.f
 repeat' first
   | (with_reducible exact ih0 _)
   | (with_reducible exact LeO.refl _)
   | (with_reducible exact LeO.none _)
   | (with_reducible refine LeO.ite ?_ ?_)
   | (with_reducible refine LeO.bind ?_ (fun _ => ?_))
   | exact ih0 _
   | exact LeO.none _
   | refine LeO.ite ?_ ?_
   | refine LeO.bind ?_ (fun _ => ?_)
set_option maxHeartbeats 8000000 in
set_option maxRecDepth 100000 in
theorem nat_norm.calls (k : Nat) (P0_ : Nat → Prop) (A0 : Option Addr) (c0 : Nat) (l0 : List Int) (r : List Int) (w : World) (hs0 : Kd.V (Kd.int .u64) 26 w w.heap.size (fun k_ => P0_ k_) (.slice A0 l0.length c0) l0) (h : nat_norm.f k l0 = some r) :
  Calls Tryd.prog 95 #[.slice A0 l0.length c0] w fun e w' => ∃ v0_ : Value, e = .returned (v0_) ∧ Kd.V (Kd.int .u64) 26 w' w.heap.size (fun k_ => (P0_ k_ ∨ w.heap.size ≤ k_)) v0_ r ∧ Below w.heap.size w w' := by
 have HO0 := zA (show Kd.V (Kd.int .u64) 26 w w.heap.size (fun k_ => (P0_ k_ ∨ w.heap.size ≤ k_)) (.slice A0 l0.length c0) l0 from V_mono hs0 (fun k_ hk => .inl hk))
 have HB := zA (Below.refl w.heap.size w)
 have H : (nat_norm.l0 k l0) = some r := h
 clear h
 have H' := zA H
 clear H
 go_enter Tryd.func95, Tryd.ntmps95
 go_wp2
 go_loopg [0] k (fun kq v0 w' => ∃ (x0_1 : List Int), Aside0 (nat_norm.l0 kq x0_1 = some r) ∧ Aside0 (kq ≤ k) ∧ Aside0 (Kd.V (Kd.int .u64) 26 w' w.heap.size (fun k_ => (P0_ k_ ∨ w.heap.size ≤ k_)) v0 x0_1) ∧ Aside0 (Below w.heap.size w w'))
 case atStart => exact ⟨(l0), H', ⟨Nat.le_refl _⟩, ⟨vu HO0.out⟩, ⟨bq⟩⟩
 case round =>
  clear H'
  obtain ⟨x0_1, HA, HK1, HO_0, HB⟩ := hrel
  cases gk with
  | zero => exact absurd HA.out (by simp [nat_norm.l0])
  | succ k1 =>
   have H := HA.out
   clear HA
   simp only [nat_norm.l0] at H
   by_cases c2 : (x0_1.length : Int) > 0
   ·rw [if_pos c2] at H
    have c2b0 := decide_eq_true c2
    have c2b1 : decide (0 < x0_1.length) = true := decide_eq_true (by omega)
    clear c2
    obtain ⟨ji3, hji3⟩ : ∃ j_ : Int, (wrap64 ((x0_1.length : Int) - 1)) = j_ := ⟨_, rfl⟩
    replace H : (if 0 ≤ (ji3) then (if (ji3) < (x0_1.length : Int) then (if (rd x0_1 (ji3)) = 0 then (if (ji3) ≤ (x0_1.length : Int) then (nat_norm.l0 k1 (x0_1.take ((ji3) : Int).toNat)) else (none)) else (some x0_1)) else (none)) else (none)) = some r := zQ hji3 H
    have hji3w : (IntKind.i64.wrap ((x0_1.length : Int) - 1)) = ji3 := (i64_w _).trans hji3
    replace H := dn H
    obtain ⟨c4, H⟩ := H
    have c4b0 := decide_eq_true c4
    clear c4
    replace H := dn H
    obtain ⟨c5, H⟩ := H
    have c5b0 := decide_eq_true c5
    clear c5
    by_cases c6 : (rd x0_1 (ji3)) = 0
    ·rw [if_pos c6] at H
     have c6b0 := beq_iff_eq.mpr c6
     have c6b1 := bne_eq_false_iff_eq.mpr c6
     clear c6
     have c7b0 := eq_true (od : 0 ≤ (ji3))
     replace H := dn H
     obtain ⟨c8, H⟩ := H
     have c8b0 := eq_true c8
     have c8b1 := decide_eq_true c8
     clear c8
     obtain ⟨y124, hy124⟩ : ∃ y_ : List Int, y_ = (x0_1.take ((ji3) : Int).toNat) := ⟨_, rfl⟩
     replace H : (nat_norm.l0 k1 y124) = some r := zR hy124 H
     have Ny124 := zA hy124
     clear hy124
     have H' := zA H
     clear H
     obtain ⟨Ao9, co9, eo9⟩ := V_slice HO_0.out
     subst eo9
     have p123 : 0 ≤ ((ji3) : Int) := od
     have q123 : (ji3) < (x0_1.length : Int) := od
     obtain ⟨ad123, e123, hx123_0⟩ := Kd.at_int (V_reads' HO_0.out).2.2 (ji3) p123 q123
     cases e123
     replace p123 := eq_true p123
     replace q123 := eq_true q123
     have q10 : ((ji3) : Int) ≤ ((x0_1.length : Int) : Int) := od
     obtain ⟨i010, hi010, _, hsz10, _⟩ := info_parts info26
     have hroom10 : x0_1.length ≤ co9 := (V_reads' HO_0.out).2.1
     have hC10 : Kd.F (Kd.int .u64) _ _ (some ad123) x0_1.length x0_1 := (V_at (base := w.heap.size) HO_0.out).2.2
     have hcut10 := cut_to (P := Tryd.prog) 23 26 .i64 Tryd.underlying23 hi010 (some ad123) x0_1.length co9 (ji3) (od) q10 hroom10
     have hr10 := Kd.F_take (m := ((ji3) : Int).toNat) hC10 (by omega)
     have hy10 : y124.length = ((ji3) : Int).toNat := (by rw [Ny124.out, List.length_take]; omega)
     rw [← Ny124.out] at hr10
     rw [← hy10] at hcut10
     have HO128 := zA (show Kd.V (Kd.int .u64) 26 _ w.heap.size _ (.slice (some ad123) y124.length co9) y124 from V_mk (by omega) hr10)
     have HC128 := zA (show y124.length ≤ co9 from by omega)
     clear hr10 hC10 hroom10 hi010 hsz10
     have KY10 := zA hy10
     clear hy10
     replace q10 := eq_true q10
     go_wp2
     go_roundg k1
     case measure => have := HK1.out; omega
     case rel => exact ⟨(y124), (by first | exact H' | (simp only [hji3]; exact H') | (simp only [hji3] at H' ⊢; exact H')), ⟨by have := HK1.out; omega⟩, ⟨vu HO128.out⟩, ⟨bq⟩⟩
    rw [if_neg c6] at H
    have c6b0 := beq_eq_false_iff_ne.mpr c6
    have c6b1 := bne_iff_ne.mpr c6
    obtain rfl := Option.some.inj H
    obtain ⟨Ao11, co11, eo11⟩ := V_slice HO_0.out
    subst eo11
    have p123 : 0 ≤ ((ji3) : Int) := od
    have q123 : (ji3) < (x0_1.length : Int) := od
    obtain ⟨ad123, e123, hx123_0⟩ := Kd.at_int (V_reads' HO_0.out).2.2 (ji3) p123 q123
    cases e123
    replace p123 := eq_true p123
    replace q123 := eq_true q123
    go_wp2
    go_ret
    exact ⟨_, by first | rfl | (simp [errW_none, errW_some] <;> rfl) | (simp only [← hji3]; first | rfl | (simp [errW_none, errW_some] <;> rfl)) | (simp [*, errW_none, errW_some] <;> rfl), vu HO_0.out, bq⟩
   rw [if_neg c2] at H
   have c2b0 := decide_eq_false c2
   have c2b1 : decide (0 < x0_1.length) = false := decide_eq_false (by omega)
   clear c2
   obtain rfl := Option.some.inj H
   obtain ⟨Ao12, co12, eo12⟩ := V_slice HO_0.out
   subst eo12
   go_wp2
   go_ret
   exact ⟨_, er, vu HO_0.out, bq⟩
def nat_number_great.f (l0 : List Int) : Option (Bool) := some (decide ((l0.length : Int) > 1024))
set_option maxHeartbeats 8000000 in
set_option maxRecDepth 100000 in
theorem nat_number_great.calls (A0 : Option Addr) (c0 : Nat) (l0 : List Int) (r : Bool) (w : World) (hr0 : Kd.C (Kd.int .u64) w A0 l0.length l0) (hc0 : l0.length ≤ c0) (h : nat_number_great.f l0 = some r) :
  Calls Tryd.prog 120 #[.slice A0 l0.length c0] w fun e w' => e = .returned (.bool r) ∧ Drawn0 w w' := by
 have HR0 := zA hr0
 have HC0 := zA hc0
 clear hr0 hc0
 have H : (some (decide ((l0.length : Int) > 1024))) = some r := h
 clear h
 obtain rfl := Option.some.inj H
 go_enter Tryd.func120, Tryd.ntmps120
 go_wp2
 go_ret
 exact ⟨by first | rfl | (simp; done) | (simp [*]; done), by repeat (first | exact Drawn0.refl _ | apply Drawn0.step)⟩
def nat_one.f (k : Nat) (l0 : List Int) : Option (List Int × Int) := (nat_norm.f k l0).bind fun t129 => ((nat_number_great.f t129).bind fun t132 => (if t132 = true then (some (([] : List Int), 3)) else (some (t129, 0))))
theorem nat_one.mono : ∀ a0 k, LeO (nat_one.f k a0) (nat_one.f (k + 1) a0) := by
 intro a0 k
 unfold nat_one.f
 repeat' first
   | (with_reducible exact nat_norm.mono _ _)
   | (with_reducible exact LeO.refl _)
   | (with_reducible exact LeO.none _)
   | (with_reducible refine LeO.ite ?_ ?_)
   | (with_reducible refine LeO.bind ?_ (fun _ => ?_))
   | exact nat_norm.mono _ _
   | exact LeO.none _
   | refine LeO.ite ?_ ?_
   | refine LeO.bind ?_ (fun _ => ?_)
set_option maxHeartbeats 8000000 in
set_option maxRecDepth 100000 in
theorem nat_one.calls (k : Nat) (P0_ : Nat → Prop) (A0 : Option Addr) (c0 : Nat) (l0 : List Int) (r1 : List Int) (r2 : Int) (w : World) (hs0 : Kd.V (Kd.int .u64) 26 w w.heap.size (fun k_ => P0_ k_) (.slice A0 l0.length c0) l0) (h : nat_one.f k l0 = some (r1, r2)) :
  Calls Tryd.prog 103 #[.slice A0 l0.length c0] w fun e w' => ∃ v0_ : Value, e = .returned (.tuple #[v0_, .int .i64 r2]) ∧ Kd.V (Kd.int .u64) 26 w' w.heap.size (fun k_ => (P0_ k_ ∨ w.heap.size ≤ k_)) v0_ r1 ∧ Below w.heap.size w w' := by
 have HO0 := zA (show Kd.V (Kd.int .u64) 26 w w.heap.size (fun k_ => (P0_ k_ ∨ w.heap.size ≤ k_)) (.slice A0 l0.length c0) l0 from V_mono hs0 (fun k_ hk => .inl hk))
 have HB := zA (Below.refl w.heap.size w)
 have H : ((nat_norm.f k l0).bind fun t129 => ((nat_number_great.f t129).bind fun t132 => (if t132 = true then (some (([] : List Int), 3)) else (some (t129, 0))))) = some (r1, r2) := h
 clear h
 obtain ⟨t129, A2, H⟩ := zh H
 obtain ⟨t132, A3, H⟩ := zh H
 by_cases c4 : t132 = true
 ·subst c4
  rw [if_pos rfl] at H
  simp only [Option.some.injEq, Prod.mk.injEq] at H
  obtain ⟨rfl, rfl⟩ := H
  go_enter Tryd.func103, Tryd.ntmps103
  go_wp2_with (first | ((with_reducible refine zG 95 rfl ?_); refine zL (some 6) rfl rfl Tryd.func95 #[.slice A0 l0.length c0] rfl ?_; (with_reducible refine (nat_norm.calls k (fun k_ => (P0_ k_ ∨ w.heap.size ≤ k_)) _ _ l0 t129 _ ?side1 A2.out).mono ?_); (case side1 => exact HO0.out); rintro e w5 ⟨v130, rfl, ho0, hb⟩; refine ⟨_, rfl, ?_⟩; replace HO0 := zA (V_below (vu HO0.out) hb); have HO131 := zA (V_lower (V_mono (ok' := fun k_ => (P0_ k_ ∨ w.heap.size ≤ k_)) ho0 (fun k_ hk_ => Or.elim hk_ (fun hs_ => hs_) (fun hn_ => (.inr (Nat.le_trans (below_size bq) hn_))))) (below_size bq)); replace HB := ze hb; (try clear ho0); obtain ⟨Ao6, co6, eo6⟩ := V_slice HO131.out; subst eo6) | ((with_reducible refine zG 120 rfl ?_); refine zL (some 8) rfl rfl Tryd.func120 #[.slice Ao6 t129.length co6] rfl ?_; (with_reducible refine (nat_number_great.calls _ _ t129 true _ ?side1 ?side2 A3.out).mono ?_); (case side1 => exact zk (V_reads' HO131.out).2.2); (case side2 => exact (V_reads' HO131.out).2.1); rintro e w' ⟨rfl, ⟨nd, rfl⟩⟩; refine ⟨_, rfl, ?_⟩))
  go_ret2
  exact ⟨_, er, V_nil _ _ _ _ _, bq⟩
 replace c4 := Bool.eq_false_iff.mpr c4
 subst c4
 rw [if_neg (show ¬ (false = true) by decide)] at H
 simp only [Option.some.injEq, Prod.mk.injEq] at H
 obtain ⟨rfl, rfl⟩ := H
 go_enter Tryd.func103, Tryd.ntmps103
 go_wp2_with (first | ((with_reducible refine zG 95 rfl ?_); refine zL (some 6) rfl rfl Tryd.func95 #[.slice A0 l0.length c0] rfl ?_; (with_reducible refine (nat_norm.calls k (fun k_ => (P0_ k_ ∨ w.heap.size ≤ k_)) _ _ l0 t129 _ ?side1 A2.out).mono ?_); (case side1 => exact HO0.out); rintro e w7 ⟨v130, rfl, ho0, hb⟩; refine ⟨_, rfl, ?_⟩; replace HO0 := zA (V_below (vu HO0.out) hb); have HO131 := zA (V_lower (V_mono (ok' := fun k_ => (P0_ k_ ∨ w.heap.size ≤ k_)) ho0 (fun k_ hk_ => Or.elim hk_ (fun hs_ => hs_) (fun hn_ => (.inr (Nat.le_trans (below_size bq) hn_))))) (below_size bq)); replace HB := ze hb; (try clear ho0); obtain ⟨Ao8, co8, eo8⟩ := V_slice HO131.out; subst eo8) | ((with_reducible refine zG 120 rfl ?_); refine zL (some 8) rfl rfl Tryd.func120 #[.slice Ao8 t129.length co8] rfl ?_; (with_reducible refine (nat_number_great.calls _ _ t129 false _ ?side1 ?side2 A3.out).mono ?_); (case side1 => exact zk (V_reads' HO131.out).2.2); (case side2 => exact (V_reads' HO131.out).2.1); rintro e w' ⟨rfl, ⟨nd, rfl⟩⟩; refine ⟨_, rfl, ?_⟩))
 go_ret2
 exact ⟨_, er, vu HO131.out, bq⟩
def nat_Norm.f (k : Nat) (l0 : List Int) : Option (List Int × Int) := (nat_one.f k l0).bind fun bt133 => (if bt133.2 = 0 then ((nat_number_own.f bt133.1).bind fun t137 => (some (t137, 0))) else (some (([] : List Int), bt133.2)))
theorem nat_Norm.mono : ∀ a0 k, LeO (nat_Norm.f k a0) (nat_Norm.f (k + 1) a0) := by
 intro a0 k
 unfold nat_Norm.f
 repeat' first
   | (with_reducible exact nat_one.mono _ _)
   | (with_reducible exact LeO.refl _)
   | (with_reducible exact LeO.none _)
   | (with_reducible refine LeO.ite ?_ ?_)
   | (with_reducible refine LeO.bind ?_ (fun _ => ?_))
   | exact nat_one.mono _ _
   | exact LeO.none _
   | refine LeO.ite ?_ ?_
   | refine LeO.bind ?_ (fun _ => ?_)
set_option maxHeartbeats 8000000 in
set_option maxRecDepth 100000 in
theorem nat_Norm.calls (k : Nat) (A0 : Option Addr) (c0 : Nat) (l0 : List Int) (r1 : List Int) (r2 : Int) (w : World) (hr0 : Kd.C (Kd.int .u64) w A0 l0.length l0) (hc0 : l0.length ≤ c0) (h : nat_Norm.f k l0 = some (r1, r2)) :
  Calls Tryd.prog 75 #[.slice A0 l0.length c0] w fun e w' => ∃ v0_ : Value, e = .returned (.tuple #[v0_, .int .i64 r2]) ∧ Kd.R (Kd.int .u64) 26 w' w.heap.size (fun _ => True) v0_ r1 ∧ Below w.heap.size w w' := by
 have HR0 := zA hr0
 have HC0 := zA hc0
 clear hr0 hc0
 have HB := zA (Below.refl w.heap.size w)
 have H : ((nat_one.f k l0).bind fun bt133 => (if bt133.2 = 0 then ((nat_number_own.f bt133.1).bind fun t137 => (some (t137, 0))) else (some (([] : List Int), bt133.2)))) = some (r1, r2) := h
 clear h
 obtain ⟨⟨t133, t136⟩, A2, H⟩ := zh H
 (try dsimp only at H)
 by_cases c3 : t136 = 0
 ·rw [if_pos c3] at H
  have c3b0 := beq_iff_eq.mpr c3
  have c3b1 := bne_eq_false_iff_eq.mpr c3
  clear c3
  obtain ⟨t137, A4, H⟩ := zh H
  simp only [Option.some.injEq, Prod.mk.injEq] at H
  obtain ⟨rfl, rfl⟩ := H
  go_enter Tryd.func75, Tryd.ntmps75
  go_wp2_with (first | ((with_reducible refine zG 103 rfl ?_); refine zL (some 8) rfl rfl Tryd.func103 #[.slice A0 l0.length c0] rfl ?_; (with_reducible refine (nat_one.calls k (fun k_ => k_ < w.heap.size) _ _ l0 t133 t136 _ ?side1 A2.out).mono ?_); (case side1 => exact V_mk HC0.out (Kd.F_below (C_F (Kd.heap_int .u64) HR0.out) bq)); rintro e w5 ⟨v134, rfl, ho0, hb⟩; refine ⟨_, rfl, ?_⟩; have HO135 := zA (V_lower (V_mono (ok' := fun k_ => True) ho0 (fun k_ hk_ => trivial)) (below_size bq)); replace HB := ze hb; (try clear ho0); obtain ⟨Ao6, co6, eo6⟩ := V_slice HO135.out; subst eo6) | ((with_reducible refine zG 96 rfl ?_); refine zL (some 15) rfl rfl Tryd.func96 #[.slice Ao6 t133.length co6] rfl ?_; (with_reducible refine (nat_number_own.calls _ _ t133 t137 _ ?side1 ?side2 A4.out).mono ?_); (case side1 => exact zk (V_reads' HO135.out).2.2); (case side2 => exact (V_reads' HO135.out).2.1); rintro e w7 ⟨v138, rfl, ho0, hb⟩; refine ⟨_, rfl, ?_⟩; replace HO135 := zA (V_elder' (vu HO135.out) (R_base ho0) hb); have HO139 := zA (R_lower ho0 (below_size bq)); replace HB := ze hb; (try clear ho0)))
  go_ret2
  exact ⟨_, er, ru HO139.out, bq⟩
 rw [if_neg c3] at H
 have c3b0 := beq_eq_false_iff_ne.mpr c3
 have c3b1 := bne_iff_ne.mpr c3
 simp only [Option.some.injEq, Prod.mk.injEq] at H
 obtain ⟨rfl, rfl⟩ := H
 go_enter Tryd.func75, Tryd.ntmps75
 go_wp2_with (first | ((with_reducible refine zG 103 rfl ?_); refine zL (some 8) rfl rfl Tryd.func103 #[.slice A0 l0.length c0] rfl ?_; (with_reducible refine (nat_one.calls k (fun k_ => k_ < w.heap.size) _ _ l0 t133 t136 _ ?side1 A2.out).mono ?_); (case side1 => exact V_mk HC0.out (Kd.F_below (C_F (Kd.heap_int .u64) HR0.out) bq)); rintro e w8 ⟨v134, rfl, ho0, hb⟩; refine ⟨_, rfl, ?_⟩; have HO135 := zA (V_lower (V_mono (ok' := fun k_ => True) ho0 (fun k_ hk_ => trivial)) (below_size bq)); replace HB := ze hb; (try clear ho0)))
 go_ret2
 exact ⟨_, er, by first | exact R_nil _ _ _ _ _ | exact Kd.N_nil _ _ _ _ _ | exact V_nil _ _ _ _ _ | exact Kd.Q_nil _ _ _ _ _ | exact Kd.S_nil _ _ _ _ _, bq⟩
end Go.Proofs.YtnjfckadjklmfaaDoor.PAll
