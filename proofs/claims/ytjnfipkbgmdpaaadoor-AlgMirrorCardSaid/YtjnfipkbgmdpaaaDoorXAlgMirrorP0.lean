/- Printed functions, merged by a program of this session. -/
import Derived.Test.YtjnfipkbgmdpaaaDoorProg
import Derived.Below
import Derived.Deep.Draws
import Derived.Deep.AppendLies
import Derived.Maps.AppendAt
import Derived.OwnWalk
import Derived.Laws.BytesArg
import Derived.Laws.MakeOwn
import Derived.Laws.OwnMore
import Derived.Deep.OwnRows
import Derived.Tactics
import Derived.Lib.ConvBytes
import Derived.Laws.Slices
import Derived.WalkKit
import Derived.KernelRfl
import Derived.RowKit3
import Derived.Deep.LoopGhost
import Derived.Deep.QuietTactic
import Derived.BigQuiet
import Derived.WideLaws
import Derived.Deep.DeepCutAuto
import Derived.Deep.CutBlock
import Derived.Deep.RegionHeld3
import Derived.Laws.Rows
import Derived.Lib.AppendStr
import Derived.ArgAppend
import Derived.Laws.IdiomCopy
import Derived.OrdersHeld
import Derived.Laws.BitsLemmas
import Derived.RowKit
import Derived.Test.YtjnfipkbgmdpaaaDoorXAlgMirrorWWords
import Derived.Test.YtjnfipkbgmdpaaaDoorXAlgMirrorWLast
import Derived.Test.YtjnfipkbgmdpaaaDoorXAlgMirrorWTab
import Derived.Test.YtjnfipkbgmdpaaaDoorXAlgMirrorWApart
import Derived.Test.YtjnfipkbgmdpaaaDoorXAlgMirrorWFoot
import Derived.Test.YtjnfipkbgmdpaaaDoorXAlgMirrorWKept
import Derived.Test.YtjnfipkbgmdpaaaDoorXAlgMirrorWShare
import Derived.Test.YtjnfipkbgmdpaaaDoorXAlgMirrorWN
import Derived.Test.YtjnfipkbgmdpaaaDoorXAlgMirrorWEqStruct
import Derived.Test.YtjnfipkbgmdpaaaDoorXAlgMirrorWRepsOne
import Derived.Test.YtjnfipkbgmdpaaaDoorXAlgMirrorWInv
import Derived.Test.YtjnfipkbgmdpaaaDoorXAlgMirrorWGuard
import Derived.Test.YtjnfipkbgmdpaaaDoorXAlgMirrorWMore
import Derived.Test.YtjnfipkbgmdpaaaDoorXAlgMirrorSh
namespace Go.Proofs.YtjnfipkbgmdpaaaDoor.PAll
open Go.RowKit Go.Proofs.YtjnfipkbgmdpaaaDoorW.PrintWords Go.Proofs.YtjnfipkbgmdpaaaDoorW.PrintLast Go.Proofs.YtjnfipkbgmdpaaaDoorW.PrintMore Go.Proofs.YtjnfipkbgmdpaaaDoorW.PrintWords.Kd
attribute [local go_sem] max2_int min2_int max_two min_two max_three min_three max_four min_four   -- for this text's walks alone
set_option linter.unusedVariables false
set_option linter.unusedSimpArgs false
def errW : Option Int → Value
 | none => .nilIface
 | some c => .iface 0 (.int .i64 c)
theorem errW_none : errW none = .nilIface := rfl
theorem errW_some (c : Int) : errW (some c) = .iface 0 (.int .i64 c) := rfl
theorem info22 : (Tryd.prog.info? 22).map (fun i => (i.zero, i.size, i.bytes)) = some (some (.int .u64 0), 1, 8) := by kernel_rfl
theorem append_types {P : Program} {t t' e e' : TypeId} {ty : TypeId} {args : Array Value} {w : World} (ht : P.underlying t = some (.slice e)) (ht' : P.underlying t' = some (.slice e')) : (Builtin.append_ #[t, t'] ty args).run P w = (Builtin.append_ #[t, t] ty args).run P w := by
 unfold Builtin.append_
 cases h0 : args[0]? <;> cases h1 : args[1]? <;> simp only [List.getElem?_toArray, List.getElem?_cons_zero, List.getElem?_cons_succ, Sem.run_bind, run_underlying ht, Result.andThen_ok]
 rename_i s x
 cases s <;> try rfl
 dsimp only;simp only [Sem.run_bind, run_underlying ht, run_underlying ht', Result.andThen_ok, Sem.run_pure]
namespace Kd
open Go.Proofs.YtjnfipkbgmdpaaaDoorW.PrintWords.Kd
section
variable {P : Program} {ops : Array Oper} {rest : List Oper} {o : Oper} {a : Act} {Q : Exit → Act → World → Prop} {α : Type}
theorem R_append_rows2 (d : Kd α) {Rr : α → List Value → Prop} {w0 W : World} (base : Nat) (hgd : o.guard = none) (s x : Operand) (t t' e : TypeId) (z : Value) (bytes : Nat)
  (ho : o.op = .call { callee := .builtin .append, args := #[s, x], argTypes := #[t, t'] })
  (ht : P.underlying t = some (.slice e)) (ht' : P.underlying t' = some (.slice e)) (hinfo : (P.info? e).map (fun i => (i.zero, i.size, i.bytes)) = some (some z, d.sz, bytes)) (hz : z.cells.size = d.sz) (hs0 : 0 < d.sz) (hb0 : 0 < bytes)
  (v : Value) (xs ys : List α) (A : Option Addr) (m c : Nat) (ok okp : Nat → Prop) (hs : a.eval s = v) (hx : a.eval x = .slice A m c)
  (HO : d.R e W base ok v xs) (HR : ReadsRow Rr d.sz W A m ys) (hKM : ∀ x cs, Rr x cs → d.M W base okp x cs) (hokp : ∀ k, okp k → ok k ∧ some k ≠ v.ownBlock) (hfresh : ∀ k, W.heap.size ≤ k → ok k)
  (HB : Below base w0 W) (hbase : base ≤ W.heap.size) (hl : (xs.length + m) * bytes ≤ 140737488355328)
  (h : ∀ v1 w1, d.R e w1 base ok v1 (xs ++ ys) → Below base w0 w1 → W.grownBy w1 v.ownBlock → (v1.ownBlock = v.ownBlock ∨ ∃ b, v1.ownBlock = some b ∧ W.heap.size ≤ b) → wpList P ops Q rest (a.put o.dst v1) w1) :
  wpList P ops Q (o :: rest) a W := by
 obtain ⟨i0, hi, hzz⟩ := Option.map_eq_some_iff.1 hinfo;simp only [Prod.mk.injEq] at hzz;obtain ⟨hz0, hz1, hz2⟩ := hzz;have hm : ys.length = m := HR.1;have hlen : xs.length + m ≤ 140737488355328 := Nat.le_trans (Nat.le_mul_of_pos_right _ hb0) hl;obtain ⟨hok, inner, hown, hr⟩ := HO
 have hrun : ∃ v1 w1, (Builtin.append_ #[t, t] o.type #[v, .slice A m c]).run P W = .ok v1 w1 ∧ d.R e w1 base ok v1 (xs ++ ys) ∧ W.grownBy w1 v.ownBlock ∧ (v1.ownBlock = v.ownBlock ∨ ∃ b, v1.ownBlock = some b ∧ W.heap.size ≤ b) := by
  rcases A with _ | ad
  ·have h0 : m = 0 := by
    rcases Nat.eq_zero_or_pos m with h0 | h0
    ·exact h0
    obtain ⟨ad, h, _⟩ := HR.2.2 h0;cases h
   subst h0;obtain rfl : ys = [] := List.eq_nil_of_length_eq_zero hm;refine ⟨v, W, ?_, by rw [List.append_nil]; exact ⟨hok, inner, hown, hr⟩, World.grownBy.refl W _, .inl rfl⟩
   rcases hown.2 with ⟨rfl, hn⟩ | ⟨g, cap, cur, rfl, _, _, hnc, _⟩
   ·simp [Builtin.append_, run_underlying ht, sizeOf, typeInfo, hi, Builtin.lenOf, Builtin.firstCells]
   simp [Builtin.append_, run_underlying ht, sizeOf, typeInfo, hi, Builtin.lenOf, Builtin.firstCells, hnc, storeCells]
  obtain ⟨news, hnr, hnc⟩ := ReadsRow.inner_ HR;have hnM : Reps (d.M W base okp) d.sz ys news := hnr.imp_ (fun p c hp => hKM p c hp)
  have hone : ∀ u ∈ news, u.oneCell' = true := by
   intro u hu;obtain ⟨q, hq, rfl⟩ := List.mem_iff_getElem.1 hu
   have hql : q / d.sz < ys.length := by
    rw [Nat.div_lt_iff_lt_mul hs0];rw [← hnM.1];exact hq
   have hc := hnM.2 (q / d.sz) _ (List.getElem?_eq_getElem hql);refine d.K_one (d.K_of_M hc) _ ?_;rw [List.mem_iff_getElem?];refine ⟨q % d.sz, ?_⟩;rw [List.getElem?_take, if_pos (Nat.mod_lt _ hs0), List.getElem?_drop, Nat.mul_comm, Nat.div_add_mod, List.getElem?_eq_getElem hq]
  obtain ⟨v1, w1, hrun, h2, hg, _, hat⟩ := run_append_own_at (P := P) W base t o.type e i0 z d.sz bytes ht hi hz0 hz1 hz2 hz hs0 v xs.length inner hown ad m c news (by rw [hnM.1, hm]) hnc hone (by simp only [maxLen]; omega) hl hbase
  have hat' : v1.ownBlock = v.ownBlock ∨ ∃ b, v1.ownBlock = some b ∧ W.heap.size ≤ b := by
   rcases hat with hat | hat
   ·exact .inl hat
   exact .inr ⟨_, hat, Nat.le_refl _⟩
  have hne : ∀ k, some k ≠ v.ownBlock → k < W.heap.size → some k ≠ v1.ownBlock := by
   intro k hk hlt
   rcases hat' with hat | ⟨b, hb, hle⟩
   ·rw [hat]; exact hk
   rw [hb];intro he
   injection he with he
   omega
  have step : ∀ {q : α} {c : List Value} {o : Nat → Prop}, d.M W base o q c → (∀ k, o k → ok k ∧ some k ≠ v.ownBlock) → d.M w1 base (fun k => ok k ∧ some k ≠ v1.ownBlock) q c := by
   intro q c o hq ho;have h1 := d.M_move (w1 := w1) (fun k hk => hg.block k hk.2.2.1 (ho k hk.1).2) (d.M_bound hq);exact d.M_mono (fun k hk => ⟨(ho k hk.1).1, hne k (ho k hk.1).2 hk.2.2.1⟩) h1
  refine ⟨v1, w1, hrun, ⟨fun k hk => ?_, inner ++ news, by rw [List.length_append, hm]; exact h2, reps_append (hr.imp_ (fun _ _ hq => step hq (fun _ hk => hk))) (hnM.imp_ (fun _ _ hq => step hq hokp))⟩, hg, hat'⟩
  rcases hat' with hat | ⟨b, hb, hle⟩
  ·exact hok k (hat ▸ hk)
  rw [hb] at hk
  injection hk with hk
  exact hfresh k (by omega)
 obtain ⟨v1, w1, hr1, h1, hg, hat⟩ := hrun
 refine wpList_plain hgd fun K hK => ?_
 unfold Oper.wp execOp
 simp only [ho, resolve, invoke, builtin, Sem.run_bind, Sem.run_pure, Result.andThen_ok, List.map_toArray, List.map_cons, List.map_nil, hs, hx, append_types ht ht', hr1];exact hK _ _ (h v1 w1 h1 (HB.grown hg hbase (own_base hown)) hg hat)
end
end Kd
/-- The table of math/bits.TrailingZeros64. -/
def tzTab : List Int := [0, 1, 56, 2, 57, 49, 28, 3, 61, 58, 42, 50, 38, 29, 17, 4, 62, 47, 59, 36, 45, 43, 51, 22, 53, 39, 33, 30, 24, 18, 12, 5, 63, 55, 48, 27, 60, 41, 37, 16, 46, 35, 44, 21, 52, 32, 23, 11, 54, 26, 40, 15, 34, 20, 31, 10, 25, 14, 19, 9, 13, 8, 7, 6]
/-- The table lies in memory as the program's text lays it. -/
def Laid (w : World) : Prop := ∀ i : Nat, i < 64 → w.cell? ⟨2, i, none⟩ = some (.int .u8 (tzTab.getD i 0))
theorem laid_drewN {w : World} (h : Laid w) (n : Nat) : Laid (w.drewN n) := fun i hi => by
 have := h i hi
 simpa using this
theorem laid_drew {w : World} (h : Laid w) : Laid w.drew := fun i hi => by
 have := h i hi
 simpa using this
theorem laid_below {w w' : World} (h : Laid w) (hb : Below w.heap.size w w') : Laid w' := fun i hi => by
 have h0 := h i hi;rw [hb.cell (p := ⟨2, i, none⟩) (World.block_lt_of_cell? w ⟨2, i, none⟩ h0)];exact h0
def add64s (x y c : Int) : Int := ((x.toNat + y.toNat + c.toNat) % 18446744073709551616 : Nat)
def add64c (x y c : Int) : Int := ((x.toNat + y.toNat + c.toNat) / 18446744073709551616 : Nat)
def sub64s (x y c : Int) : Int := ((x.toNat + 18446744073709551616 - y.toNat - c.toNat) % 18446744073709551616 : Nat)
def sub64c (x y c : Int) : Int := if x.toNat < y.toNat + c.toNat then 1 else 0
def sub64Entry : Array Value → Sem Value := fun args => do
 let (x, y, b) ← Extern.MathBitsCarry.three "Sub64" args
 pure (Extern.MathBitsCarry.pair ((x + Extern.MathBitsCarry.m64 - y - b) % Extern.MathBitsCarry.m64) (if x < y + b then 1 else 0))
theorem carry_nat {c : Int} (h : decide (c ≤ 1) = true) : c.toNat = 0 ∨ c.toNat = 1 := by
 have h' := of_decide_eq_true h
 omega
theorem add64_run {P : Program} (x y c : Int) (h : decide (c ≤ 1) = true) (w : World) : (add64Entry #[.int .u64 x, .int .u64 y, .int .u64 c]).run P w = .ok (.tuple #[.int .u64 (add64s x y c), .int .u64 (add64c x y c)]) w := by
 have key : ∀ k : Nat, k = 0 ∨ k = 1 → c.toNat = k → (add64Entry #[.int .u64 x, .int .u64 y, .int .u64 c]).run P w = .ok (Extern.MathBitsCarry.pair ((x.toNat + y.toNat + k) % Extern.MathBitsCarry.m64) ((x.toNat + y.toNat + k) / Extern.MathBitsCarry.m64)) w := by
  intro k hk hc
  rcases hk with rfl | rfl
  ·cases c with
   | ofNat n => cases hc; rfl
   | negSucc m => rfl
  cases c with
  | ofNat n => cases hc; rfl
  | negSucc m => cases hc
 rw [key _ (carry_nat h) rfl]; rfl
theorem sub64_run {P : Program} (x y c : Int) (h : decide (c ≤ 1) = true) (w : World) : (sub64Entry #[.int .u64 x, .int .u64 y, .int .u64 c]).run P w = .ok (.tuple #[.int .u64 (sub64s x y c), .int .u64 (sub64c x y c)]) w := by
 have key : ∀ k : Nat, k = 0 ∨ k = 1 → c.toNat = k → (sub64Entry #[.int .u64 x, .int .u64 y, .int .u64 c]).run P w = .ok (Extern.MathBitsCarry.pair ((x.toNat + Extern.MathBitsCarry.m64 - y.toNat - k) % Extern.MathBitsCarry.m64) (if x.toNat < y.toNat + k then 1 else 0)) w := by
  intro k hk hc
  rcases hk with rfl | rfl
  ·cases c with
   | ofNat n => cases hc; rfl
   | negSucc m => rfl
  cases c with
  | ofNat n => cases hc; rfl
  | negSucc m => cases hc
 rw [key _ (carry_nat h) rfl]
 unfold Extern.MathBitsCarry.pair sub64s sub64c Extern.MathBitsCarry.m64
 split <;> rfl
theorem ext75 (x y c : Int) (h : decide (c ≤ 1) = true) (w : World) : (callFunc 75 #[.int .u64 x, .int .u64 y, .int .u64 c]).run Tryd.prog w = .ok (.value (.tuple #[.int .u64 (add64s x y c), .int .u64 (add64c x y c)])) w := by
 rw [run_callFunc_extern (e := add64Entry) Tryd.func75 (by kernel_rfl) (by kernel_rfl) (by kernel_rfl) (by kernel_rfl)];rw [add64_run x y c h w]; rfl
theorem ext76 (x y c : Int) (h : decide (c ≤ 1) = true) (w : World) : (callFunc 76 #[.int .u64 x, .int .u64 y, .int .u64 c]).run Tryd.prog w = .ok (.value (.tuple #[.int .u64 (sub64s x y c), .int .u64 (sub64c x y c)])) w := by
 rw [run_callFunc_extern (e := sub64Entry) Tryd.func76 (by kernel_rfl) (by kernel_rfl) (by kernel_rfl) (by kernel_rfl)];rw [sub64_run x y c h w]; rfl
attribute [local go_sem] ext75 ext76
theorem eqA26 (d : Nat) (w : World) (x0 y0 : Int) (x1 y1 : Int) :
  (Op.equalIn (d + 2) 26 (.agg #[.int .u64 x0, .int .u8 x1]) (.agg #[.int .u64 y0, .int .u8 y1])).run Tryd.prog w = .ok (x0 == y0 && (x1 == y1)) w := by
 refine eqA_of Tryd.underlying26 (by kernel_rfl) ?_;refine eqf_cons (by rfl) (by go_simp; rfl) (by go_simp; rfl) (by go_simp) ?_;exact eqf_last (by rfl) (by go_simp; rfl) (by go_simp; rfl) (by go_simp)
def bits_Neg.f (a0 : Int) : Option (Int) := some (Go.bits .xor .u64 a0 9223372036854775808)
set_option maxHeartbeats 8000000 in
set_option maxRecDepth 100000 in
theorem bits_Neg.calls (a0 : Int) (r : Int) (w : World) (h : bits_Neg.f a0 = some r) :
  Calls Tryd.prog 6 #[.int .u64 a0] w fun e w' => e = .returned (.int .u64 r) ∧ Drawn0 w w' := by
 have H := h
 unfold bits_Neg.f at H
 clear h;obtain rfl := Option.some.inj H;go_enter Tryd.func6, Tryd.ntmps6
 go_wp2
 go_ret;exact ⟨by first | rfl | (simp; done) | (simp [*]; done), by repeat (first | exact Drawn0.refl _ | apply Drawn0.step)⟩
def limbs_Trim.l0 : Nat → List Int → Int → Option (List Int)
 | 0, _, _ => none
 | k + 1, x0, x3 => if x3 > 0 then (if 0 ≤ (wrap64 (x3 - 1)) then (if (wrap64 (x3 - 1)) < (x0.length : Int) then (if (rd x0 (wrap64 (x3 - 1))) = 0 then (limbs_Trim.l0 k x0 (wrap64 (x3 - 1))) else (if 0 ≤ x3 then (if x3 ≤ (x0.length : Int) then (some (x0.take (x3 : Int).toNat)) else (none)) else (none))) else (none)) else (none)) else (if 0 ≤ x3 then (if x3 ≤ (x0.length : Int) then (some (x0.take (x3 : Int).toNat)) else (none)) else (none))
def limbs_Trim.f (k : Nat) (l0 : List Int) : Option (List Int) := limbs_Trim.l0 k l0 (l0.length : Int)
theorem cut_to3 {P : Program} (t e : TypeId) (kh km : IntKind) {i : TypeInfo} (ht : P.underlying t = some (.slice e)) (hi : P.info? e = some i) (A : Option Addr) (n c : Nat) (j : Int) (h0 : 0 ≤ j) (hm : j ≤ n) (hc : n ≤ c) :
  ∀ W : World, (Instr.slice t (.slice A n c) none (some (.int kh j)) (some (.int km j))).run P W = .ok (.slice A j.toNat j.toNat) W := by
 intro W;obtain ⟨m, rfl⟩ := Int.eq_ofNat_of_zero_le h0
 have hb : ∀ (k : IntKind) (y : Nat) (code : BoundsCode) (w : World), m ≤ y → (Instr.sliceBound (.int k (m : Int)) y code).run P w = .ok m w := by
  intro k y code w hy
  have : (m : Int) ≤ (y : Int) := by omega
  simp [Instr.sliceBound, asIntOf, this]
 simp [Instr.slice, run_underlying ht, Instr.sliceBounds, hb _ c _ _ (by omega), hb _ m _ _ (Nat.le_refl m), sizeOf, typeInfo, hi, Result.andThen]
 cases A <;> simp [Addr.add]
set_option maxHeartbeats 8000000 in
set_option maxRecDepth 100000 in
theorem limbs_Trim.calls (k : Nat) (P0_ : Nat → Prop) (A0 : Option Addr) (c0 : Nat) (l0 : List Int) (r : List Int) (w : World) (hs0 : Kd.V (Kd.int .u64) 22 w w.heap.size (fun k_ => P0_ k_) (.slice A0 l0.length c0) l0) (h : limbs_Trim.f k l0 = some r) :
  Calls Tryd.prog 59 #[.slice A0 l0.length c0] w fun e w' => ∃ v0_ : Value, e = .returned (v0_) ∧ Kd.V (Kd.int .u64) 22 w' w.heap.size (fun k_ => (P0_ k_ ∨ w.heap.size ≤ k_)) v0_ r ∧ Below w.heap.size w w' := by
 have aj := zA (show Kd.V (Kd.int .u64) 22 w w.heap.size (fun k_ => (P0_ k_ ∨ w.heap.size ≤ k_)) (.slice A0 l0.length c0) l0 from V_mono hs0 (fun k_ hk => .inl hk));have HB := zA (Below.refl w.heap.size w);have H := h
 unfold limbs_Trim.f at H
 clear h;have H' := zA H;clear H;go_enter Tryd.func59, Tryd.ntmps59
 go_wp2
 go_loopg [3] k (fun kq v3 w' => ∃ (a1 : Int), v3 = .int .i64 a1 ∧ Aside0 (limbs_Trim.l0 kq l0 a1 = some r) ∧ Aside0 (kq ≤ k) ∧ Aside0 (Kd.V (Kd.int .u64) 22 w' w.heap.size (fun k_ => (P0_ k_ ∨ w.heap.size ≤ k_)) (.slice A0 l0.length c0) l0) ∧ Aside0 (Below w.heap.size w w'))
 case atStart => exact ⟨((l0.length : Int)), zi, H', ⟨Nat.le_refl _⟩, ⟨vu aj.out⟩, ⟨bq⟩⟩
 case round =>
  clear H';obtain ⟨a1, rfl, HA, HK1, a2, HB⟩ := hrel
  cases gk with
  | zero => exact absurd HA.out (by simp [limbs_Trim.l0])
  | succ k1 =>
   have H := HA.out;clear HA;simp only [limbs_Trim.l0] at H
   by_cases c2 : a1 > 0
   ·rw [if_pos c2] at H;have ag := decide_eq_true c2;clear c2;generalize a6 : wrap64 (a1 - 1) = a5 at H;have hji3w : (IntKind.i64.wrap (a1 - 1)) = a5 := (i64_w _).trans a6;replace H := dn H;obtain ⟨c4, H⟩ := H;have aq := decide_eq_true c4;clear c4;replace H := dn H;obtain ⟨c5, H⟩ := H;have ar := decide_eq_true c5;clear c5
    by_cases c6 : (rd l0 (a5)) = 0
    ·rw [if_pos c6] at H;have ah := beq_iff_eq.mpr c6;have ai := bne_eq_false_iff_eq.mpr c6;clear c6;have H' := zA H;clear H;have p101 : 0 ≤ ((a5) : Int) := od;have q101 : (a5) < (l0.length : Int) := od;obtain ⟨ad101, e101, ac⟩ := Kd.at_int (V_reads' a2.out).2.2 (a5) p101 q101;cases e101;replace p101 := eq_true p101;replace q101 := eq_true q101
     go_wp2
     go_roundg k1
     case measure => have := HK1.out; omega
     case rel => exact ⟨(a5), (by first | rfl | (simp; done) | (simp only [← a6] <;> (first | rfl | simp)) | (simp [*]; done)), (by first | exact H' | (simp only [a6]; exact H') | (simp only [a6] at H' ⊢; exact H')), ⟨by have := HK1.out; omega⟩, ⟨vu a2.out⟩, ⟨bq⟩⟩
    rw [if_neg c6] at H;have ah := beq_eq_false_iff_ne.mpr c6;have ai := bne_iff_ne.mpr c6;replace H := dn H;obtain ⟨c7, H⟩ := H;have au := eq_true c7;have av := decide_eq_true c7;clear c7;replace H := dn H;obtain ⟨c8, H⟩ := H;have aw := eq_true c8;have ax := decide_eq_true c8;clear c8;obtain ⟨a3, a7⟩ : ∃ y_ : List Int, y_ = (l0.take (a1 : Int).toNat) := ⟨_, rfl⟩;replace H : (some a3) = some r := zR a7 H;have aa := zA a7;clear a7;obtain rfl := Option.some.inj H;have p101 : 0 ≤ ((a5) : Int) := od;have q101 : (a5) < (l0.length : Int) := od;obtain ⟨ad101, e101, ac⟩ := Kd.at_int (V_reads' a2.out).2.2 (a5) p101 q101;cases e101;replace p101 := eq_true p101;replace q101 := eq_true q101;have q9 : (a1 : Int) ≤ ((l0.length : Int) : Int) := od;obtain ⟨i09, hi09, _, hsz9, _⟩ := info_parts info22;have hroom9 : l0.length ≤ c0 := (V_reads' a2.out).2.1;have hC9 : Kd.F (Kd.int .u64) _ _ (some ad101) l0.length l0 := (V_at (base := w.heap.size) a2.out).2.2;have hcut9 := cut_to3 (P := Tryd.prog) 33 22 .i64 .i64 Tryd.underlying33 hi09 (some ad101) l0.length c0 a1 (od) q9 hroom9;have hr9 := Kd.F_take (m := (a1 : Int).toNat) hC9 (by omega);have ad : a3.length = (a1 : Int).toNat := (by rw [aa.out, List.length_take]; omega);rw [← aa.out] at hr9;rw [← ad] at hcut9;have ae := zA (show Kd.V (Kd.int .u64) 22 _ w.heap.size _ (.slice (some ad101) a3.length a3.length) a3 from V_mk (Nat.le_refl _) hr9);have ak := zA (show a3.length ≤ a3.length from Nat.le_refl _);clear hr9 hC9 hroom9 hi09 hsz9;have KY9 := zA ad;clear ad;replace q9 := eq_true q9
    go_wp2
    go_ret;exact ⟨_, by first | rfl | (simp [errW_none, errW_some] <;> rfl) | (simp only [← a6]; first | rfl | (simp [errW_none, errW_some] <;> rfl)) | (simp [*, errW_none, errW_some] <;> rfl), vu ae.out, bq⟩
   rw [if_neg c2] at H;have ag := decide_eq_false c2;clear c2;replace H := dn H;obtain ⟨c10, H⟩ := H;have al := eq_true c10;have am := decide_eq_true c10;clear c10;replace H := dn H;obtain ⟨c11, H⟩ := H;have an := eq_true c11;have ao := decide_eq_true c11;clear c11;obtain ⟨a4, a8⟩ : ∃ y_ : List Int, y_ = (l0.take (a1 : Int).toNat) := ⟨_, rfl⟩;replace H : (some a4) = some r := zR a8 H;have ab := zA a8;clear a8;obtain rfl := Option.some.inj H;have q12 : (a1 : Int) ≤ ((l0.length : Int) : Int) := od;obtain ⟨i012, hi012, _, hsz12, _⟩ := info_parts info22;have hroom12 : l0.length ≤ c0 := (V_reads' a2.out).2.1;have hC12 : Kd.F (Kd.int .u64) _ _ A0 l0.length l0 := (V_at (base := w.heap.size) a2.out).2.2;have hcut12 := cut_to3 (P := Tryd.prog) 33 22 .i64 .i64 Tryd.underlying33 hi012 A0 l0.length c0 a1 (od) q12 hroom12;have hr12 := Kd.F_take (m := (a1 : Int).toNat) hC12 (by omega);have a9 : a4.length = (a1 : Int).toNat := (by rw [ab.out, List.length_take]; omega);rw [← ab.out] at hr12;rw [← a9] at hcut12;have af := zA (show Kd.V (Kd.int .u64) 22 _ w.heap.size _ (.slice A0 a4.length a4.length) a4 from V_mk (Nat.le_refl _) hr12);have ap := zA (show a4.length ≤ a4.length from Nat.le_refl _);clear hr12 hC12 hroom12 hi012 hsz12;have KY12 := zA a9;clear a9;replace q12 := eq_true q12
   go_wp2
   go_ret;exact ⟨_, er, vu af.out, bq⟩
def tzI (x : Int) : Int := IntKind.u64.wrap (bits BinOp.and IntKind.u64 x (IntKind.u64.wrap (-x)) * 285870213051353865) / 288230376151711744
def bits_TrailingZeros64.f (a0 : Int) : Option (Int) := if a0 = 0 then some 64 else if 0 ≤ tzI a0 then (if tzI a0 < 64 then some (tzTab.getD (tzI a0).toNat 0) else none) else none
theorem tzTab_bd : ∀ i : Nat, i < 64 → 0 ≤ tzTab.getD i 0 ∧ tzTab.getD i 0 < 64 := by decide
set_option maxHeartbeats 8000000 in
set_option maxRecDepth 100000 in
theorem bits_TrailingZeros64.calls (a0 : Int) (r : Int) (w : World) (hT : Laid w) (h : bits_TrailingZeros64.f a0 = some r) :
  Calls Tryd.prog 84 #[.int .u64 a0] w fun e w' => e = .returned (.int .i64 r) ∧ Drawn0 w w' := by
 unfold bits_TrailingZeros64.f at h
 by_cases c : a0 = 0
 ·rw [if_pos c] at h;obtain rfl := Option.some.inj h;subst c;go_enter Tryd.func84, Tryd.ntmps84
  go_wp2
  go_ret;exact ⟨rfl, Drawn0.refl _⟩
 rw [if_neg c] at h;have c0 : (a0 == 0) = false := beq_eq_false_iff_ne.mpr c
 by_cases p : 0 ≤ tzI a0
 ·rw [if_pos p] at h
  by_cases q : tzI a0 < 64
  ·rw [if_pos q] at h;have hc := hT (tzI a0).toNat (by omega);have hb := tzTab_bd (tzI a0).toNat (by omega);have hr := Option.some.inj h;rw [hr] at hc hb;have hb0 := hb.1;have hb1 := hb.2;clear h hr hb hT c
   unfold tzI at p q hc
   go_enter Tryd.func84, Tryd.ntmps84
   go_wp2
   go_ret;exact ⟨by first | rfl | simp, Drawn0.refl _⟩
  rw [if_neg q] at h;cases h
 rw [if_neg p] at h;cases h
def limbs_Low.l0 : Nat → List Int → Int → Int → Option (Int)
 | 0, _, _, _ => none
 | k + 1, x5, x6, x7 => if x7 < x6 then (if 0 ≤ x7 then (if x7 < (x5.length : Int) then (if (rd x5 x7) = 0 then (limbs_Low.l0 k x5 x6 (wrap64 (x7 + 1))) else ((bits_TrailingZeros64.f (rd x5 x7)).bind fun a1 => (some (wrap64 ((wrap64 (64 * x7)) + a1))))) else (none)) else (none)) else (some 0)
def limbs_Low.f (k : Nat) (l0 : List Int) : Option (Int) := limbs_Low.l0 k l0 (l0.length : Int) 0
set_option maxHeartbeats 8000000 in
set_option maxRecDepth 100000 in
theorem limbs_Low.calls (k : Nat) (A0 : Option Addr) (c0 : Nat) (l0 : List Int) (r : Int) (w : World) (hr0 : Kd.C (Kd.int .u64) w A0 l0.length l0) (hc0 : l0.length ≤ c0) (hT : Laid w) (h : limbs_Low.f k l0 = some r) :
  Calls Tryd.prog 72 #[.slice A0 l0.length c0] w fun e w' => e = .returned (.int .i64 r) ∧ Drawn0 w w' := by
 have a3 := zA hr0;have aa := zA hc0;clear hr0 hc0;have H := h
 unfold limbs_Low.f at H
 clear h;have H' := zA H;clear H;go_enter Tryd.func72, Tryd.ntmps72
 go_wp2
 go_loopg [7] k (fun kq v7 w' => ∃ (a1 : Int), v7 = .int .i64 a1 ∧ Aside0 (limbs_Low.l0 kq l0 (l0.length : Int) a1 = some r) ∧ Aside0 (kq ≤ k) ∧ Drawn0 w w')
 case atStart => exact ⟨(0), zi, H', ⟨Nat.le_refl _⟩, by repeat (first | exact Drawn0.refl _ | apply Drawn0.step)⟩
 case round =>
  clear H';obtain ⟨a1, rfl, HA, HK1, ⟨m1, rfl⟩⟩ := hrel
  cases gk with
  | zero => exact absurd HA.out (by simp [limbs_Low.l0])
  | succ k1 =>
   have H := HA.out;clear HA;simp only [limbs_Low.l0] at H
   by_cases c2 : a1 < (l0.length : Int)
   ·rw [if_pos c2] at H;have a4 := decide_eq_true c2;clear c2;replace H := dn H;obtain ⟨c3, H⟩ := H;have a8 := decide_eq_true c3;clear c3;replace H := dn H;obtain ⟨c4, H⟩ := H;have a9 := decide_eq_true c4;clear c4
    by_cases c5 : (rd l0 a1) = 0
    ·rw [if_pos c5] at H;have a5 := beq_iff_eq.mpr c5;have a6 := bne_eq_false_iff_eq.mpr c5;clear c5;have H' := zA H;clear H;have p112 : 0 ≤ (a1 : Int) := od;have q112 : a1 < (l0.length : Int) := od;obtain ⟨ad112, e112, a2⟩ := Kd.at_int a3.out a1 p112 q112;cases e112;replace p112 := eq_true p112;replace q112 := eq_true q112
     go_wp2
     go_roundg k1
     case measure => have := HK1.out; omega
     case rel => exact ⟨(wrap64 (a1 + 1)), zi, H', ⟨by have := HK1.out; omega⟩, by repeat (first | exact Drawn0.refl _ | apply Drawn0.step)⟩
    rw [if_neg c5] at H;have a5 := beq_eq_false_iff_ne.mpr c5;have a6 := bne_iff_ne.mpr c5;obtain ⟨a7, A6, H⟩ := zh H;obtain rfl := Option.some.inj H;have p112 : 0 ≤ (a1 : Int) := od;have q112 : a1 < (l0.length : Int) := od;obtain ⟨ad112, e112, a2⟩ := Kd.at_int a3.out a1 p112 q112;cases e112;replace p112 := eq_true p112;replace q112 := eq_true q112
    go_wp2_with (first | ((with_reducible refine zG 84 rfl ?_); refine zC (some 17) Tryd.func84 (bits_TrailingZeros64.calls (rd l0 a1) a7 _ (by repeat (first | (with_reducible first | exact hT | apply laid_drewN | apply laid_drew) | exact hT)) A6.out) ?_; rintro e w' ⟨rfl, ⟨nd, rfl⟩⟩; refine ⟨_, rfl, ?_⟩))
    go_ret;exact ⟨by first | rfl | (simp; done) | (simp [*]; done), by repeat (first | exact Drawn0.refl _ | apply Drawn0.step)⟩
   rw [if_neg c2] at H;have a4 := decide_eq_false c2;clear c2;obtain rfl := Option.some.inj H
   go_wp2
   go_ret;exact ⟨by first | rfl | (simp; done) | (simp [*]; done), by repeat (first | exact Drawn0.refl _ | apply Drawn0.step)⟩
def limbs_Shr.l0 : Nat → List Int → Bool → List Int → Int → List Int → Int → Int → Option (List Int × Bool)
 | 0, _, _, _, _, _, _, _ => none
 | k + 1, x0, x6, x7, x8, x35, x36, x37 => if x37 < x36 then (if 0 ≤ x37 then (if x37 < (x35.length : Int) then (if 0 ≤ x8 then (if x37 < (x7.length : Int) then ((some (x7.set (x37 : Int).toNat (shr .u64 (rd x35 x37) x8) : List Int)).bind fun a1 => (if x8 > 0 then (if (wrap64 (x37 + 1)) < (x0.length : Int) then (if 0 ≤ (wrap64 (x37 + 1)) then (if 0 ≤ (wrap64 (64 - x8)) then (limbs_Shr.l0 k x0 x6 (a1.set (x37 : Int).toNat (Go.bits .or .u64 (rd a1 x37) (shl .u64 (rd x0 (wrap64 (x37 + 1))) (wrap64 (64 - x8))))) x8 x35 x36 (wrap64 (x37 + 1))) else (none)) else (none)) else (limbs_Shr.l0 k x0 x6 a1 x8 x35 x36 (wrap64 (x37 + 1)))) else (limbs_Shr.l0 k x0 x6 a1 x8 x35 x36 (wrap64 (x37 + 1))))) else (none)) else (none)) else (none)) else (none)) else ((limbs_Trim.f k x7).bind fun a2 => (some (a2, x6)))
def limbs_Shr.f (k : Nat) (l0 : List Int) (a1 : Int) : Option (List Int × Bool) := (limbs_Trim.f k l0).bind fun a3 => (if (a3.length : Int) = 0 then (some (([] : List Int), false)) else ((limbs_Low.f k a3).bind fun a4 => (if (wrap64 (Int.tdiv a1 64)) ≥ (a3.length : Int) then (some (([] : List Int), decide (a4 < a1))) else (if 0 ≤ (wrap64 (Int.tdiv a1 64)) then (if (wrap64 (Int.tdiv a1 64)) ≤ (a3.length : Int) then ((some (a3.drop ((wrap64 (Int.tdiv a1 64)) : Int).toNat : List Int)).bind fun a2 => (if 0 ≤ (a2.length : Int) then (if ((a2.length : Int) : Int).toNat ≤ 35184372088832 then (limbs_Shr.l0 k a2 (decide (a4 < a1)) (List.replicate ((a2.length : Int) : Int).toNat 0) (Int.tmod a1 64) a2 (a2.length : Int) 0) else (none)) else (none))) else (none)) else (none)))))
def limbs_Shr.T15 : Bool × List (List Nat × List Nat) := (true, [([], []), ([], []), ([0, 1], [0, 1]), ([2], [2]), ([], []), ([], []), ([5], [5]), ([4, 6], [4, 6]), ([7], [7]), ([], []), ([9], [9]), ([8, 10], [8, 10]), ([3, 11], [3, 11]), ([0, 1, 0, 1, 2, 3, 4, 5, 6, 7, 8, 9, 10, 11, 12], [0, 1]), ([13, 12, 0, 1, 2, 3, 4, 5, 6, 7, 8, 9, 10, 11, 12], [12, 13])])
def limbs_Shr.B15 : List Nat := [0, 0, 3, 7, 0, 0, 32, 112, 240, 0, 512, 2032, 4095, 8191, 16383]
theorem limbs_Shr.tab15 : rtab .any (opsOf Tryd.f73 15) = limbs_Shr.T15 := by kernel_rfl
theorem limbs_Shr.bits15 : waitsOk limbs_Shr.T15.2 limbs_Shr.B15 = true := by kernel_rfl
set_option maxHeartbeats 8000000 in
set_option maxRecDepth 100000 in
theorem limbs_Shr.calls (k : Nat) (P0_ : Nat → Prop) (A0 : Option Addr) (c0 : Nat) (l0 : List Int) (a1 : Int) (r1 : List Int) (r2 : Bool) (w : World) (hs0 : Kd.V (Kd.int .u64) 22 w w.heap.size (fun k_ => P0_ k_) (.slice A0 l0.length c0) l0) (hT : Laid w) (h : limbs_Shr.f k l0 a1 = some (r1, r2)) :
  Calls Tryd.prog 73 #[.slice A0 l0.length c0, .int .i64 a1] w fun e w' => ∃ v0_ : Value, e = .returned (.tuple #[v0_, .bool r2]) ∧ Kd.V (Kd.int .u64) 22 w' w.heap.size (fun k_ => (P0_ k_ ∨ w.heap.size ≤ k_)) v0_ r1 ∧ Below w.heap.size w w' := by
 have ak := zA (show Kd.V (Kd.int .u64) 22 w w.heap.size (fun k_ => (P0_ k_ ∨ w.heap.size ≤ k_)) (.slice A0 l0.length c0) l0 from V_mono hs0 (fun k_ hk => .inl hk));have HB := zA (Below.refl w.heap.size w);have H := h
 unfold limbs_Shr.f at H
 clear h;obtain ⟨a9, A3, H⟩ := zh H
 by_cases c4 : (a9.length : Int) = 0
 ·rw [if_pos c4] at H;have aR := beq_iff_eq.mpr c4;have aS := bne_eq_false_iff_eq.mpr c4;clear c4;simp only [Option.some.injEq, Prod.mk.injEq] at H;obtain ⟨rfl, rfl⟩ := H;go_enter Tryd.func73, Tryd.ntmps73
  go_wp2_with (first | ((with_reducible refine zG 59 rfl ?_); refine zC (some 12) Tryd.func59 (limbs_Trim.calls k (fun k_ => (P0_ k_ ∨ w.heap.size ≤ k_)) _ _ l0 a9 _ ?ab A3.out) ?_; (case ab => exact ak.out); rintro e w5 ⟨v115, rfl, al, hb⟩; refine ⟨_, rfl, ?_⟩; replace ak := zA (V_below (vu ak.out) hb); have a8 := zA (V_lower (V_mono (ok' := fun k_ => (P0_ k_ ∨ w.heap.size ≤ k_)) al (fun k_ hk_ => Or.elim hk_ (fun hs_ => hs_) (fun hn_ => (.inr (Nat.le_trans (below_size bq) hn_))))) (below_size bq)); replace HB := ze hb; (try clear al); obtain ⟨bu, bv, bg⟩ := V_slice a8.out; subst bg))
  go_ret2
  exact ⟨_, er, V_nil _ _ _ _ _, bq⟩
 rw [if_neg c4] at H;have aR := beq_eq_false_iff_ne.mpr c4;have aS := bne_iff_ne.mpr c4
 have b7 : ¬ (a9 = []) := fun h_ => c4 (by rw [h_]; rfl)
 obtain ⟨aL, A7, H⟩ := zh H
 by_cases c8 : (wrap64 (Int.tdiv a1 64)) ≥ (a9.length : Int)
 ·rw [if_pos c8] at H;have aM := decide_eq_true c8;clear c8;simp only [Option.some.injEq, Prod.mk.injEq] at H;obtain ⟨rfl, rfl⟩ := H;go_enter Tryd.func73, Tryd.ntmps73
  go_wp2_with (first | ((with_reducible refine zG 59 rfl ?_); refine zC (some 12) Tryd.func59 (limbs_Trim.calls k (fun k_ => (P0_ k_ ∨ w.heap.size ≤ k_)) _ _ l0 a9 _ ?ab A3.out) ?_; (case ab => exact ak.out); rintro e w9 ⟨v115, rfl, al, hb⟩; refine ⟨_, rfl, ?_⟩; replace ak := zA (V_below (vu ak.out) hb); have a8 := zA (V_lower (V_mono (ok' := fun k_ => (P0_ k_ ∨ w.heap.size ≤ k_)) al (fun k_ hk_ => Or.elim hk_ (fun hs_ => hs_) (fun hn_ => (.inr (Nat.le_trans (below_size bq) hn_))))) (below_size bq)); replace HB := ze hb; (try clear al); obtain ⟨bs, bt, b8⟩ := V_slice a8.out; subst b8) | ((with_reducible refine zG 72 rfl ?_); refine zC (some 17) Tryd.func72 (limbs_Low.calls k _ _ a9 aL _ ?ab ?aI (laid_below hT bq) A7.out) ?_; (case ab => exact zk (V_reads' a8.out).2.2); (case aI => exact (V_reads' a8.out).2.1); rintro e w' ⟨rfl, ⟨nd, rfl⟩⟩; refine ⟨_, rfl, ?_⟩))
  go_ret2
  exact ⟨_, er, V_nil _ _ _ _ _, bq⟩
 rw [if_neg c8] at H;have aM := decide_eq_false c8;clear c8;generalize ac : wrap64 (Int.tdiv a1 64) = af at H;(try rw [ac] at aM);(try rw [ac] at A3);(try rw [ac] at A7);have hji11w : (IntKind.i64.wrap (Int.tdiv a1 64)) = af := (i64_w _).trans ac;replace H := dn H;obtain ⟨c12, H⟩ := H;have aU := eq_true c12;have aV := decide_eq_true c12;clear c12;replace H := dn H;obtain ⟨c13, H⟩ := H;have aW := eq_true c13;have aX := decide_eq_true c13;clear c13;obtain ⟨a3, au⟩ : ∃ y_ : List Int, y_ = (a9.drop ((af) : Int).toNat) := ⟨_, rfl⟩;(first | replace H := zRb au H | rw [← au] at H | skip);have aN := zA au;clear au;replace H := dn H;obtain ⟨c14, H⟩ := H;have aY := eq_true c14;have az := decide_eq_true c14;clear c14;replace H := dn H;obtain ⟨c15, H⟩ := H;have aZ := eq_true c15;have b1 := decide_eq_true c15;clear c15;obtain ⟨b9, av⟩ : ∃ y_ : List Int, y_ = (List.replicate ((a3.length : Int) : Int).toNat 0) := ⟨_, rfl⟩;(first | replace H := zRb av H | rw [← av] at H | skip);have aO := zA av;clear av;have H' := zA H;clear H;go_enter Tryd.func73, Tryd.ntmps73
 go_wp2_with (first | ((with_reducible refine zG 59 rfl ?_); refine zC (some 12) Tryd.func59 (limbs_Trim.calls k (fun k_ => (P0_ k_ ∨ w.heap.size ≤ k_)) _ _ l0 a9 _ ?ab A3.out) ?_; (case ab => exact ak.out); rintro e w16 ⟨v115, rfl, al, hb⟩; refine ⟨_, rfl, ?_⟩; replace ak := zA (V_below (vu ak.out) hb); have a8 := zA (V_lower (V_mono (ok' := fun k_ => (P0_ k_ ∨ w.heap.size ≤ k_)) al (fun k_ hk_ => Or.elim hk_ (fun hs_ => hs_) (fun hn_ => (.inr (Nat.le_trans (below_size bq) hn_))))) (below_size bq)); replace HB := ze hb; (try clear al); obtain ⟨aJ, aD, ba⟩ := V_slice a8.out; subst ba) | ((with_reducible refine zG 72 rfl ?_); refine zC (some 17) Tryd.func72 (limbs_Low.calls k _ _ a9 aL _ ?ab ?aI (laid_below hT bq) A7.out) ?_; (case ab => exact zk (V_reads' a8.out).2.2); (case aI => exact (V_reads' a8.out).2.1); rintro e w' ⟨rfl, ⟨nd, rfl⟩⟩; refine ⟨_, rfl, ?_⟩; have q18 : ((af) : Int) ≤ ((a9.length : Int) : Int) := od; obtain ⟨i018, hi018, _, hsz18, _⟩ := info_parts info22; have hroom18 : a9.length ≤ aD := (V_reads' a8.out).2.1; have hC18 : Kd.F (Kd.int .u64) _ _ aJ a9.length a9 := (V_at (base := w.heap.size) a8.out).2.2; have q018 : (0 : Int) ≤ ((af) : Int) := od; have hcut18 := cut_from (P := Tryd.prog) 33 22 .i64 Tryd.underlying33 hi018 1 hsz18 aJ a9.length aD (af) q018 q18; have hr18 := Kd.F_cut (m := ((af) : Int).toNat) (c := aD) hC18 (by omega) hroom18; obtain ⟨aP, hA18⟩ : ∃ A1, A1 = (if aD = ((af) : Int).toNat then aJ else (aJ : Option Addr).map (·.add (((af) : Int).toNat * 1))) := ⟨_, rfl⟩; obtain ⟨c18, hc18⟩ : ∃ c1, c1 = aD - ((af) : Int).toNat := ⟨_, rfl⟩; have aE : a3.length = a9.length - ((af) : Int).toNat := (by rw [aN.out, List.length_drop] <;> omega); rw [show (a9).drop ((af) : Int).toNat = a3 from aN.out.symm] at hr18; replace hr18 : Kd.F (Kd.int .u64) _ _ aP a3.length a3 := (by rw [hA18]; exact hr18); rw [← aE, ← hA18, ← hc18] at hcut18; have aw := zA (show Kd.V (Kd.int .u64) 22 _ w.heap.size _ (.slice aP a3.length c18) a3 from V_mk (by rw [aE, hc18]; exact Nat.sub_le_sub_right hroom18 _) hr18); have bi := zA (show a3.length ≤ c18 from by rw [aE, hc18]; exact Nat.sub_le_sub_right hroom18 _); have KC18 := zA hc18; clear hr18 hC18 hroom18 hi018 hsz18 hc18; have KY18 := zA aE; have KA18 := zA hA18; clear aE hA18; replace q18 := eq_true q18) | ((with_reducible refine zD 32 rfl ?_); (try (refine gate_guard (by rfl) ?_; dsimp only)); refine R_make (Kd.int .u64) _ 22 rfl (N := 32) rfl 33 _ _ rfl (a3.length : Int) rfl rfl Tryd.underlying33 (.int .u64 0) 8 info22 rfl (by decide) (by omega) 0 (ok := fun _ => True) (okp := fun _ => True) rfl (fun _ hk => hk) trivial (od) (Nat.le_trans (Nat.mul_le_mul_right _ (od : (a3.length : Int).toNat ≤ 35184372088832)) (by omega)) (Below.refl _ _) (Nat.le_refl _) ?_; intro v124 w19 am hb hg_ hnew_; clear hg_ hnew_; (first | rw [← aO.out] at am | (simp only [Int.reduceToNat] at am; rw [← aO.out] at am)); replace ak := zA (V_elder' (vu ak.out) (R_base am) hb); replace a8 := zA (V_elder' (vu a8.out) (R_base am) hb); replace aw := zA (V_elder' (vu aw.out) (R_base am) hb); have b2 := zA (R_lower (R_newM (M := fun k_ => (w.heap.size ≤ k_)) am (below_size bq) (fun k_ h_ => h_)) (below_size bq)); replace HB := ze hb; clear hb am))
 go_loopg [37] k (fun kq v37 w' => ∃ (a4 : List Int) (a2 : Int), v37 = .int .i64 a2 ∧ Aside0 (limbs_Shr.l0 kq a3 (decide (aL < a1)) a4 (Int.tmod a1 64) a3 (a3.length : Int) a2 = some (r1, r2)) ∧ Aside0 (kq ≤ k) ∧ Aside0 (Kd.V (Kd.int .u64) 22 w' w.heap.size (fun k_ => (P0_ k_ ∨ w.heap.size ≤ k_) ∧ some k_ ≠ (v124 : Value).ownBlock) (.slice aP a3.length c18) a3) ∧ Aside0 (Kd.R (Kd.int .u64) 22 w' w.heap.size (fun k_ => (w.heap.size ≤ k_)) v124 a4) ∧ Aside0 (Kd.V (Kd.int .u64) 22 w' w.heap.size (fun k_ => (P0_ k_ ∨ w.heap.size ≤ k_) ∧ some k_ ≠ (v124 : Value).ownBlock) (.slice aP a3.length c18) a3) ∧ Aside0 (Below w.heap.size w w'))
 case atStart => exact ⟨(b9), (0), zi, H', ⟨Nat.le_refl _⟩, ⟨vu aw.out⟩, ⟨ru (R_mono b2.out (fun _ hk => hk.1))⟩, ⟨vu aw.out⟩, ⟨bq⟩⟩
 case round =>
  clear H'
  try clear c1
  try clear c4
  try clear aR
  try clear aS
  try clear b7
  try clear c5
  try clear c7
  try clear c8
  try clear aM
  try clear c12
  try clear aU
  try clear aV
  try clear c13
  try clear aW
  try clear aX
  try clear c14
  try clear aY
  try clear az
  try clear c15
  try clear aZ
  try clear b1
  try clear c18
  try clear q18
  try clear q018
  try clear q18
  obtain ⟨a4, a2, rfl, HA, HK1, aa, a5, a6, HB⟩ := hrel
  cases gk with
  | zero => exact absurd HA.out (by simp [limbs_Shr.l0])
  | succ k1 =>
   have H := HA.out;clear HA;simp only [limbs_Shr.l0] at H
   by_cases c21 : a2 < (a3.length : Int)
   ·rw [if_pos c21] at H;have b3 := decide_eq_true c21;clear c21;replace H := dn H;obtain ⟨c22, H⟩ := H;have bj := decide_eq_true c22;clear c22;replace H := dn H;obtain ⟨c23, H⟩ := H;have bk := decide_eq_true c23;clear c23;generalize ae : Int.tmod a1 64 = ap at H;replace H := dn H;obtain ⟨c25, H⟩ := H;have bl := eq_true c25;have bm := decide_eq_true c25;clear c25;generalize ag : shr .u64 (rd a3 a2) (ap) = aj at H;have hji26_ : ((rd a3 a2) / 2 ^ min (ap).toNat 64) = aj := ag;have hji26z : (ap) ≤ 64 → ((rd a3 a2) / 2 ^ (ap).toNat) = aj := shr_small ag;replace H := dn H;obtain ⟨c27, H⟩ := H;have bn := decide_eq_true c27;clear c27;obtain ⟨ad, ax⟩ : ∃ y_ : List Int, y_ = (a4.set (a2 : Int).toNat (aj)) := ⟨_, rfl⟩;(first | replace H := zRb ax H | rw [← ax] at H | skip);have ay := zA ax;clear ax
    by_cases c29 : (ap) > 0
    ·rw [if_pos c29] at H;have b4 := decide_eq_true c29;clear c29
     by_cases c30 : (wrap64 (a2 + 1)) < (a3.length : Int)
     ·rw [if_pos c30] at H;have aQ := decide_eq_true c30;clear c30;generalize aq : wrap64 (a2 + 1) = ah at H;(try rw [aq] at aQ);have hji31w : (IntKind.i64.wrap (a2 + 1)) = ah := (i64_w _).trans aq;replace H := dn H;obtain ⟨c32, H⟩ := H;have bo := decide_eq_true c32;clear c32;generalize aA : wrap64 (64 - (ap)) = aF at H;have hji33w : (IntKind.i64.wrap (64 - (ap))) = aF := (i64_w _).trans aA;replace H := dn H;obtain ⟨c34, H⟩ := H;have bp := eq_true c34;have br := decide_eq_true c34;clear c34;generalize aB : shl .u64 (rd a3 (ah)) (aF) = ar at H;have hji35_ : (IntKind.u64.wrap ((rd a3 (ah)) * 2 ^ min (aF).toNat 64)) = ar := aB;have hji35z : (aF) ≤ 64 → (IntKind.u64.wrap ((rd a3 (ah)) * 2 ^ (aF).toNat)) = ar := shl_small aB;obtain ⟨bb, aC⟩ : ∃ y_ : List Int, y_ = (ad.set (a2 : Int).toNat (Go.bits .or .u64 (rd ad a2) (ar))) := ⟨_, rfl⟩;(first | replace H := zRb aC H | rw [← aC] at H | skip);have b5 := zA aC;clear aC;have H' := zA H;clear H;have p126 : 0 ≤ (a2 : Int) := od;have q126 : a2 < (a3.length : Int) := od;obtain ⟨ad126, e126, aG⟩ := Kd.at_int (V_reads' a6.out).2.2 a2 p126 q126;cases e126;replace p126 := eq_true p126;replace q126 := eq_true q126;have p28 : 0 ≤ (a2 : Int) := od;have q28 : (a2 : Int) < ((a4.length : Int) : Int) := od;obtain ⟨go28, a7, an, ao, gl28, cl28, HG28⟩ := R_form a5.out (by omega)
      (first | cases an | (injection an with ea_ en_ ec_; (first | subst ea_ | (injection ea_ with ea_; subst ea_)); subst ec_; clear en_))
      have GB28 := zA ao;have GG28 := zA HG28;clear ao gl28 HG28;obtain ⟨aK, hf28_0⟩ := R_celln 0 a5.out (a2 : Int) p28 q28;replace p28 := eq_true p28;replace q28 := eq_true q28;have HP37 := R_putg a5.out (a2 : Int) aj
      try go_wp2_with (first | ((with_reducible refine gate_store (t := 22) (p := 47) rfl ?_); refine store_event (t := 22) (p := 47) (v := ?vo_w38) (w1 := (wr.setCell ⟨go28, (a2 : Int).toNat, none⟩ (.int .u64 aj))) ?hg ?ho ?hn ?hr ?_; (case ho => rfl); (case hg => rfl); (case hn => rfl); (case hr => first | (go_simp; done) | (go_simp; rfl)); intro w38 hw; have hg : wr.grownBy w38 (some go28) := (by rw [hw]; exact HP37.2); have hp_ : Kd.R (Kd.int .u64) 22 w38 w.heap.size (fun k_ => (w.heap.size ≤ k_)) (.slice (some ⟨go28, 0, none⟩) a4.length a7) ad := (by rw [hw, ay.out]; exact HP37.1); clear HP37; replace aa := zA (V_afterv (v := (.slice (some ⟨go28, 0, none⟩) a4.length a7)) (v1 := (.slice (some ⟨go28, 0, none⟩) a4.length a7)) (ok := (fun k_ => (P0_ k_ ∨ w.heap.size ≤ k_))) (vu aa.out) hg (.inl rfl)); replace a5 := zA (hp_); replace a6 := zA (V_afterv (v := (.slice (some ⟨go28, 0, none⟩) a4.length a7)) (v1 := (.slice (some ⟨go28, 0, none⟩) a4.length a7)) (ok := (fun k_ => (P0_ k_ ∨ w.heap.size ≤ k_))) (vu a6.out) hg (.inl rfl)); replace HB := zA ((by rw [hw]; exact below_set (HB.out) GB28.out : Below w.heap.size w w38)); clear hg hw hp_))
      replace aa := zA (V_drew aa.out);replace a5 := zA (R_drew a5.out);replace a6 := zA (V_drew a6.out);replace HB := zA (below_drew1 HB.out);have p128 : 0 ≤ (a2 : Int) := od;have q128 : a2 < (ad.length : Int) := (by have h_ : (a2 : Int) < ((a4.length : Int) : Int) := od; first | (have e_ := (R_reads' a5.out).1; omega) | simpa only [ay.out, List.length_set] using h_);have ql128 : ((a2 : Int) < ((a4.length : Int) : Int)) = True := eq_true (od);obtain ⟨ad128, e128, ai⟩ := Kd.at_int (R_reads' a5.out).2.2 a2 p128 q128;obtain rfl : (⟨go28, 0, none⟩ : Addr) = ad128 := (by injection e128)
      (first | simp only [add_plain] at ai | simp only [add_at] at ai | simp only [Addr.add, Nat.zero_add] at ai | skip)
      replace p128 := eq_true p128;replace q128 := eq_true q128;have p129 : 0 ≤ ((ah) : Int) := od;have q129 : (ah) < (a3.length : Int) := od;obtain ⟨ad129, e129, aH⟩ := Kd.at_int (V_reads' aa.out).2.2 (ah) p129 q129;obtain rfl : ad126 = ad129 := (by injection e129);replace p129 := eq_true p129;replace q129 := eq_true q129;have p36 : 0 ≤ (a2 : Int) := od;have q36 : (a2 : Int) < ((a4.length : Int) : Int) := od;obtain ⟨aT, hf36_0⟩ := R_celln 0 a5.out (a2 : Int) p36 q36;replace p36 := eq_true p36;replace q36 := eq_true q36;have HP40 := R_putn a5.out (a2 : Int) (Go.bits .or .u64 (rd ad a2) (ar));rw [← b5.out] at HP40;have HQ40 := zA HP40;clear HP40;refine start_ (n := 15) (S := fun w' => w'.cell? ⟨go28, (a2).toNat, none⟩ = some (.int .u64 (rd ad a2)) ∧ w'.cell? (ad126.add ((ah)).toNat) = some (.int .u64 (rd a3 (ah)))) (ds := [14]) #[false, false, false, false, false, false, false, false, false, false, false, false, false, false, false] (by kernel_rfl) rfl rfl ⟨ai, aH⟩ (fun hHeld => ?_); refine with_tabW limbs_Shr.tab15 limbs_Shr.bits15 (fun HT_ HW_ => ?_);generalize w38.drew = w39 at aa a5 a6 HB HQ40 hf36_0 ai aH aT hHeld ⊢;refine pure_ (i := 0) (N := some 57) (v := ?_) (a' := ?_) #[true, false, false, false, false, false, false, false, false, false, false, false, false, false, false] rfl rfl (any_of HT_.out (by kernel_rfl)) (fun _ _ _ h => h) (Or.inl ⟨by rfl, ?_⟩) ?_ ?_;rotate_left;·intro w';go_simp;with_reducible rfl
      rotate_left;·exact zq
      refine pure_ (i := 1) (N := some 58) (v := ?_) (a' := ?_) #[true, true, false, false, false, false, false, false, false, false, false, false, false, false, false] rfl rfl (any_of HT_.out (by kernel_rfl)) (fun _ _ _ h => h) (Or.inl ⟨by rfl, ?_⟩) ?_ ?_;rotate_left;·intro w';go_simp;with_reducible rfl
      rotate_left;·exact zq
      refine pure_ (i := 2) (N := some 59) (v := ?_) (a' := ?_) #[true, true, true, false, false, false, false, false, false, false, false, false, false, false, false] rfl rfl (any_of HT_.out (by kernel_rfl)) (fun _ _ _ h => h) (Or.inl ⟨by rfl, ?_⟩) ?_ ?_;rotate_left;·intro w';go_simp;with_reducible rfl
      rotate_left;·exact zq
      refine pure_ (i := 4) (N := some 61) (v := ?_) (a' := ?_) #[true, true, true, false, true, false, false, false, false, false, false, false, false, false, false] rfl rfl (any_of HT_.out (by kernel_rfl)) (fun _ _ _ h => h) (Or.inl ⟨by rfl, ?_⟩) ?_ ?_;rotate_left;·intro w';go_simp;with_reducible rfl
      rotate_left;·exact zq
      refine pure_ (i := 5) (N := some 62) (v := ?_) (a' := ?_) #[true, true, true, false, true, true, false, false, false, false, false, false, false, false, false] rfl rfl (any_of HT_.out (by kernel_rfl)) (fun _ _ _ h => h) (Or.inl ⟨by rfl, ?_⟩) ?_ ?_;rotate_left;·intro w';go_simp;with_reducible rfl
      rotate_left;·exact zq
      refine pure_ (i := 6) (N := some 63) (v := ?_) (a' := ?_) #[true, true, true, false, true, true, true, false, false, false, false, false, false, false, false] rfl rfl (any_of HT_.out (by kernel_rfl)) (fun _ _ _ h => h) (Or.inl ⟨by rfl, ?_⟩) ?_ ?_;rotate_left;·intro w';go_simp;with_reducible rfl
      rotate_left;·exact zq
      refine pure_ (i := 7) (N := some 64) (v := ?_) (a' := ?_) #[true, true, true, false, true, true, true, true, false, false, false, false, false, false, false] rfl rfl (any_of HT_.out (by kernel_rfl)) (fun _ _ _ h => h) (Or.inl ⟨by rfl, ?_⟩) ?_ ?_;rotate_left;·intro w';go_simp;with_reducible rfl
      rotate_left;·exact zq
      refine pure_ (i := 9) (N := some 66) (v := ?_) (a' := ?_) #[true, true, true, false, true, true, true, true, false, true, false, false, false, false, false] rfl rfl (any_of HT_.out (by kernel_rfl)) (fun _ _ _ h => h) (Or.inl ⟨by rfl, ?_⟩) ?_ ?_;rotate_left;·intro w';go_simp;with_reducible rfl
      rotate_left;·exact zq
      refine pure_ (i := 10) (N := some 67) (v := ?_) (a' := ?_) #[true, true, true, false, true, true, true, true, false, true, true, false, false, false, false] rfl rfl (any_of HT_.out (by kernel_rfl)) (fun _ _ _ h => h) (Or.inl ⟨by rfl, ?_⟩) ?_ ?_;rotate_left;·intro w';go_simp;with_reducible rfl
      rotate_left;·exact zq
      refine take_ (i := 3) (N := some 60) (v := ?_) (a' := ?_) #[true, true, true, true, true, true, true, true, false, true, true, false, false, false, false] rfl rfl (take_ofW HT_.out HW_.out (by kernel_rfl)) (fun _ _ _ h => h) (Or.inl ⟨by rfl, ?_⟩) hHeld ?_ ?_;rotate_left;·rintro w' ⟨s0, s1⟩;go_simp;with_reducible rfl
      rotate_left;·exact zq
      refine take_ (i := 8) (N := some 65) (v := ?_) (a' := ?_) #[true, true, true, true, true, true, true, true, true, true, true, false, false, false, false] rfl rfl (take_ofW HT_.out HW_.out (by kernel_rfl)) (fun _ _ _ h => h) (Or.inl ⟨by rfl, ?_⟩) hHeld ?_ ?_;rotate_left;·rintro w' ⟨s0, s1⟩;go_simp;with_reducible rfl
      rotate_left;·exact zq
      refine pure_ (i := 11) (N := some 68) (v := ?_) (a' := ?_) #[true, true, true, true, true, true, true, true, true, true, true, true, false, false, false] rfl rfl (any_of HT_.out (by kernel_rfl)) (fun _ _ _ h => h) (Or.inl ⟨by rfl, ?_⟩) ?_ ?_;rotate_left;·intro w';go_simp;with_reducible rfl
      rotate_left;·exact zq
      refine pure_ (i := 12) (N := some 69) (v := ?_) (a' := ?_) #[true, true, true, true, true, true, true, true, true, true, true, true, true, false, false] rfl rfl (any_of HT_.out (by kernel_rfl)) (fun _ _ _ h => h) (Or.inl ⟨by rfl, ?_⟩) ?_ ?_;rotate_left;·intro w';go_simp;with_reducible rfl
      rotate_left;·exact zq
      refine pure_ (i := 13) (N := some 70) (v := ?_) (a' := ?_) #[true, true, true, true, true, true, true, true, true, true, true, true, true, true, false] rfl rfl (any_of HT_.out (by kernel_rfl)) (fun _ _ _ h => h) (Or.inl ⟨by rfl, ?_⟩) ?_ ?_;rotate_left;·intro w';go_simp;with_reducible rfl
      rotate_left;·exact zq
      refine last_ (i := 14) (N := none) #[true, true, true, true, true, true, true, true, true, true, true, true, true, true, true] rfl rfl (one_of HT_.out (by kernel_rfl)) (by decide) (fun K hK => ?_);refine skip_ (w1 := ?_) (by rfl) rfl ?_ ?_;rotate_left;·go_simp;rfl
      refine hK.out _ _ ?_;clear hK K;refine done_ (done_of HT_.out (by kernel_rfl)) ?_
      try go_wp2
      (try simp only [← ae, ← aA])
      go_roundg k1
      case measure => have := HK1.out; omega
      case rel => exact ⟨(bb), (ah), (by first | rfl | (simp; done) | (simp only [← aq] <;> (first | rfl | simp)) | (simp [*]; done)), (by first | exact H' | (simp only [ac, ae, ag, aq, aA, aB]; exact H') | (simp only [ac, ae, ag, aq, aA, aB] at H' ⊢; exact H')), ⟨by have := HK1.out; omega⟩, ⟨vu (V_mono (V_far (p := ⟨go28, (a2 : Int).toNat, none⟩) (V_mono aa.out (fun k_ hk => (⟨hk, fun e_ => hk.2 (by rw [e_]; rfl)⟩ : _ ∧ k_ ≠ go28))) (fun _ hk => hk.2) (.int .u64 (Go.bits .or .u64 (rd ad a2) (ar)))) (fun _ hk => ⟨hk.1.1, hk.1.2⟩))⟩, ⟨ru HQ40.out⟩, ⟨vu (V_mono (V_far (p := ⟨go28, (a2 : Int).toNat, none⟩) (V_mono a6.out (fun k_ hk => (⟨hk, fun e_ => hk.2 (by rw [e_]; rfl)⟩ : _ ∧ k_ ≠ go28))) (fun _ hk => hk.2) (.int .u64 (Go.bits .or .u64 (rd ad a2) (ar)))) (fun _ hk => ⟨hk.1.1, hk.1.2⟩))⟩, ⟨by repeat (first | (with_reducible first | exact HB.out | apply below_alloc | apply pw_below_drewN | apply below_drew1 | refine below_set ?_ GB28.out) | exact HB.out)⟩⟩
     rw [if_neg c30] at H;have aQ := decide_eq_false c30;clear c30;have H' := zA H;clear H;have p126 : 0 ≤ (a2 : Int) := od;have q126 : a2 < (a3.length : Int) := od;obtain ⟨ad126, e126, aG⟩ := Kd.at_int (V_reads' a6.out).2.2 a2 p126 q126;cases e126;replace p126 := eq_true p126;replace q126 := eq_true q126;have p28 : 0 ≤ (a2 : Int) := od;have q28 : (a2 : Int) < ((a4.length : Int) : Int) := od;obtain ⟨go28, a7, an, ao, gl28, cl28, HG28⟩ := R_form a5.out (by omega)
     (first | cases an | (injection an with ea_ en_ ec_; (first | subst ea_ | (injection ea_ with ea_; subst ea_)); subst ec_; clear en_))
     have GB28 := zA ao;have GG28 := zA HG28;clear ao gl28 HG28;obtain ⟨aK, hf28_0⟩ := R_celln 0 a5.out (a2 : Int) p28 q28;replace p28 := eq_true p28;replace q28 := eq_true q28;have HP41 := R_putg a5.out (a2 : Int) aj
     go_wp2_with (first | ((with_reducible refine gate_store (t := 22) (p := 47) rfl ?_); refine store_event (t := 22) (p := 47) (v := ?vo_w42) (w1 := (wr.setCell ⟨go28, (a2 : Int).toNat, none⟩ (.int .u64 aj))) ?hg ?ho ?hn ?hr ?_; (case ho => rfl); (case hg => rfl); (case hn => rfl); (case hr => first | (go_simp; done) | (go_simp; rfl)); intro w42 hw; have hg : wr.grownBy w42 (some go28) := (by rw [hw]; exact HP41.2); have hp_ : Kd.R (Kd.int .u64) 22 w42 w.heap.size (fun k_ => (w.heap.size ≤ k_)) (.slice (some ⟨go28, 0, none⟩) a4.length a7) ad := (by rw [hw, ay.out]; exact HP41.1); clear HP41; replace aa := zA (V_afterv (v := (.slice (some ⟨go28, 0, none⟩) a4.length a7)) (v1 := (.slice (some ⟨go28, 0, none⟩) a4.length a7)) (ok := (fun k_ => (P0_ k_ ∨ w.heap.size ≤ k_))) (vu aa.out) hg (.inl rfl)); replace a5 := zA (hp_); replace a6 := zA (V_afterv (v := (.slice (some ⟨go28, 0, none⟩) a4.length a7)) (v1 := (.slice (some ⟨go28, 0, none⟩) a4.length a7)) (ok := (fun k_ => (P0_ k_ ∨ w.heap.size ≤ k_))) (vu a6.out) hg (.inl rfl)); replace HB := zA ((by rw [hw]; exact below_set (HB.out) GB28.out : Below w.heap.size w w42)); clear hg hw hp_))
     (try simp only [← ae])
     go_roundg k1
     case measure => have := HK1.out; omega
     case rel => exact ⟨(ad), (wrap64 (a2 + 1)), zi, (by first | exact H' | (simp only [ac, ae, ag]; exact H') | (simp only [ac, ae, ag] at H' ⊢; exact H')), ⟨by have := HK1.out; omega⟩, ⟨vu aa.out⟩, ⟨ru a5.out⟩, ⟨vu a6.out⟩, ⟨bq⟩⟩
    rw [if_neg c29] at H;have b4 := decide_eq_false c29;clear c29;have H' := zA H;clear H;have p126 : 0 ≤ (a2 : Int) := od;have q126 : a2 < (a3.length : Int) := od;obtain ⟨ad126, e126, aG⟩ := Kd.at_int (V_reads' a6.out).2.2 a2 p126 q126;cases e126;replace p126 := eq_true p126;replace q126 := eq_true q126;have p28 : 0 ≤ (a2 : Int) := od;have q28 : (a2 : Int) < ((a4.length : Int) : Int) := od;obtain ⟨go28, a7, an, ao, gl28, cl28, HG28⟩ := R_form a5.out (by omega)
    (first | cases an | (injection an with ea_ en_ ec_; (first | subst ea_ | (injection ea_ with ea_; subst ea_)); subst ec_; clear en_))
    have GB28 := zA ao;have GG28 := zA HG28;clear ao gl28 HG28;obtain ⟨aK, hf28_0⟩ := R_celln 0 a5.out (a2 : Int) p28 q28;replace p28 := eq_true p28;replace q28 := eq_true q28;have HP43 := R_putg a5.out (a2 : Int) aj
    go_wp2_with (first | ((with_reducible refine gate_store (t := 22) (p := 47) rfl ?_); refine store_event (t := 22) (p := 47) (v := ?vo_w44) (w1 := (wr.setCell ⟨go28, (a2 : Int).toNat, none⟩ (.int .u64 aj))) ?hg ?ho ?hn ?hr ?_; (case ho => rfl); (case hg => rfl); (case hn => rfl); (case hr => first | (go_simp; done) | (go_simp; rfl)); intro w44 hw; have hg : wr.grownBy w44 (some go28) := (by rw [hw]; exact HP43.2); have hp_ : Kd.R (Kd.int .u64) 22 w44 w.heap.size (fun k_ => (w.heap.size ≤ k_)) (.slice (some ⟨go28, 0, none⟩) a4.length a7) ad := (by rw [hw, ay.out]; exact HP43.1); clear HP43; replace aa := zA (V_afterv (v := (.slice (some ⟨go28, 0, none⟩) a4.length a7)) (v1 := (.slice (some ⟨go28, 0, none⟩) a4.length a7)) (ok := (fun k_ => (P0_ k_ ∨ w.heap.size ≤ k_))) (vu aa.out) hg (.inl rfl)); replace a5 := zA (hp_); replace a6 := zA (V_afterv (v := (.slice (some ⟨go28, 0, none⟩) a4.length a7)) (v1 := (.slice (some ⟨go28, 0, none⟩) a4.length a7)) (ok := (fun k_ => (P0_ k_ ∨ w.heap.size ≤ k_))) (vu a6.out) hg (.inl rfl)); replace HB := zA ((by rw [hw]; exact below_set (HB.out) GB28.out : Below w.heap.size w w44)); clear hg hw hp_))
    (try simp only [← ae])
    go_roundg k1
    case measure => have := HK1.out; omega
    case rel => exact ⟨(ad), (wrap64 (a2 + 1)), zi, (by first | exact H' | (simp only [ac, ae, ag]; exact H') | (simp only [ac, ae, ag] at H' ⊢; exact H')), ⟨by have := HK1.out; omega⟩, ⟨vu aa.out⟩, ⟨ru a5.out⟩, ⟨vu a6.out⟩, ⟨bq⟩⟩
   rw [if_neg c21] at H;have b3 := decide_eq_false c21;clear c21;obtain ⟨bc, bh, H⟩ := zh H;simp only [Option.some.injEq, Prod.mk.injEq] at H;obtain ⟨rfl, rfl⟩ := H;obtain ⟨bd, be, bf⟩ := R_slice a5.out;subst bf
   go_wp2_with (first | ((with_reducible refine zG 59 rfl ?_); refine zC (some 73) Tryd.func59 (limbs_Trim.calls k1 (fun k_ => some k_ = (.slice bd a4.length be : Value).ownBlock) _ _ a4 bc _ ?ab bh.out) ?_; (case ab => exact R_V (R_tight rfl (a5.out))); rintro e w47 ⟨v132, rfl, al, hb⟩; refine ⟨_, rfl, ?_⟩; replace aa := zA (V_below (vu aa.out) hb); replace a6 := zA (V_below (vu a6.out) hb); have b6 := zA (V_lower (V_mono (ok' := fun k_ => (P0_ k_ ∨ w.heap.size ≤ k_)) al (fun k_ hk_ => Or.elim hk_ (fun hs_ => (.inr (((a5.out).1 k_ hs_.symm)))) (fun hn_ => (.inr (Nat.le_trans (below_size bq) hn_))))) (below_size bq)); replace a5 := zA (R_below (ru a5.out) hb); replace HB := ze hb; (try clear al)))
   go_ret2
   exact ⟨_, by first | rfl | (simp [errW_none, errW_some] <;> rfl) | (simp only [← ac]; first | rfl | (simp [errW_none, errW_some] <;> rfl)) | (simp [*, errW_none, errW_some] <;> rfl), vu b6.out, bq⟩
def raw_Form.f (k : Nat) (a0 : Bool) (l1 : List Int) (a2 : Int) : Option (Bool × List Int × Int) := (limbs_Trim.f k l1).bind fun a1 => (if (a1.length : Int) = 0 then (some (false, ([] : List Int), 0)) else ((limbs_Low.f k a1).bind fun a3 => ((limbs_Shr.f k a1 a3).bind fun a4 => (some (a0, a4.1, wrap64 (a2 + a3))))))
set_option maxHeartbeats 8000000 in
set_option maxRecDepth 100000 in
theorem raw_Form.calls (k : Nat) (a0 : Bool) (P1_ : Nat → Prop) (A1 : Option Addr) (c1 : Nat) (l1 : List Int) (a2 : Int) (r1 : Bool) (r2 : List Int) (r3 : Int) (w : World) (hs1 : Kd.V (Kd.int .u64) 22 w w.heap.size (fun k_ => P1_ k_) (.slice A1 l1.length c1) l1) (hT : Laid w) (h : raw_Form.f k a0 l1 a2 = some (r1, r2, r3)) :
  Calls Tryd.prog 44 #[.bool a0, .slice A1 l1.length c1, .int .i64 a2] w fun e w' => ∃ v1_ : Value, e = .returned (.agg #[.bool r1, v1_, .int .i64 r3]) ∧ Kd.V (Kd.int .u64) 22 w' w.heap.size (fun k_ => (P1_ k_ ∨ w.heap.size ≤ k_)) v1_ r2 ∧ Below w.heap.size w w' := by
 have hu36 := Tryd.underlying36;have a5 := zA (show Kd.V (Kd.int .u64) 22 w w.heap.size (fun k_ => (P1_ k_ ∨ w.heap.size ≤ k_)) (.slice A1 l1.length c1) l1 from V_mono hs1 (fun k_ hk => .inl hk));have HB := zA (Below.refl w.heap.size w);have H := h
 unfold raw_Form.f at H
 clear h;obtain ⟨a7, A4, H⟩ := zh H
 by_cases c5 : (a7.length : Int) = 0
 ·rw [if_pos c5] at H;have ag := beq_iff_eq.mpr c5;have ah := bne_eq_false_iff_eq.mpr c5;clear c5;simp only [Option.some.injEq, Prod.mk.injEq] at H;obtain ⟨rfl, rfl, rfl⟩ := H;go_enter Tryd.func44, Tryd.ntmps44
  go_wp2_with (first | ((with_reducible refine zD 6 rfl ?_); refine zn (N := 6) (cs := #[.bool false, .slice none 0 0, .int .i64 0]) (t := 36) rfl rfl ?_; intro a1 hg w6 hbox hb; replace a5 := zA (V_below (V_elderB (vu a5.out) a1 (Nat.le_of_eq hg.symm)) hb); have a3 := zA (hbox); have ae := zw hg; replace HB := ze hb; clear hb hbox hg) | ((with_reducible refine zG 59 rfl ?_); refine zC (some 11) Tryd.func59 (limbs_Trim.calls k (fun k_ => ((P1_ k_ ∨ w.heap.size ≤ k_) ∧ k_ ≠ a1)) _ _ l1 a7 _ ?a6 A4.out) ?_; (case a6 => exact a5.out); rintro e w7 ⟨v136, rfl, a8, hb⟩; refine ⟨_, rfl, ?_⟩; replace a5 := zA (V_below (vu a5.out) hb); have a4 := zA (V_lower (V_mono (ok' := fun k_ => (P1_ k_ ∨ w.heap.size ≤ k_) ∧ k_ ≠ a1) a8 (fun k_ hk_ => ⟨Or.elim hk_ (fun hs_ => hs_.1) (fun hn_ => (.inr (Nat.le_trans (below_size zs) hn_))), Or.elim hk_ (fun hs_ => hs_.2) (fun hn_ => (zj a3 k_ hn_))⟩)) (below_size zs)); replace a3 := zb a3 hb; replace HB := zf hb; (try clear a8); obtain ⟨aG, aH, av⟩ := V_slice a4.out; subst av; obtain ⟨aw, ax, ay, aA, aB, aC⟩ := zc a3))
  refine bodyPost_ret (results_cell_row rfl _ _ a1 36 #[.bool false, .slice none 0 0, .int .i64 0] (0, 0) _ rfl (zy a3) Tryd.underlying36 rfl (by kernel_rfl)) rfl ?_;exact ⟨_, er, V_nil _ _ _ _ _, zs⟩
 rw [if_neg c5] at H;have ag := beq_eq_false_iff_ne.mpr c5;have ah := bne_iff_ne.mpr c5
 have aF : ¬ (a7 = []) := fun h_ => c5 (by rw [h_]; rfl)
 obtain ⟨a9, aD, H⟩ := zh H;obtain ⟨⟨aa, ai⟩, aE, H⟩ := zh H;(try dsimp only at H);simp only [Option.some.injEq, Prod.mk.injEq] at H;obtain ⟨rfl, rfl, rfl⟩ := H;go_enter Tryd.func44, Tryd.ntmps44
 go_wp2_with (first | ((with_reducible refine zD 6 rfl ?_); refine zn (N := 6) (cs := #[.bool false, .slice none 0 0, .int .i64 0]) (t := 36) rfl rfl ?_; intro a1 hg w12 hbox hb; replace a5 := zA (V_below (V_elderB (vu a5.out) a1 (Nat.le_of_eq hg.symm)) hb); have a3 := zA (hbox); have ae := zw hg; replace HB := ze hb; clear hb hbox hg) | ((with_reducible refine zG 59 rfl ?_); refine zC (some 11) Tryd.func59 (limbs_Trim.calls k (fun k_ => ((P1_ k_ ∨ w.heap.size ≤ k_) ∧ k_ ≠ a1)) _ _ l1 a7 _ ?a6 A4.out) ?_; (case a6 => exact a5.out); rintro e w13 ⟨v136, rfl, a8, hb⟩; refine ⟨_, rfl, ?_⟩; replace a5 := zA (V_below (vu a5.out) hb); have a4 := zA (V_lower (V_mono (ok' := fun k_ => (P1_ k_ ∨ w.heap.size ≤ k_) ∧ k_ ≠ a1) a8 (fun k_ hk_ => ⟨Or.elim hk_ (fun hs_ => hs_.1) (fun hn_ => (.inr (Nat.le_trans (below_size zs) hn_))), Or.elim hk_ (fun hs_ => hs_.2) (fun hn_ => (zj a3 k_ hn_))⟩)) (below_size zs)); replace a3 := zb a3 hb; replace HB := zf hb; (try clear a8); obtain ⟨aj, ak, al⟩ := V_slice a4.out; subst al) | ((with_reducible refine zG 72 rfl ?_); refine zC (some 17) Tryd.func72 (limbs_Low.calls k _ _ a7 a9 _ ?a6 ?af (laid_below hT zs) aD.out) ?_; (case a6 => exact zk (V_reads' a4.out).2.2); (case af => exact (V_reads' a4.out).2.1); rintro e w' ⟨rfl, ⟨nd, rfl⟩⟩; refine ⟨_, rfl, ?_⟩; (try (rw [drewN_self w13]; generalize hq_ : World.drewN w13 _ = w13; have n0_ : Aside0 (Kd.V (Kd.int .u64) 22 w13 w.heap.size (fun k_ => (P1_ k_ ∨ w.heap.size ≤ k_) ∧ k_ ≠ a1) (.slice A1 l1.length c1) l1) := ⟨by rw [← hq_]; exact (vu a5.out)⟩; have n1_ : Aside0 (Kd.V (Kd.int .u64) 22 w13 w.heap.size (fun k_ => (P1_ k_ ∨ w.heap.size ≤ k_) ∧ k_ ≠ a1) (.slice aj a7.length ak) a7) := ⟨by rw [← hq_]; exact (vu a4.out)⟩; have n2_ : Aside0 (w13.heap[a1]? = some (.cells #[.bool false, .slice none 0 0, .int .i64 0] 36 (0, 0))) := ⟨by rw [← hq_]; exact (zu a3)⟩; have n3_ : Aside0 (Below w.heap.size w w13) := ⟨by rw [← hq_]; exact zs⟩; clear a5 a4 a3 HB hq_; have a5 := n0_; have a4 := n1_; have a3 := n2_; have HB := n3_; clear n0_ n1_ n2_ n3_))) | ((with_reducible refine zG 73 rfl ?_); refine zC (some 21) Tryd.func73 (limbs_Shr.calls k (fun k_ => ((P1_ k_ ∨ w.heap.size ≤ k_) ∧ k_ ≠ a1)) _ _ a7 a9 aa ai _ ?a6 (laid_below hT zs) aE.out) ?_; (case a6 => exact a4.out); rintro e w15 ⟨v140, rfl, a8, hb⟩; refine ⟨_, rfl, ?_⟩; replace a5 := zA (V_below (vu a5.out) hb); replace a4 := zA (V_below (vu a4.out) hb); have ab := zA (V_lower (V_mono (ok' := fun k_ => (P1_ k_ ∨ w.heap.size ≤ k_) ∧ k_ ≠ a1) a8 (fun k_ hk_ => ⟨Or.elim hk_ (fun hs_ => hs_.1) (fun hn_ => (.inr (Nat.le_trans (below_size zs) hn_))), Or.elim hk_ (fun hs_ => hs_.2) (fun hn_ => (zj a3 k_ hn_))⟩)) (below_size zs)); replace a3 := zb a3 hb; replace HB := zf hb; (try clear a8); obtain ⟨ac, ad, am⟩ := V_slice ab.out; subst am; obtain ⟨an, ao, ap, aq, ar, au⟩ := zc a3))
 refine bodyPost_ret (results_cell_row rfl _ _ a1 36 #[.bool a0, .slice ac aa.length ad, .int .i64 (wrap64 (a2 + a9))] (0, 0) _ rfl (zy a3) Tryd.underlying36 rfl (by kernel_rfl)) rfl ?_;exact ⟨_, er, vu (V_mono (V_far (p := ⟨a1, 2, none⟩) (V_far (p := ⟨a1, 1, none⟩) (V_far (p := ⟨a1, 0, none⟩) (V_mono ab.out (fun k_ hk => (⟨hk, hk.2⟩ : _ ∧ k_ ≠ a1))) (fun _ hk => hk.2) (.bool a0)) (fun _ hk => hk.2) (.slice ac aa.length ad)) (fun _ hk => hk.2) (.int .i64 (wrap64 (a2 + a9)))) (fun _ hk => hk.1.1)), zs⟩
def dyad_From.f (k : Nat) (a0 : Int) : Option (Bool × List Int × Int × Int) := if (wrap64 (Go.bits .and .u64 (a0 / 4503599627370496) 2047)) = 2047 then (some (false, ([] : List Int), 0, 5)) else (if (wrap64 (Go.bits .and .u64 (a0 / 4503599627370496) 2047)) = 0 then ((raw_Form.f k ((a0 / 9223372036854775808) == 1) (([Go.bits .and .u64 a0 4503599627370495] : List Int)) (1 - 1075)).bind fun a1 => (some (a1.1, a1.2.1, a1.2.2, 0))) else ((raw_Form.f k ((a0 / 9223372036854775808) == 1) (([Go.bits .or .u64 (Go.bits .and .u64 a0 4503599627370495) 4503599627370496] : List Int)) (wrap64 ((wrap64 (Go.bits .and .u64 (a0 / 4503599627370496) 2047)) - 1075))).bind fun a2 => (some (a2.1, a2.2.1, a2.2.2, 0))))
set_option maxHeartbeats 8000000 in
set_option maxRecDepth 100000 in
theorem dyad_From.calls (k : Nat) (a0 : Int) (r1 : Bool) (r2 : List Int) (r3 : Int) (r4 : Int) (w : World) (hT : Laid w) (h : dyad_From.f k a0 = some (r1, r2, r3, r4)) :
  Calls Tryd.prog 23 #[.int .u64 a0] w fun e w' => ∃ v1_ : Value, e = .returned (.tuple #[.agg #[.bool r1, v1_, .int .i64 r3], .int .i64 r4]) ∧ Kd.V (Kd.int .u64) 22 w' w.heap.size (fun k_ => (w.heap.size ≤ k_)) v1_ r2 ∧ Below w.heap.size w w' := by
 have hu36 := Tryd.underlying36;have HB := zA (Below.refl w.heap.size w);have H := h
 unfold dyad_From.f at H
 clear h
 by_cases c2 : (wrap64 (Go.bits .and .u64 (a0 / 4503599627370496) 2047)) = 2047
 ·rw [if_pos c2] at H;have ao := beq_iff_eq.mpr c2;have ap := bne_eq_false_iff_eq.mpr c2;clear c2;simp only [Option.some.injEq, Prod.mk.injEq] at H;obtain ⟨rfl, rfl, rfl, rfl⟩ := H;go_enter Tryd.func23, Tryd.ntmps23
  go_wp2_with (first | ((with_reducible refine zD 2 rfl ?_); refine zn (N := 2) (cs := #[.bool false, .slice none 0 0, .int .i64 0]) (t := 36) rfl rfl ?_; intro a2 hg w3 hbox hb; have a1 := zA (hbox); have ab := zw hg; replace HB := ze hb; clear hb hbox hg; obtain ⟨_, _, _, _, _, _⟩ := zc a1))
  refine bodyPost_ret (results_ct rfl _ _ a2 36 #[.bool false, .slice none 0 0, .int .i64 0] (0, 0) _ rfl (zy a1) Tryd.underlying36 rfl (by kernel_rfl)) rfl ?_;exact ⟨_, er, V_nil _ _ _ _ _, zs⟩
 rw [if_neg c2] at H;have ao := beq_eq_false_iff_ne.mpr c2;have ap := bne_iff_ne.mpr c2
 by_cases c5 : (wrap64 (Go.bits .and .u64 (a0 / 4503599627370496) 2047)) = 0
 ·rw [if_pos c5] at H;have aq := beq_iff_eq.mpr c5;have ar := bne_eq_false_iff_eq.mpr c5;clear c5;obtain ⟨ag, a5⟩ : ∃ y_ : List Int, y_ = (([Go.bits .and .u64 a0 4503599627370495] : List Int)) := ⟨_, rfl⟩;(first | replace H := zRb a5 H | rw [← a5] at H | skip);have ac := zA a5;clear a5;obtain ⟨⟨ah, ai, aj⟩, A6, H⟩ := zh H;(try dsimp only at H);simp only [Option.some.injEq, Prod.mk.injEq] at H;obtain ⟨rfl, rfl, rfl, rfl⟩ := H;go_enter Tryd.func23, Tryd.ntmps23
  go_wp2_with (first | ((with_reducible refine zD 2 rfl ?_); refine zn (N := 2) (cs := #[.bool false, .slice none 0 0, .int .i64 0]) (t := 36) rfl rfl ?_; intro a2 hg w7 hbox hb; have a1 := zA (hbox); have ab := zw hg; replace HB := ze hb; clear hb hbox hg) | ((with_reducible refine zD 24 rfl ?_); refine R_lit (Kd.int .u64) _ 22 ?hg (N := 24) ?hd (xs := ([Go.bits .and .u64 a0 4503599627370495] : List Int)) (inner := [.int .u64 (Go.bits .and .u64 a0 4503599627370495)]) (ok := fun _ => True) (okp := fun _ => True) ?hr ?hp (fun _ hk => hk) trivial (Below.refl _ _) (Nat.le_refl _) (by simp) ?_; (case hd => rfl); (case hg => rfl); (case hr => first | (go_simp; done) | (go_simp; rfl)); (case hp => exact (Reps.one (show Kd.M (Kd.int .u64) _ _ _ (Go.bits .and .u64 a0 4503599627370495) [.int .u64 (Go.bits .and .u64 a0 4503599627370495)] from rfl) (Reps.none _ _))); intro v145 w8 a9 hb hg_ hnew_; clear hg_ hnew_; (first | rw [← ac.out] at a9 | (simp only [Int.reduceToNat] at a9; rw [← ac.out] at a9)); have a3 := zA (R_lower (R_newM (M := fun k_ => (w.heap.size ≤ k_)) a9 (below_size zs) (fun k_ h_ => h_)) (below_size zs)); replace a1 := zb a1 hb; replace HB := zf hb; clear hb a9; obtain ⟨au, av, aw⟩ := R_slice a3.out; subst aw) | ((with_reducible refine zG 44 rfl ?_); refine zC (some 27) Tryd.func44 (raw_Form.calls k ((a0 / 9223372036854775808) == 1) (fun k_ => some k_ = (.slice au ag.length av : Value).ownBlock) _ _ ag (1 - 1075) ah ai aj _ ?a8 (laid_below hT zs) A6.out) ?_; (case a8 => exact R_V (R_tight rfl (R_types (a3.out) a1.out (by decide)))); rintro e w11 ⟨v149, rfl, aa, hb⟩; refine ⟨_, rfl, ?_⟩; have ad := zA (V_lower (V_mono (ok' := fun k_ => (w.heap.size ≤ k_) ∧ k_ ≠ a2) aa (fun k_ hk_ => ⟨Or.elim hk_ (fun hs_ => ((R_types (a3.out) a1.out (by decide)).1 k_ hs_.symm).1.1) (fun hn_ => (Nat.le_trans (below_size zs) hn_)), Or.elim hk_ (fun hs_ => ((R_types (a3.out) a1.out (by decide)).1 k_ hs_.symm).2) (fun hn_ => (zj a1 k_ hn_))⟩)) (below_size zs)); replace a3 := zA (R_below (ru a3.out) hb); replace a1 := zb a1 hb; replace HB := zf hb; (try clear aa); obtain ⟨aH, aI, aJ, aK, aL, aM⟩ := zc a1; obtain ⟨ax, ay, aA⟩ := V_slice ad.out; subst aA))
  refine bodyPost_ret (results_ct rfl _ _ a2 36 #[.bool ah, .slice ax ai.length ay, .int .i64 aj] (0, 0) _ rfl (zy a1) Tryd.underlying36 rfl (by kernel_rfl)) rfl ?_;exact ⟨_, er, vu (V_mono (zv a2 (V_mono ad.out (fun k_ hk => (⟨hk, hk.2⟩ : _ ∧ k_ ≠ a2))) (fun _ hk => hk.2) _ _ _) (fun _ hk => hk.1.1)), zs⟩
 rw [if_neg c5] at H;have aq := beq_eq_false_iff_ne.mpr c5;have ar := bne_iff_ne.mpr c5;obtain ⟨ak, a6⟩ : ∃ y_ : List Int, y_ = (([Go.bits .or .u64 (Go.bits .and .u64 a0 4503599627370495) 4503599627370496] : List Int)) := ⟨_, rfl⟩;(first | replace H := zRb a6 H | rw [← a6] at H | skip);have ae := zA a6;clear a6;obtain ⟨⟨al, am, an⟩, aT, H⟩ := zh H;(try dsimp only at H);simp only [Option.some.injEq, Prod.mk.injEq] at H;obtain ⟨rfl, rfl, rfl, rfl⟩ := H;go_enter Tryd.func23, Tryd.ntmps23
 go_wp2_with (first | ((with_reducible refine zD 2 rfl ?_); refine zn (N := 2) (cs := #[.bool false, .slice none 0 0, .int .i64 0]) (t := 36) rfl rfl ?_; intro a2 hg w15 hbox hb; have a1 := zA (hbox); have ab := zw hg; replace HB := ze hb; clear hb hbox hg) | ((with_reducible refine zD 24 rfl ?_); refine R_lit (Kd.int .u64) _ 22 ?hg (N := 24) ?hd (xs := ([Go.bits .or .u64 (Go.bits .and .u64 a0 4503599627370495) 4503599627370496] : List Int)) (inner := [.int .u64 (Go.bits .or .u64 (Go.bits .and .u64 a0 4503599627370495) 4503599627370496)]) (ok := fun _ => True) (okp := fun _ => True) ?hr ?hp (fun _ hk => hk) trivial (Below.refl _ _) (Nat.le_refl _) (by simp) ?_; (case hd => rfl); (case hg => rfl); (case hr => first | (go_simp; done) | (go_simp; rfl)); (case hp => exact (Reps.one (show Kd.M (Kd.int .u64) _ _ _ (Go.bits .or .u64 (Go.bits .and .u64 a0 4503599627370495) 4503599627370496) [.int .u64 (Go.bits .or .u64 (Go.bits .and .u64 a0 4503599627370495) 4503599627370496)] from rfl) (Reps.none _ _))); intro v153 w16 a7 hb hg_ hnew_; clear hg_ hnew_; (first | rw [← ae.out] at a7 | (simp only [Int.reduceToNat] at a7; rw [← ae.out] at a7)); have a4 := zA (R_lower (R_newM (M := fun k_ => (w.heap.size ≤ k_)) a7 (below_size zs) (fun k_ h_ => h_)) (below_size zs)); replace a1 := zb a1 hb; replace HB := zf hb; clear hb a7; obtain ⟨aB, aC, aD⟩ := R_slice a4.out; subst aD) | ((with_reducible refine zG 44 rfl ?_); refine zC (some 27) Tryd.func44 (raw_Form.calls k ((a0 / 9223372036854775808) == 1) (fun k_ => some k_ = (.slice aB ak.length aC : Value).ownBlock) _ _ ak (wrap64 ((wrap64 (Go.bits .and .u64 (a0 / 4503599627370496) 2047)) - 1075)) al am an _ ?a8 (laid_below hT zs) aT.out) ?_; (case a8 => exact R_V (R_tight rfl (R_types (a4.out) a1.out (by decide)))); rintro e w19 ⟨v157, rfl, aa, hb⟩; refine ⟨_, rfl, ?_⟩; have af := zA (V_lower (V_mono (ok' := fun k_ => (w.heap.size ≤ k_) ∧ k_ ≠ a2) aa (fun k_ hk_ => ⟨Or.elim hk_ (fun hs_ => ((R_types (a4.out) a1.out (by decide)).1 k_ hs_.symm).1.1) (fun hn_ => (Nat.le_trans (below_size zs) hn_)), Or.elim hk_ (fun hs_ => ((R_types (a4.out) a1.out (by decide)).1 k_ hs_.symm).2) (fun hn_ => (zj a1 k_ hn_))⟩)) (below_size zs)); replace a4 := zA (R_below (ru a4.out) hb); replace a1 := zb a1 hb; replace HB := zf hb; (try clear aa); obtain ⟨aN, aO, aP, aQ, aR, aS⟩ := zc a1; obtain ⟨aE, aF, aG⟩ := V_slice af.out; subst aG))
 refine bodyPost_ret (results_ct rfl _ _ a2 36 #[.bool al, .slice aE am.length aF, .int .i64 an] (0, 0) _ rfl (zy a1) Tryd.underlying36 rfl (by kernel_rfl)) rfl ?_;exact ⟨_, er, vu (V_mono (zv a2 (V_mono af.out (fun k_ hk => (⟨hk, hk.2⟩ : _ ∧ k_ ≠ a2))) (fun _ hk => hk.2) _ _ _) (fun _ hk => hk.1.1)), zs⟩
def alg_finite.f (k : Nat) (a0 : Int) : Option (Bool × List Int × Int × Int) := (dyad_From.f k a0).bind fun a1 => (some (a1.1, a1.2.1, a1.2.2.1, a1.2.2.2))
set_option maxHeartbeats 8000000 in
set_option maxRecDepth 100000 in
theorem alg_finite.calls (k : Nat) (a0 : Int) (r1 : Bool) (r2 : List Int) (r3 : Int) (r4 : Int) (w : World) (hT : Laid w) (h : alg_finite.f k a0 = some (r1, r2, r3, r4)) :
  Calls Tryd.prog 10 #[.int .u64 a0] w fun e w' => ∃ v1_ : Value, e = .returned (.tuple #[.agg #[.bool r1, v1_, .int .i64 r3], .int .i64 r4]) ∧ Kd.V (Kd.int .u64) 22 w' w.heap.size (fun k_ => (w.heap.size ≤ k_)) v1_ r2 ∧ Below w.heap.size w w' := by
 have hu36 := Tryd.underlying36;have HB := zA (Below.refl w.heap.size w);have H := h
 unfold alg_finite.f at H
 clear h;obtain ⟨⟨a4, a5, a6, a8⟩, A2, H⟩ := zh H;(try dsimp only at H);simp only [Option.some.injEq, Prod.mk.injEq] at H;obtain ⟨rfl, rfl, rfl, rfl⟩ := H;go_enter Tryd.func10, Tryd.ntmps10
 go_wp2_with (first | ((with_reducible refine zD 2 rfl ?_); refine zn (N := 2) (cs := #[.bool false, .slice none 0 0, .int .i64 0]) (t := 36) rfl rfl ?_; intro a2 hg w3 hbox hb; have a1 := zA (hbox); have ai := zw hg; replace HB := ze hb; clear hb hbox hg) | ((with_reducible refine zG 23 rfl ?_); refine zC (some 5) Tryd.func23 (dyad_From.calls k a0 a4 a5 a6 a8 _ (laid_below hT zs) A2.out) ?_; rintro e w4 ⟨v163, rfl, a7, hb⟩; refine ⟨_, rfl, ?_⟩; have a3 := zA (V_lower (V_mono (ok' := fun k_ => (w.heap.size ≤ k_) ∧ k_ ≠ a2) a7 (fun k_ hk_ => ⟨(Nat.le_trans (below_size zs) hk_), (zj a1 k_ hk_)⟩)) (below_size zs)); replace a1 := zb a1 hb; replace HB := zf hb; (try clear a7); obtain ⟨a9, aa, ab, ac, ad, ae⟩ := zc a1; obtain ⟨af, ag, ah⟩ := V_slice a3.out; subst ah))
 refine bodyPost_ret (results_ct rfl _ _ a2 36 #[.bool a4, .slice af a5.length ag, .int .i64 a6] (0, 0) _ rfl (zy a1) Tryd.underlying36 rfl (by kernel_rfl)) rfl ?_;exact ⟨_, er, vu (V_mono (zv a2 (V_mono a3.out (fun k_ hk => (⟨hk, hk.2⟩ : _ ∧ k_ ≠ a2))) (fun _ hk => hk.2) _ _ _) (fun _ hk => hk.1.1)), zs⟩
def bits_amount.f (a0 : Int) : Option (Int) := some (Go.bits .andNot .u64 a0 9223372036854775808)
set_option maxHeartbeats 8000000 in
set_option maxRecDepth 100000 in
theorem bits_amount.calls (a0 : Int) (r : Int) (w : World) (h : bits_amount.f a0 = some r) :
  Calls Tryd.prog 24 #[.int .u64 a0] w fun e w' => e = .returned (.int .u64 r) ∧ Drawn0 w w' := by
 have H := h
 unfold bits_amount.f at H
 clear h;obtain rfl := Option.some.inj H;go_enter Tryd.func24, Tryd.ntmps24
 go_wp2
 go_ret;exact ⟨by first | rfl | (simp; done) | (simp [*]; done), by repeat (first | exact Drawn0.refl _ | apply Drawn0.step)⟩
end Go.Proofs.YtjnfipkbgmdpaaaDoor.PAll
