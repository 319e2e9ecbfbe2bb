/- Printed functions. -/
import Derived.Test.YtnjfckadjklmfaaDoorProg
import Derived.Test.YtnjfckadjklmfaaDoorXRoundWithinSh
namespace Go.Proofs.YtnjfckadjklmfaaDoor.PAll
open RowKit YtnjfckadjklmfaaDoorW.PrintWords YtnjfckadjklmfaaDoorW.PrintLast YtnjfckadjklmfaaDoorW.PrintMore YtnjfckadjklmfaaDoorW.PrintWords.Kd
attribute [local go_sem] Z0V Z0W Z1d Z1e Z0E Z0F Z0X Z0Y
set_option linter.unusedVariables false
set_option maxHeartbeats 8000000
set_option maxRecDepth 100000
set_option linter.unusedSimpArgs false
def errW : Option Int → Value
 | none => .nilIface
 | some c => .iface 0 (.int .i64 c)
theorem errW_none : errW none = .nilIface := rfl
theorem errW_some (c : Int) : errW (some c) = .iface 0 (.int .i64 c) := rfl
theorem info26 : (Tryd.prog.info? 26).map (fun i => (i.zero, i.size, i.bytes)) = some (some (.int .u64 0), 1, 8) := by kernel_rfl
theorem append_types {P : Program} {t t' e e' : TypeId} {ty : TypeId} {args : Array Value} {w : World} (ht : P.underlying t = some (.slice e)) (ht' : P.underlying t' = some (.slice e')) : (Builtin.append_ #[t, t'] ty args).run P w = (Builtin.append_ #[t, t] ty args).run P w := by
 unfold Builtin.append_
 cases h0 : args[0]? <;> cases h1 : args[1]? <;> simp only [List.getElem?_toArray, List.getElem?_cons_zero, List.getElem?_cons_succ, Sem.run_bind, run_underlying ht, Result.andThen_ok]
 rename_i s x
 cases s <;> try rfl
 dsimp only;simp only [Sem.run_bind, run_underlying ht, run_underlying ht', Result.andThen_ok, Sem.run_pure]
namespace Kd
open YtnjfckadjklmfaaDoorW.PrintWords.Kd
section
variable {P : Program} {ops : Array Oper} {rest : List Oper} {o : Oper} {a : Act} {Q : Exit → Act → World → Prop} {α : Type}
theorem R_append_rows2 (d : Kd α) {Rr : α → List Value → Prop} {w0 W : World} (base : Nat) (hgd : o.guard = none) (s x : Operand) (t t' e : TypeId) (z : Value) (bytes : Nat)
  (ho : o.op = .call { callee := .builtin .append, args := #[s, x], argTypes := #[t, t'] })
  (ht : P.underlying t = some (.slice e)) (ht' : P.underlying t' = some (.slice e)) (hinfo : (P.info? e).map (fun i => (i.zero, i.size, i.bytes)) = some (some z, d.sz, bytes)) (hz : z.cells.size = d.sz) (hs0 : 0 < d.sz) (hb0 : 0 < bytes)
  (v : Value) (xs ys : List α) (A : Option Addr) (m c : Nat) (ok okp : Nat → Prop) (hs : a.eval s = v) (hx : a.eval x = .slice A m c)
  (HO : d.R e W base ok v xs) (HR : ReadsRow Rr d.sz W A m ys) (hKM : ∀ x cs, Rr x cs → d.M W base okp x cs) (hokp : ∀ k, okp k → ok k ∧ some k ≠ v.ownBlock) (hfresh : ∀ k, W.heap.size ≤ k → ok k)
  (HB : Below base w0 W) (hbase : base ≤ W.heap.size) (hl : (xs.length + m) * bytes ≤ 140737488355328)
  (h : ∀ v1 w1, d.R e w1 base ok v1 (xs ++ ys) → Below base w0 w1 → W.grownBy w1 v.ownBlock → (v1.ownBlock = v.ownBlock ∨ ∃ b, v1.ownBlock = some b ∧ W.heap.size ≤ b) → wpList P ops Q rest (a.put o.dst v1) w1) :
  wpList P ops Q (o :: rest) a W := by
 obtain ⟨i0, hi, hzz⟩ := Option.map_eq_some_iff.1 hinfo;simp only [Prod.mk.injEq] at hzz;obtain ⟨hz0, hz1, hz2⟩ := hzz;have hm : ys.length = m := HR.1;have hlen : xs.length + m ≤ 140737488355328 := Nat.le_trans (Nat.le_mul_of_pos_right _ hb0) hl;obtain ⟨hok, inner, hown, hr⟩ := HO
 have hrun : ∃ v1 w1, (Builtin.append_ #[t, t] o.type #[v, .slice A m c]).run P W = .ok v1 w1 ∧ d.R e w1 base ok v1 (xs ++ ys) ∧ W.grownBy w1 v.ownBlock ∧ (v1.ownBlock = v.ownBlock ∨ ∃ b, v1.ownBlock = some b ∧ W.heap.size ≤ b) := by
  rcases A with _ | ad
  ·have h0 : m = 0 := by
    rcases Nat.eq_zero_or_pos m with h0 | h0
    ·exact h0
    obtain ⟨ad, h, _⟩ := HR.2.2 h0;cases h
   subst h0;obtain rfl : ys = [] := List.eq_nil_of_length_eq_zero hm;refine ⟨v, W, ?_, by rw [List.append_nil]; exact ⟨hok, inner, hown, hr⟩, World.grownBy.refl W _, .inl rfl⟩
   rcases hown.2 with ⟨rfl, hn⟩ | ⟨g, cap, cur, rfl, _, _, hnc, _⟩
   ·simp [Builtin.append_, run_underlying ht, sizeOf, typeInfo, hi, Builtin.lenOf, Builtin.firstCells]
   simp [Builtin.append_, run_underlying ht, sizeOf, typeInfo, hi, Builtin.lenOf, Builtin.firstCells, hnc, storeCells]
  obtain ⟨news, hnr, hnc⟩ := ReadsRow.inner_ HR;have hnM : Reps (d.M W base okp) d.sz ys news := hnr.imp_ (fun p c hp => hKM p c hp)
  have hone : ∀ u ∈ news, u.oneCell' = true := by
   intro u hu;obtain ⟨q, hq, rfl⟩ := List.mem_iff_getElem.1 hu
   have hql : q / d.sz < ys.length := by
    rw [Nat.div_lt_iff_lt_mul hs0];rw [← hnM.1];exact hq
   have hc := hnM.2 (q / d.sz) _ (List.getElem?_eq_getElem hql);refine d.K_one (d.K_of_M hc) _ ?_;rw [List.mem_iff_getElem?];refine ⟨q % d.sz, ?_⟩;rw [List.getElem?_take, if_pos (Nat.mod_lt _ hs0), List.getElem?_drop, Nat.mul_comm, Nat.div_add_mod, List.getElem?_eq_getElem hq]
  obtain ⟨v1, w1, hrun, h2, hg, _, hat⟩ := run_append_own_at (P := P) W base t o.type e i0 z d.sz bytes ht hi hz0 hz1 hz2 hz hs0 v xs.length inner hown ad m c news (by rw [hnM.1, hm]) hnc hone (by simp only [maxLen]; omega) hl hbase
  have hat' : v1.ownBlock = v.ownBlock ∨ ∃ b, v1.ownBlock = some b ∧ W.heap.size ≤ b := by
   rcases hat with hat | hat
   ·exact .inl hat
   exact .inr ⟨_, hat, Nat.le_refl _⟩
  have hne : ∀ k, some k ≠ v.ownBlock → k < W.heap.size → some k ≠ v1.ownBlock := by
   intro k hk hlt
   rcases hat' with hat | ⟨b, hb, hle⟩
   ·rw [hat]; exact hk
   rw [hb];intro he
   injection he with he
   omega
  have step : ∀ {q : α} {c : List Value} {o : Nat → Prop}, d.M W base o q c → (∀ k, o k → ok k ∧ some k ≠ v.ownBlock) → d.M w1 base (fun k => ok k ∧ some k ≠ v1.ownBlock) q c := by
   intro q c o hq ho;have h1 := d.M_move (w1 := w1) (fun k hk => hg.block k hk.2.2.1 (ho k hk.1).2) (d.M_bound hq);exact d.M_mono (fun k hk => ⟨(ho k hk.1).1, hne k (ho k hk.1).2 hk.2.2.1⟩) h1
  refine ⟨v1, w1, hrun, ⟨fun k hk => ?_, inner ++ news, by rw [List.length_append, hm]; exact h2, Z4K (hr.imp_ (fun _ _ hq => step hq (fun _ hk => hk))) (hnM.imp_ (fun _ _ hq => step hq hokp))⟩, hg, hat'⟩
  rcases hat' with hat | ⟨b, hb, hle⟩
  ·exact hok k (hat ▸ hk)
  rw [hb] at hk
  injection hk with hk
  exact hfresh k (by omega)
 obtain ⟨v1, w1, hr1, h1, hg, hat⟩ := hrun
 refine wpList_plain hgd fun K hK => ?_
 unfold Oper.wp execOp
 simp only [ho, resolve, invoke, builtin, Sem.run_bind, Sem.run_pure, Result.andThen_ok, List.map_toArray, List.map_cons, List.map_nil, hs, hx, append_types ht ht', hr1];exact hK _ _ (h v1 w1 h1 (HB.grown hg hbase (Z3A hown)) hg hat)
end
end Kd
/-- The table of math/bits.TrailingZeros64. -/
def tzTab : List Int := [0, 1, 56, 2, 57, 49, 28, 3, 61, 58, 42, 50, 38, 29, 17, 4, 62, 47, 59, 36, 45, 43, 51, 22, 53, 39, 33, 30, 24, 18, 12, 5, 63, 55, 48, 27, 60, 41, 37, 16, 46, 35, 44, 21, 52, 32, 23, 11, 54, 26, 40, 15, 34, 20, 31, 10, 25, 14, 19, 9, 13, 8, 7, 6]
/-- The table lies in memory as the program's text lays it. -/
def Laid (w : World) : Prop := ∀ i : Nat, i < 64 → w.cell? ⟨0, i, none⟩ = some (.int .u8 (tzTab.getD i 0))
theorem laid_drewN {w : World} (h : Laid w) (n : Nat) : Laid (w.drewN n) := fun i hi => by
 have := h i hi
 simpa using this
theorem laid_drew {w : World} (h : Laid w) : Laid w.drew := fun i hi => by
 have := h i hi
 simpa using this
theorem laid_below {w w' : World} (h : Laid w) (hb : Below w.heap.size w w') : Laid w' := fun i hi => by
 have h0 := h i hi;rw [hb.cell (p := ⟨0, i, none⟩) (World.block_lt_of_cell? w ⟨0, i, none⟩ h0)];exact h0
def add64s (x y c : Int) : Int := ((x.toNat + y.toNat + c.toNat) % 18446744073709551616 : Nat)
def add64c (x y c : Int) : Int := ((x.toNat + y.toNat + c.toNat) / 18446744073709551616 : Nat)
def sub64s (x y c : Int) : Int := ((x.toNat + 18446744073709551616 - y.toNat - c.toNat) % 18446744073709551616 : Nat)
def sub64c (x y c : Int) : Int := if x.toNat < y.toNat + c.toNat then 1 else 0
def sub64Entry : Array Value → Sem Value := fun args => do
 let (x, y, b) ← Extern.MathBitsCarry.three "Sub64" args
 pure (Extern.MathBitsCarry.pair ((x + Extern.MathBitsCarry.m64 - y - b) % Extern.MathBitsCarry.m64) (if x < y + b then 1 else 0))
theorem carry_nat {c : Int} (h : decide (c ≤ 1) = true) : c.toNat = 0 ∨ c.toNat = 1 := by
 have h' := of_decide_eq_true h
 omega
theorem add64_run {P : Program} (x y c : Int) (h : decide (c ≤ 1) = true) (w : World) : (add64Entry #[.int .u64 x, .int .u64 y, .int .u64 c]).run P w = .ok (.tuple #[.int .u64 (add64s x y c), .int .u64 (add64c x y c)]) w := by
 have key : ∀ k : Nat, k = 0 ∨ k = 1 → c.toNat = k → (add64Entry #[.int .u64 x, .int .u64 y, .int .u64 c]).run P w = .ok (Extern.MathBitsCarry.pair ((x.toNat + y.toNat + k) % Extern.MathBitsCarry.m64) ((x.toNat + y.toNat + k) / Extern.MathBitsCarry.m64)) w := by
  intro k hk hc
  rcases hk with rfl | rfl
  ·cases c with
   | ofNat n => cases hc; rfl
   | negSucc m => rfl
  cases c with
  | ofNat n => cases hc; rfl
  | negSucc m => cases hc
 rw [key _ (carry_nat h) rfl]; rfl
theorem sub64_run {P : Program} (x y c : Int) (h : decide (c ≤ 1) = true) (w : World) : (sub64Entry #[.int .u64 x, .int .u64 y, .int .u64 c]).run P w = .ok (.tuple #[.int .u64 (sub64s x y c), .int .u64 (sub64c x y c)]) w := by
 have key : ∀ k : Nat, k = 0 ∨ k = 1 → c.toNat = k → (sub64Entry #[.int .u64 x, .int .u64 y, .int .u64 c]).run P w = .ok (Extern.MathBitsCarry.pair ((x.toNat + Extern.MathBitsCarry.m64 - y.toNat - k) % Extern.MathBitsCarry.m64) (if x.toNat < y.toNat + k then 1 else 0)) w := by
  intro k hk hc
  rcases hk with rfl | rfl
  ·cases c with
   | ofNat n => cases hc; rfl
   | negSucc m => rfl
  cases c with
  | ofNat n => cases hc; rfl
  | negSucc m => cases hc
 rw [key _ (carry_nat h) rfl]
 unfold Extern.MathBitsCarry.pair sub64s sub64c Extern.MathBitsCarry.m64
 split <;> rfl
theorem ext118 (x y c : Int) (h : decide (c ≤ 1) = true) (w : World) : (callFunc 118 #[.int .u64 x, .int .u64 y, .int .u64 c]).run Tryd.prog w = .ok (.value (.tuple #[.int .u64 (add64s x y c), .int .u64 (add64c x y c)])) w := by
 rw [run_callFunc_extern (e := add64Entry) Tryd.func118 (by kernel_rfl) (by kernel_rfl) (by kernel_rfl) (by kernel_rfl)];rw [add64_run x y c h w]; rfl
theorem ext119 (x y c : Int) (h : decide (c ≤ 1) = true) (w : World) : (callFunc 119 #[.int .u64 x, .int .u64 y, .int .u64 c]).run Tryd.prog w = .ok (.value (.tuple #[.int .u64 (sub64s x y c), .int .u64 (sub64c x y c)])) w := by
 rw [run_callFunc_extern (e := sub64Entry) Tryd.func119 (by kernel_rfl) (by kernel_rfl) (by kernel_rfl) (by kernel_rfl)];rw [sub64_run x y c h w]; rfl
theorem fld75_0 (v0 v1 v2 : Value) (w : World) : (Instr.field 75 (.agg #[v0, v1, v2]) 0).run Tryd.prog w = .ok (v0) w := by kernel_rfl
theorem fld75_1 (v0 v1 v2 : Value) (w : World) : (Instr.field 75 (.agg #[v0, v1, v2]) 1).run Tryd.prog w = .ok (v1) w := by kernel_rfl
theorem fld75_2 (v0 v1 v2 : Value) (w : World) : (Instr.field 75 (.agg #[v0, v1, v2]) 2).run Tryd.prog w = .ok (v2) w := by kernel_rfl
attribute [local go_sem] fld75_0 fld75_1 fld75_2 ext118 ext119
theorem eqA29 (d : Nat) (w : World) (x0 y0 : Int) (x1 y1 : Int) :
  (Op.equalIn (d + 2) 29 (.agg #[.int .u64 x0, .int .u8 x1]) (.agg #[.int .u64 y0, .int .u8 y1])).run Tryd.prog w = .ok (x0 == y0 && (x1 == y1)) w := by
 refine Zbb Tryd.underlying29 (by kernel_rfl) ?_;refine Z9e (by rfl) (by go_simp; rfl) (by go_simp; rfl) (by go_simp) ?_;exact Z9d (by rfl) (by go_simp; rfl) (by go_simp; rfl) (by go_simp)
def Zt.l0 : Nat → List Int → Int → Option (List Int)
 | 0, _, _ => none
 | k + 1, x0, x3 => if x3 > 0 then (if 0 ≤ (wrap64 (x3 - 1)) then (if (wrap64 (x3 - 1)) < (x0.length : Int) then (if (rd x0 (wrap64 (x3 - 1))) = 0 then (Zt.l0 k x0 (wrap64 (x3 - 1))) else (if 0 ≤ x3 then (if x3 ≤ (x0.length : Int) then (some (x0.take (x3 : Int).toNat)) else (none)) else (none))) else (none)) else (none)) else (if 0 ≤ x3 then (if x3 ≤ (x0.length : Int) then (some (x0.take (x3 : Int).toNat)) else (none)) else (none))
def Zt.f (k : Nat) (l0 : List Int) : Option (List Int) := Zt.l0 k l0 (l0.length : Int)
theorem cut_to3 {P : Program} (t e : TypeId) (kh km : IntKind) {i : TypeInfo} (ht : P.underlying t = some (.slice e)) (hi : P.info? e = some i) (A : Option Addr) (n c : Nat) (j : Int) (h0 : 0 ≤ j) (hm : j ≤ n) (hc : n ≤ c) :
  ∀ W : World, (Instr.slice t (.slice A n c) none (some (.int kh j)) (some (.int km j))).run P W = .ok (.slice A j.toNat j.toNat) W := by
 intro W;obtain ⟨m, rfl⟩ := Int.eq_ofNat_of_zero_le h0
 have hb : ∀ (k : IntKind) (y : Nat) (code : BoundsCode) (w : World), m ≤ y → (Instr.sliceBound (.int k (m : Int)) y code).run P w = .ok m w := by
  intro k y code w hy
  have : (m : Int) ≤ (y : Int) := by omega
  simp [Instr.sliceBound, asIntOf, this]
 simp [Instr.slice, run_underlying ht, Instr.sliceBounds, hb _ c _ _ (by omega), hb _ m _ _ (Nat.le_refl m), sizeOf, typeInfo, hi, Result.andThen]
 cases A <;> simp [Addr.add]
theorem Zt.calls (k : Nat) (P0_ : Nat → Prop) (A0 : Option Addr) (c0 : Nat) (l0 : List Int) (r : List Int) (w : World) (hs0 : Kd.V Zu 26 w w.heap.size (fun k_ => P0_ k_) (.slice A0 l0.length c0) l0) (h : Zt.f k l0 = some r) :
  Calls Tryd.prog 84 #[.slice A0 l0.length c0] w fun e w' => ∃ v0_ : Value, e = .returned (v0_) ∧ Kd.V Zu 26 w' w.heap.size (fun k_ => (P0_ k_ ∨ w.heap.size ≤ k_)) v0_ r ∧ Below w.heap.size w w' := by
 have aj := zA (show Kd.V Zu 26 w w.heap.size (fun k_ => (P0_ k_ ∨ w.heap.size ≤ k_)) (.slice A0 l0.length c0) l0 from Z6 hs0 (fun k_ hk => .inl hk));have HB := zA (Below.refl w.heap.size w);have H := h
 unfold Zt.f at H
 clear h;have H' := zA H;clear H;go_enter Tryd.func84, Tryd.ntmps84
 go_wp2
 go_loopg [3] k (fun kq v3 w' => ∃ (a1 : Int), v3 = .int .i64 a1 ∧ Aside0 (Zt.l0 kq l0 a1 = some r) ∧ Aside0 (kq ≤ k) ∧ Aside0 (Kd.V Zu 26 w' w.heap.size (fun k_ => (P0_ k_ ∨ w.heap.size ≤ k_)) (.slice A0 l0.length c0) l0) ∧ Aside0 (Below w.heap.size w w'))
 case atStart => exact ⟨((l0.length : Int)), zi, H', zB2, ⟨vu aj.out⟩, ⟨bq⟩⟩
 case round =>
  clear H';obtain ⟨a1, rfl, HA, HK1, a2, HB⟩ := hrel
  cases gk with
  | zero => exact absurd HA.out (by simp [Zt.l0])
  | succ k1 =>
   have H := HA.out;clear HA;simp only [Zt.l0] at H
   by_cases c2 : a1 > 0
   ·rw [if_pos c2] at H;have ag := dT c2;clear c2;generalize a6 : wrap64 (a1 - 1) = a5 at H;have hji3w : (IntKind.i64.wrap (a1 - 1)) = a5 := (Z1b _).trans a6;replace H := dn H;obtain ⟨c4, H⟩ := H;have aq := dT c4;clear c4;replace H := dn H;obtain ⟨c5, H⟩ := H;have ar := dT c5;clear c5
    by_cases c6 : (rd l0 (a5)) = 0
    ·rw [if_pos c6] at H;have ah := eT c6;have ai := nF c6;clear c6;have H' := zA H;clear H;have p101 : 0 ≤ ((a5) : Int) := od;have q101 : (a5) < (l0.length : Int) := od;obtain ⟨ad101, e101, ac⟩ := Kd.ZF (Zb a2.out).2.2 (a5) p101 q101;cases e101;replace p101 := eq_true p101;replace q101 := eq_true q101
     go_wp2
     go_roundg k1
     case measure => have := HK1.out; omega
     case rel => exact ⟨(a5), (by first | rfl | (simp; done) | (simp only [← a6] <;> (first | rfl | simp)) | (simp [*]; done)), (by first | exact H' | (simp only [a6]; exact H') | (simp only [a6] at H' ⊢; exact H')), zB1, ⟨vu a2.out⟩, ⟨bq⟩⟩
    rw [if_neg c6] at H;have ah := eF c6;have ai := nT c6;replace H := dn H;obtain ⟨c7, H⟩ := H;have au := eq_true c7;have av := dT c7;clear c7;replace H := dn H;obtain ⟨c8, H⟩ := H;have aw := eq_true c8;have ax := dT c8;clear c8;obtain ⟨a3, a7⟩ : ∃ y_ : List Int, y_ = (l0.take (a1 : Int).toNat) := ⟨_, rfl⟩;replace H : (some a3) = some r := zR a7 H;have aa := zA a7;clear a7;obtain rfl := Option.some.inj H;have p101 : 0 ≤ ((a5) : Int) := od;have q101 : (a5) < (l0.length : Int) := od;obtain ⟨ad101, e101, ac⟩ := Kd.ZF (Zb a2.out).2.2 (a5) p101 q101;cases e101;replace p101 := eq_true p101;replace q101 := eq_true q101;have q9 : (a1 : Int) ≤ ((l0.length : Int) : Int) := od;obtain ⟨i09, hi09, _, hsz9, _⟩ := info_parts info26;have hroom9 : l0.length ≤ c0 := (Zb a2.out).2.1;have hC9 : Kd.F Zu _ _ (some ad101) l0.length l0 := (Z4N (base := w.heap.size) a2.out).2.2;have hcut9 := cut_to3 (P := Tryd.prog) 22 26 .i64 .i64 Tryd.underlying22 hi09 (some ad101) l0.length c0 a1 (od) q9 hroom9;have hr9 := Kd.Z6o (m := (a1 : Int).toNat) hC9 (by omega);have ad : a3.length = (a1 : Int).toNat := (by rw [aa.out, List.length_take]; omega);rw [← aa.out] at hr9;rw [← ad] at hcut9;have ae := zA (show Kd.V Zu 26 _ w.heap.size _ (.slice (some ad101) a3.length a3.length) a3 from Z0P (Nat.le_refl _) hr9);have ak := zA (show a3.length ≤ a3.length from Nat.le_refl _);clear hr9 hC9 hroom9 hi09 hsz9;have KY9 := zA ad;clear ad;replace q9 := eq_true q9
    go_wp2
    go_ret;exact ⟨_, by first | rfl | (simp [errW_none, errW_some] <;> rfl) | (simp only [← a6]; first | rfl | (simp [errW_none, errW_some] <;> rfl)) | (simp [*, errW_none, errW_some] <;> rfl), vu ae.out, bq⟩
   rw [if_neg c2] at H;have ag := dF c2;clear c2;replace H := dn H;obtain ⟨c10, H⟩ := H;have al := eq_true c10;have am := dT c10;clear c10;replace H := dn H;obtain ⟨c11, H⟩ := H;have an := eq_true c11;have ao := dT c11;clear c11;obtain ⟨a4, a8⟩ : ∃ y_ : List Int, y_ = (l0.take (a1 : Int).toNat) := ⟨_, rfl⟩;replace H : (some a4) = some r := zR a8 H;have ab := zA a8;clear a8;obtain rfl := Option.some.inj H;have q12 : (a1 : Int) ≤ ((l0.length : Int) : Int) := od;obtain ⟨i012, hi012, _, hsz12, _⟩ := info_parts info26;have hroom12 : l0.length ≤ c0 := (Zb a2.out).2.1;have hC12 : Kd.F Zu _ _ A0 l0.length l0 := (Z4N (base := w.heap.size) a2.out).2.2;have hcut12 := cut_to3 (P := Tryd.prog) 22 26 .i64 .i64 Tryd.underlying22 hi012 A0 l0.length c0 a1 (od) q12 hroom12;have hr12 := Kd.Z6o (m := (a1 : Int).toNat) hC12 (by omega);have a9 : a4.length = (a1 : Int).toNat := (by rw [ab.out, List.length_take]; omega);rw [← ab.out] at hr12;rw [← a9] at hcut12;have af := zA (show Kd.V Zu 26 _ w.heap.size _ (.slice A0 a4.length a4.length) a4 from Z0P (Nat.le_refl _) hr12);have ap := zA (show a4.length ≤ a4.length from Nat.le_refl _);clear hr12 hC12 hroom12 hi012 hsz12;have KY12 := zA a9;clear a9;replace q12 := eq_true q12
   go_wp2
   go_ret;exact ⟨_, er, vu af.out, bq⟩
def Z1u.f (k : Nat) (a4 : Bool) (a2 : List Int) (a1 : Int) : Option (Bool) := (Zt.f k a2).bind fun a3 => (if (a3.length : Int) ≤ 1024 then (if a1 ≥ (-32768) then (some (decide (a1 ≤ 32768))) else (some false)) else (some false))
theorem Z1u.calls (k : Nat) (a5 : Bool) (a6 : Option Addr) (a7 : Nat) (a1 : List Int) (a3 : Int) (r : Bool) (w : World) (a8 : Kd.C Zu w a6 a1.length a1) (a9 : a1.length ≤ a7) (h : Z1u.f k a5 a1 a3 = some r) :
  Calls Tryd.prog 63 #[.agg #[.bool a5, .slice a6 a1.length a7, .int .i64 a3]] w fun e w' => e = .returned (.bool r) ∧ Below w.heap.size w w' := by
 have hu25 := Tryd.underlying25;have aa := zA a8;have ab := zA a9;clear a8 a9;have HB := zA (Below.refl w.heap.size w);have H := h
 unfold Z1u.f at H
 clear h;obtain ⟨a4, A2, H⟩ := zh H
 by_cases c3 : (a4.length : Int) ≤ 1024
 rw [if_pos c3] at H;have af := dT c3;have ag : decide (a4.length ≤ 1024) = true := dT (by omega);clear c3
 by_cases c4 : a3 ≥ (-32768)
 rw [if_pos c4] at H;have ah := dT c4;clear c4;rotate_left;rw [if_neg c4] at H;have ah := dF c4;clear c4;rotate_left;rw [if_neg c3] at H;have af := dF c3;have ag : decide (a4.length ≤ 1024) = false := dF (by omega);clear c3;rotate_left
 all_goals
  obtain rfl := Option.some.inj H;go_enter Tryd.func63, Tryd.ntmps63
  go_wp2_with (first | ((with_reducible refine zD 1 rfl ?_); refine zn (N := 1) (cs := #[.bool a5, .slice a6 a1.length a7, .int .i64 a3]) (t := 25) rfl rfl ?_; intro ac hg w5 hbox hb; have a2 := zA (hbox); have ad := zw hg; replace HB := ze hb; clear hb hbox hg; obtain ⟨_, _, _, _, _, _⟩ := zc a2) | ((with_reducible refine zG 84 rfl ?_); refine zC (some 5) Tryd.func84 (Zt.calls k (fun k_ => k_ < w.heap.size) _ _ a1 a4 _ (Z0P ab.out (Kd.ZZ (C_F (Kd.ZX .u64) aa.out) zs)) A2.out) ?_; rintro e w7 ⟨v114, rfl, ai, hb⟩; refine ⟨_, rfl, ?_⟩; have ae := zA (Zq (Z6 (ok' := fun k_ => k_ ≠ ac) ai (fun k_ hk_ => Or.elim hk_ (fun hs_ => fun e_ => Nat.not_le.2 hs_ (by rw [e_]; exact ad.out)) (fun hn_ => (zj a2 k_ hn_)))) (Z7 zs)); replace a2 := zb a2 hb; replace HB := zf hb; obtain ⟨aq, ar, aj⟩ := Zm ae.out; subst aj; (try (obtain ⟨ak, al, am, an, ao, ap⟩ := zc a2))))
  go_ret;exact ⟨er, zs⟩
def ZE.f (k : Nat) (a1 : Bool) (a2 : List Int) (a3 : Int) : Option (Bool) := (Z1u.f k a1 a2 a3).bind fun a4 => (some a4)
theorem ZE.calls (k : Nat) (a2 : Bool) (a5 : Option Addr) (a6 : Nat) (a1 : List Int) (a3 : Int) (r : Bool) (w : World) (a7 : Kd.C Zu w a5 a1.length a1) (a8 : a1.length ≤ a6) (h : ZE.f k a2 a1 a3 = some r) :
  Calls Tryd.prog 53 #[.agg #[.bool a2, .slice a5 a1.length a6, .int .i64 a3]] w fun e w' => e = .returned (.bool r) ∧ Below w.heap.size w w' := by
 have hu70 := Tryd.underlying70;have a9 := zA a7;have aa := zA a8;clear a7 a8;have HB := zA (Below.refl w.heap.size w);have H := h
 unfold ZE.f at H
 clear h;obtain ⟨ab, A2, H⟩ := zh H;obtain rfl := Option.some.inj H;go_enter Tryd.func53, Tryd.ntmps53
 go_wp2_with (first | ((with_reducible refine zD 1 rfl ?_); refine zn (N := 1) (cs := #[.bool a2, .slice a5 a1.length a6, .int .i64 a3]) (t := 70) rfl rfl ?_; intro ag hg w3 hbox hb; have a4 := zA (hbox); have ah := zw hg; replace HB := ze hb; clear hb hbox hg; obtain ⟨ac, ad, _, ae, af, _⟩ := zc a4) | ((with_reducible refine zG 63 rfl ?_); refine zC (some 4) Tryd.func63 (Z1u.calls k a2 _ _ a1 a3 ab _ (zk (Za a9.out HB.out)) (aa.out) A2.out) ?_; rintro e w5 ⟨rfl, hb⟩; refine ⟨_, rfl, ?_⟩; replace a4 := zb a4 hb; replace HB := zf hb))
 go_ret;exact ⟨er, zs⟩
def Z2l.f (k : Nat) (a1 : Bool) (a2 : List Int) (a3 : Int) : Option (Int) := (ZE.f k a1 a2 a3).bind fun a4 => (if a4 = true then (some 0) else (some 2))
theorem Z2l.calls (k : Nat) (a3 : Bool) (a5 : Option Addr) (a6 : Nat) (a1 : List Int) (a4 : Int) (r : Int) (w : World) (a7 : Kd.C Zu w a5 a1.length a1) (a8 : a1.length ≤ a6) (h : Z2l.f k a3 a1 a4 = some r) :
  Calls Tryd.prog 32 #[.agg #[.bool a3, .slice a5 a1.length a6, .int .i64 a4]] w fun e w' => e = .returned (.int .i64 r) ∧ Below w.heap.size w w' := by
 have hu25 := Tryd.underlying25;have a9 := zA a7;have aa := zA a8;clear a7 a8;have HB := zA (Below.refl w.heap.size w);have H := h
 unfold Z2l.f at H
 clear h;obtain ⟨ab, A2, H⟩ := zh H
 by_cases c3 : ab = true
 subst c3;rw [if_pos rfl] at H;rotate_left;replace c3 := Bool.eq_false_iff.mpr c3;subst c3;rw [if_neg (show ¬ (false = true) by decide)] at H;rotate_left
 all_goals
  obtain rfl := Option.some.inj H;go_enter Tryd.func32, Tryd.ntmps32
  go_wp2_with (first | ((with_reducible refine zD 1 rfl ?_); refine zn (N := 1) (cs := #[.bool a3, .slice a5 a1.length a6, .int .i64 a4]) (t := 25) rfl rfl ?_; intro ai hg w4 hbox hb; have a2 := zA (hbox); have aj := zw hg; replace HB := ze hb; clear hb hbox hg; (try (obtain ⟨_, _, _, _, _, _⟩ := zc a2)); (try (obtain ⟨ac, ad, ae, af, ag, ah⟩ := zc a2))) | ((with_reducible refine zG 53 rfl ?_); refine zC (some 4) Tryd.func53 (ZE.calls k a3 _ _ a1 a4 true _ (zk (Za a9.out HB.out)) (aa.out) A2.out) ?_; rintro e w6 ⟨rfl, hb⟩; refine ⟨_, rfl, ?_⟩; replace a2 := zb a2 hb; replace HB := zf hb) | ((with_reducible refine zG 53 rfl ?_); refine zC (some 4) Tryd.func53 (ZE.calls k a3 _ _ a1 a4 false _ (zk (Za a9.out HB.out)) (aa.out) A2.out) ?_; rintro e w9 ⟨rfl, hb⟩; refine ⟨_, rfl, ?_⟩; replace a2 := zb a2 hb; replace HB := zf hb))
  go_ret;exact ⟨er, zs⟩
def Z2L.f (a0 : Int) : Option (Int) := some (Go.bits .xor .u64 a0 9223372036854775808)
theorem Z2L.calls (a0 : Int) (r : Int) (w : World) (h : Z2L.f a0 = some r) :
  Calls Tryd.prog 17 #[.int .u64 a0] w fun e w' => e = .returned (.int .u64 r) ∧ Drawn0 w w' := by
 have H := h
 unfold Z2L.f at H
 clear h;obtain rfl := Option.some.inj H;go_enter Tryd.func17, Tryd.ntmps17
 go_wp2
 go_ret;exact ⟨by first | rfl | (simp; done) | (simp [*]; done), by repeat (first | exact Drawn0.refl _ | apply Drawn0.step)⟩
def Z0Z.f (l0 : List Int) : Option (List Int) := if ([] : List Int).length + l0.length < 17592186044416 then (some (([] : List Int) ++ l0)) else (none)
theorem Z0Z.calls (A0 : Option Addr) (c0 : Nat) (l0 : List Int) (r : List Int) (w : World) (hr0 : Kd.C Zu w A0 l0.length l0) (hc0 : l0.length ≤ c0) (h : Z0Z.f l0 = some r) :
  Calls Tryd.prog 96 #[.slice A0 l0.length c0] w fun e w' => ∃ v0_ : Value, e = .returned (v0_) ∧ Kd.R Zu 26 w' w.heap.size (fun _ => True) v0_ r ∧ Below w.heap.size w w' := by
 have a6 := zA hr0;have a7 := zA hc0;clear hr0 hc0;have HB := zA (Below.refl w.heap.size w);have H := h
 unfold Z0Z.f at H
 clear h;replace H := dn H;obtain ⟨c2, H⟩ := H;have a4 := zA c2;clear c2;obtain ⟨a5, a1⟩ : ∃ y_ : List Int, y_ = (([] : List Int) ++ l0) := ⟨_, rfl⟩;replace H : (some a5) = some r := zR a1 H;have a2 := zA a1;clear a1;obtain rfl := Option.some.inj H;go_enter Tryd.func96, Tryd.ntmps96
 go_wp2_with (first | ((with_reducible refine Z1i (b := .append) (xs := #[.const (.slice none 0 0), .tmp 3]) rfl ?_); at_builtin; refine Kd.R_append_rows2 Zu (w0 := w) w.heap.size rfl (.const (.slice none 0 0)) (.tmp 3) 23 106 26 (.int .u64 0) 8 rfl Tryd.underlying23 Tryd.underlying106 info26 rfl (by decide) (by omega) (.slice none 0 0) ([] : List Int) l0 _ _ _ (fun _ => True) (fun _ => False) rfl rfl ?aO ?aR (fun _ _ h => h) (fun _ h => h.elim) ?aF ?aB ?aS ?aL ?_; (case aR => repeat (first | exact a6.out | (with_reducible refine Z3r ?_ _) | (with_reducible refine Z3s ?_ _) | (with_reducible refine Z3S ?_))); (case aB => exact bq); (case aF => exact (fun _ _ => trivial)); (case aO => exact ((Z1S _ _ _ _ (fun _ => True)))); (case aS => exact (Z7 bq)); (case aL => have := a4.out; omega); intro v121 w3 ho hb hg hat; rw [← a2.out] at ho; replace HB := zA (hb); have a3 := zA (ho); clear ho hb hg hat))
 go_ret;exact ⟨_, er, ru a3.out, bq⟩
def Z10.l0 : Nat → List Int → Option (List Int)
 | 0, _ => none
 | k + 1, x0 => if (x0.length : Int) > 0 then (if 0 ≤ (wrap64 ((x0.length : Int) - 1)) then (if (wrap64 ((x0.length : Int) - 1)) < (x0.length : Int) then (if (rd x0 (wrap64 ((x0.length : Int) - 1))) = 0 then (if (wrap64 ((x0.length : Int) - 1)) ≤ (x0.length : Int) then (Z10.l0 k (x0.take ((wrap64 ((x0.length : Int) - 1)) : Int).toNat)) else (none)) else (some x0)) else (none)) else (none)) else (some x0)
def Z10.f (k : Nat) (l0 : List Int) : Option (List Int) := Z10.l0 k l0
theorem Z10.calls (k : Nat) (P0_ : Nat → Prop) (A0 : Option Addr) (c0 : Nat) (l0 : List Int) (r : List Int) (w : World) (hs0 : Kd.V Zu 26 w w.heap.size (fun k_ => P0_ k_) (.slice A0 l0.length c0) l0) (h : Z10.f k l0 = some r) :
  Calls Tryd.prog 95 #[.slice A0 l0.length c0] w fun e w' => ∃ v0_ : Value, e = .returned (v0_) ∧ Kd.V Zu 26 w' w.heap.size (fun k_ => (P0_ k_ ∨ w.heap.size ≤ k_)) v0_ r ∧ Below w.heap.size w w' := by
 have ai := zA (show Kd.V Zu 26 w w.heap.size (fun k_ => (P0_ k_ ∨ w.heap.size ≤ k_)) (.slice A0 l0.length c0) l0 from Z6 hs0 (fun k_ hk => .inl hk));have HB := zA (Below.refl w.heap.size w);have H : (Z10.l0 k l0) = some r := h;clear h;have H' := zA H;clear H;go_enter Tryd.func95, Tryd.ntmps95
 go_wp2
 go_loopg [0] k (fun kq v0 w' => ∃ (a1 : List Int), Aside0 (Z10.l0 kq a1 = some r) ∧ Aside0 (kq ≤ k) ∧ Aside0 (Kd.V Zu 26 w' w.heap.size (fun k_ => (P0_ k_ ∨ w.heap.size ≤ k_)) v0 a1) ∧ Aside0 (Below w.heap.size w w'))
 case atStart => exact ⟨(l0), H', zB2, ⟨vu ai.out⟩, ⟨bq⟩⟩
 case round =>
  clear H';obtain ⟨a1, HA, HK1, a3, HB⟩ := hrel
  cases gk with
  | zero => exact absurd HA.out (by simp [Z10.l0])
  | succ k1 =>
   have H := HA.out;clear HA;simp only [Z10.l0] at H
   by_cases c2 : (a1.length : Int) > 0
   ·rw [if_pos c2] at H;have ac := dT c2;have ad : decide (0 < a1.length) = true := dT (by omega);clear c2;generalize a5 : wrap64 ((a1.length : Int) - 1) = a2 at H;have hji3w : (IntKind.i64.wrap ((a1.length : Int) - 1)) = a2 := (Z1b _).trans a5;replace H := dn H;obtain ⟨c4, H⟩ := H;have al := dT c4;clear c4;replace H := dn H;obtain ⟨c5, H⟩ := H;have am := dT c5;clear c5
    by_cases c6 : (rd a1 (a2)) = 0
    ·rw [if_pos c6] at H;have ae := eT c6;have af := nF c6;clear c6;have an := eq_true (od : 0 ≤ (a2));replace H := dn H;obtain ⟨c8, H⟩ := H;have ao := eq_true c8;have ap := dT c8;clear c8;obtain ⟨a4, a6⟩ : ∃ y_ : List Int, y_ = (a1.take ((a2) : Int).toNat) := ⟨_, rfl⟩;replace H : (Z10.l0 k1 a4) = some r := zR a6 H;have a8 := zA a6;clear a6;have H' := zA H;clear H;obtain ⟨aw, a9, aj⟩ := Zm a3.out;subst aj;have p123 : 0 ≤ ((a2) : Int) := od;have q123 : (a2) < (a1.length : Int) := od;obtain ⟨ad123, e123, aa⟩ := Kd.ZF (Zb a3.out).2.2 (a2) p123 q123;cases e123;replace p123 := eq_true p123;replace q123 := eq_true q123;have q10 : ((a2) : Int) ≤ ((a1.length : Int) : Int) := od;obtain ⟨i010, hi010, _, hsz10, _⟩ := info_parts info26;have hroom10 : a1.length ≤ a9 := (Zb a3.out).2.1;have hC10 : Kd.F Zu _ _ (some ad123) a1.length a1 := (Z4N (base := w.heap.size) a3.out).2.2;have hcut10 := Zb4 (P := Tryd.prog) 23 26 .i64 Tryd.underlying23 hi010 (some ad123) a1.length a9 (a2) (od) q10 hroom10;have hr10 := Kd.Z6o (m := ((a2) : Int).toNat) hC10 (by omega);have a7 : a4.length = ((a2) : Int).toNat := (by rw [a8.out, List.length_take]; omega);rw [← a8.out] at hr10;rw [← a7] at hcut10;have ab := zA (show Kd.V Zu 26 _ w.heap.size _ (.slice (some ad123) a4.length a9) a4 from Z0P (by omega) hr10);have ak := zA (show a4.length ≤ a9 from by omega);clear hr10 hC10 hroom10 hi010 hsz10;have KY10 := zA a7;clear a7;replace q10 := eq_true q10
     go_wp2
     go_roundg k1
     case measure => have := HK1.out; omega
     case rel => exact ⟨(a4), (by first | exact H' | (simp only [a5]; exact H') | (simp only [a5] at H' ⊢; exact H')), zB1, ⟨vu ab.out⟩, ⟨bq⟩⟩
    rw [if_neg c6] at H;have ae := eF c6;have af := nT c6;obtain rfl := Option.some.inj H;obtain ⟨aq, ar, ag⟩ := Zm a3.out;subst ag;have p123 : 0 ≤ ((a2) : Int) := od;have q123 : (a2) < (a1.length : Int) := od;obtain ⟨ad123, e123, aa⟩ := Kd.ZF (Zb a3.out).2.2 (a2) p123 q123;cases e123;replace p123 := eq_true p123;replace q123 := eq_true q123
    go_wp2
    go_ret;exact ⟨_, by first | rfl | (simp [errW_none, errW_some] <;> rfl) | (simp only [← a5]; first | rfl | (simp [errW_none, errW_some] <;> rfl)) | (simp [*, errW_none, errW_some] <;> rfl), vu a3.out, bq⟩
   rw [if_neg c2] at H;have ac := dF c2;have ad : decide (0 < a1.length) = false := dF (by omega);clear c2;obtain rfl := Option.some.inj H;obtain ⟨au, av, ah⟩ := Zm a3.out;subst ah
   go_wp2
   go_ret;exact ⟨_, er, vu a3.out, bq⟩
def Z0t.f (l0 : List Int) : Option (Bool) := some (decide ((l0.length : Int) > 1024))
theorem Z0t.calls (A0 : Option Addr) (c0 : Nat) (l0 : List Int) (r : Bool) (w : World) (hr0 : Kd.C Zu w A0 l0.length l0) (hc0 : l0.length ≤ c0) (h : Z0t.f l0 = some r) :
  Calls Tryd.prog 120 #[.slice A0 l0.length c0] w fun e w' => e = .returned (.bool r) ∧ Drawn0 w w' := by
 have a1 := zA hr0;have a2 := zA hc0;clear hr0 hc0;have H := h
 unfold Z0t.f at H
 clear h;obtain rfl := Option.some.inj H;go_enter Tryd.func120, Tryd.ntmps120
 go_wp2
 go_ret;exact ⟨by first | rfl | (simp; done) | (simp [*]; done), by repeat (first | exact Drawn0.refl _ | apply Drawn0.step)⟩
def Z1r.f (k : Nat) (l0 : List Int) : Option (List Int × Int) := (Z10.f k l0).bind fun a1 => ((Z0t.f a1).bind fun a2 => (if a2 = true then (some (([] : List Int), 3)) else (some (a1, 0))))
theorem Z1r.calls (k : Nat) (P0_ : Nat → Prop) (A0 : Option Addr) (c0 : Nat) (l0 : List Int) (r1 : List Int) (r2 : Int) (w : World) (hs0 : Kd.V Zu 26 w w.heap.size (fun k_ => P0_ k_) (.slice A0 l0.length c0) l0) (h : Z1r.f k l0 = some (r1, r2)) :
  Calls Tryd.prog 103 #[.slice A0 l0.length c0] w fun e w' => ∃ v0_ : Value, e = .returned (.tuple #[v0_, .int .i64 r2]) ∧ Kd.V Zu 26 w' w.heap.size (fun k_ => (P0_ k_ ∨ w.heap.size ≤ k_)) v0_ r1 ∧ Below w.heap.size w w' := by
 have a3 := zA (show Kd.V Zu 26 w w.heap.size (fun k_ => (P0_ k_ ∨ w.heap.size ≤ k_)) (.slice A0 l0.length c0) l0 from Z6 hs0 (fun k_ hk => .inl hk));have HB := zA (Below.refl w.heap.size w);have H := h
 unfold Z1r.f at H
 clear h;obtain ⟨a2, A2, H⟩ := zh H;obtain ⟨a4, A3, H⟩ := zh H
 by_cases c4 : a4 = true
 subst c4;rw [if_pos rfl] at H;rotate_left;replace c4 := Bool.eq_false_iff.mpr c4;subst c4;rw [if_neg (show ¬ (false = true) by decide)] at H;rotate_left
 all_goals
  simp only [Option.some.injEq, Prod.mk.injEq] at H;obtain ⟨rfl, rfl⟩ := H;go_enter Tryd.func103, Tryd.ntmps103
  go_wp2_with (first | ((with_reducible refine zG 95 rfl ?_); refine zC (some 6) Tryd.func95 (Z10.calls k (fun k_ => (P0_ k_ ∨ w.heap.size ≤ k_)) _ _ l0 a2 _ (a3.out) A2.out) ?_; rintro e w5 ⟨v130, rfl, a5, hb⟩; refine ⟨_, rfl, ?_⟩; replace a3 := zA (Z4 (vu a3.out) hb); have a1 := zA (Zq (Z6 (ok' := fun k_ => (P0_ k_ ∨ w.heap.size ≤ k_)) a5 (fun k_ hk_ => Or.elim hk_ (fun hs_ => hs_) (fun hn_ => (.inr (Nat.le_trans (Z7 bq) hn_))))) (Z7 bq)); replace HB := ze hb; obtain ⟨a7, a8, a6⟩ := Zm a1.out; subst a6) | ((with_reducible refine zG 120 rfl ?_); refine zC (some 8) Tryd.func120 (Z0t.calls _ _ a2 true _ (zk (Zb a1.out).2.2) ((Zb a1.out).2.1) A3.out) ?_; rintro e w' ⟨rfl, ⟨nd, rfl⟩⟩; refine ⟨_, rfl, ?_⟩) | ((with_reducible refine zG 120 rfl ?_); refine zC (some 8) Tryd.func120 (Z0t.calls _ _ a2 false _ (zk (Zb a1.out).2.2) ((Zb a1.out).2.1) A3.out) ?_; rintro e w' ⟨rfl, ⟨nd, rfl⟩⟩; refine ⟨_, rfl, ?_⟩))
 ·go_ret2
  exact ⟨_, er, Z1h _ _ _ _ _, bq⟩
 go_ret2
 exact ⟨_, er, vu a1.out, bq⟩
def Z2M.f (k : Nat) (l0 : List Int) : Option (List Int × Int) := (Z1r.f k l0).bind fun a1 => (if a1.2 = 0 then ((Z0Z.f a1.1).bind fun a2 => (some (a2, 0))) else (some (([] : List Int), a1.2)))
theorem Z2M.calls (k : Nat) (A0 : Option Addr) (c0 : Nat) (l0 : List Int) (r1 : List Int) (r2 : Int) (w : World) (hr0 : Kd.C Zu w A0 l0.length l0) (hc0 : l0.length ≤ c0) (h : Z2M.f k l0 = some (r1, r2)) :
  Calls Tryd.prog 75 #[.slice A0 l0.length c0] w fun e w' => ∃ v0_ : Value, e = .returned (.tuple #[v0_, .int .i64 r2]) ∧ Kd.R Zu 26 w' w.heap.size (fun _ => True) v0_ r1 ∧ Below w.heap.size w w' := by
 have a9 := zA hr0;have aa := zA hc0;clear hr0 hc0;have HB := zA (Below.refl w.heap.size w);have H := h
 unfold Z2M.f at H
 clear h;obtain ⟨⟨a3, a4⟩, A2, H⟩ := zh H;(try dsimp only at H)
 by_cases c3 : a4 = 0
 rw [if_pos c3] at H;have a6 := eT c3;have a7 := nF c3;clear c3;obtain ⟨a8, A4, H⟩ := zh H;rotate_left;rw [if_neg c3] at H;have a6 := eF c3;have a7 := nT c3;rotate_left
 all_goals
  simp only [Option.some.injEq, Prod.mk.injEq] at H;obtain ⟨rfl, rfl⟩ := H;go_enter Tryd.func75, Tryd.ntmps75
  go_wp2_with (first | ((with_reducible refine zG 103 rfl ?_); refine zC (some 8) Tryd.func103 (Z1r.calls k (fun k_ => k_ < w.heap.size) _ _ l0 a3 a4 _ (Z0P aa.out (Kd.ZZ (C_F (Kd.ZX .u64) a9.out) bq)) A2.out) ?_; rintro e w5 ⟨v134, rfl, a2, hb⟩; refine ⟨_, rfl, ?_⟩; have a1 := zA (Zq (Z6 (ok' := fun k_ => True) a2 (fun k_ hk_ => trivial)) (Z7 bq)); replace HB := ze hb; (try (obtain ⟨ac, ad, ab⟩ := Zm a1.out; subst ab))) | ((with_reducible refine zG 96 rfl ?_); refine zC (some 15) Tryd.func96 (Z0Z.calls _ _ a3 a8 _ (zk (Zb a1.out).2.2) ((Zb a1.out).2.1) A4.out) ?_; rintro e w7 ⟨v138, rfl, a2, hb⟩; refine ⟨_, rfl, ?_⟩; replace a1 := zA (Z2c (vu a1.out) (ZA a2) hb); have a5 := zA (ZH a2 (Z7 bq)); replace HB := ze hb))
 ·go_ret2
  exact ⟨_, er, ru a5.out, bq⟩
 go_ret2
 exact ⟨_, er, by first | exact Z1S _ _ _ _ _ | exact Kd.Z2w _ _ _ _ _ | exact Z1h _ _ _ _ _ | exact Kd.Z2u _ _ _ _ _ | exact Kd.Z2v _ _ _ _ _, bq⟩
def Z15.f (k : Nat) (a4 : Bool) (a2 : List Int) (a3 : Int) : Option (List Int × Int) := (Z2M.f k a2).bind fun a1 => (some (a1.1, a3))
theorem Z15.calls (k : Nat) (a9 : Bool) (aa : Option Addr) (ab : Nat) (a3 : List Int) (a4 : Int) (r1 : List Int) (r2 : Int) (w : World) (ac : Kd.C Zu w aa a3.length a3) (ad : a3.length ≤ ab) (h : Z15.f k a9 a3 a4 = some (r1, r2)) :
  Calls Tryd.prog 35 #[.agg #[.bool a9, .slice aa a3.length ab, .int .i64 a4]] w fun e w' => ∃ v0_ : Value, e = .returned (.agg #[v0_, .int .i64 r2]) ∧ Kd.R Zu 26 w' w.heap.size (fun _ => True) v0_ r1 ∧ Below w.heap.size w w' := by
 have hu25 := Tryd.underlying25;have hu64 := Tryd.underlying64;have ah := zA ac;have ai := zA ad;clear ac ad;have HB := zA (Below.refl w.heap.size w);have H := h
 unfold Z15.f at H
 clear h;obtain ⟨⟨a5, aj⟩, A2, H⟩ := zh H;(try dsimp only at H);simp only [Option.some.injEq, Prod.mk.injEq] at H;obtain ⟨rfl, rfl⟩ := H;go_enter Tryd.func35, Tryd.ntmps35
 go_wp2_with (first | ((with_reducible refine zD 1 rfl ?_); refine zn (N := 1) (cs := #[.bool a9, .slice aa a3.length ab, .int .i64 a4]) (t := 25) rfl rfl ?_; intro ay hg w3 hbox hb; have a1 := zA (hbox); have aA := zw hg; replace HB := ze hb; clear hb hbox hg) | ((with_reducible refine zD 2 rfl ?_); refine zn (N := 2) (cs := #[.slice none 0 0, .int .i64 0]) (t := 64) rfl rfl ?_; intro a6 hg w4 hbox hb; have a2 := zA (hbox); have aB := zx hg; replace HB := zf hb; have a7 := zl a1 hg; have a8 := zg a1 hg; replace a1 := zb a1 hb; clear hb hbox hg; have aC := a7.out; have aD := a8.out; obtain ⟨_, _, _, _, _, _⟩ := zc a1) | ((with_reducible refine zG 75 rfl ?_); refine zC (some 8) Tryd.func75 (Z2M.calls k _ _ a3 a5 aj _ (zk (Za ah.out HB.out)) (ai.out) A2.out) ?_; rintro e w7 ⟨v144, rfl, ao, hb⟩; refine ⟨_, rfl, ?_⟩; have ae := zA (ZH ao (Z7 zs)); replace a1 := zb a1 hb; replace a2 := zb a2 hb; replace HB := zf hb; obtain ⟨ap, aq, ar, au, av, aw⟩ := zc a1; obtain ⟨af, ag, ax⟩ := ZO ae.out; subst ax; have ak := zM0 a2; have al := zM1 a2; have am := Z2 a2.out 0; have an := Z2 a2.out 1))
 refine bodyPost_ret (results_cell_row rfl _ _ a6 64 #[.slice af a5.length ag, .int .i64 a4] (0, 0) _ rfl (by (with_reducible repeat (first | refine Zf ?_ _ | refine Z8 ?_ | refine Zg ?_ _)); refine Ze (cs := #[.slice af a5.length ag, .int .i64 0]) ?_ 1 _ rfl; refine Ze (cs := #[.slice none 0 0, .int .i64 0]) ?_ 0 _ rfl; exact a2.out) Tryd.underlying64 rfl (by kernel_rfl)) rfl ?_;exact ⟨_, er, ru (ZC (ZD (p := ⟨a6, 1, none⟩) (ZD (p := ⟨a6, 0, none⟩) (ZR ae.out a2.out (by decide)) (fun _ hk => hk.2) (.slice af a5.length ag)) (fun _ hk => hk.2) (.int .i64 a4)) (fun _ hk => trivial)), zs⟩
def ZM.f (a1 : List Int) (a2 : Int) : Option (Bool) := some ((a1.length : Int) == 0)
theorem ZM.calls (a3 : Option Addr) (a4 : Nat) (a1 : List Int) (a5 : Int) (r : Bool) (w : World) (a6 : Kd.C Zu w a3 a1.length a1) (a7 : a1.length ≤ a4) (h : ZM.f a1 a5 = some r) :
  Calls Tryd.prog 50 #[.agg #[.slice a3 a1.length a4, .int .i64 a5]] w fun e w' => e = .returned (.bool r) ∧ Below w.heap.size w w' := by
 have hu64 := Tryd.underlying64;have ac := zA a6;have ad := zA a7;clear a6 a7;have HB := zA (Below.refl w.heap.size w);have H : (some ((a1.length : Int) == 0)) = some r := h;clear h;obtain rfl := Option.some.inj H;go_enter Tryd.func50, Tryd.ntmps50
 go_wp2_with (first | ((with_reducible refine zD 1 rfl ?_); refine zn (N := 1) (cs := #[.slice a3 a1.length a4, .int .i64 a5]) (t := 64) rfl rfl ?_; intro ae hg w2 hbox hb; have a2 := zA (hbox); have af := zw hg; replace HB := ze hb; clear hb hbox hg; have a8 := zM0 a2; have a9 := zM1 a2; have aa := Z2 a2.out 0; have ab := Z2 a2.out 1))
 go_ret;exact ⟨er, zs⟩
def Z0K.j0 : Nat → Int → Int → Option (Int)
 | 0, _, _ => none
 | k + 1, x0, x2 => if x0 ≥ 65536 then (if (x0 / 65536) ≥ 256 then (if 0 ≤ (((x0 / 65536) / 256) % 256) then (if (((x0 / 65536) / 256) % 256) < 256 then (some (wrap64 ((wrap64 ((wrap64 (x2 + 16)) + 8)) + (wrap64 (bt (⟨#[0, 1, 2, 2, 3, 3, 3, 3, 4, 4, 4, 4, 4, 4, 4, 4, 5, 5, 5, 5, 5, 5, 5, 5, 5, 5, 5, 5, 5, 5, 5, 5, 6, 6, 6, 6, 6, 6, 6, 6, 6, 6, 6, 6, 6, 6, 6, 6, 6, 6, 6, 6, 6, 6, 6, 6, 6, 6, 6, 6, 6, 6, 6, 6, 7, 7, 7, 7, 7, 7, 7, 7, 7, 7, 7, 7, 7, 7, 7, 7, 7, 7, 7, 7, 7, 7, 7, 7, 7, 7, 7, 7, 7, 7, 7, 7, 7, 7, 7, 7, 7, 7, 7, 7, 7, 7, 7, 7, 7, 7, 7, 7, 7, 7, 7, 7, 7, 7, 7, 7, 7, 7, 7, 7, 7, 7, 7, 7, 8, 8, 8, 8, 8, 8, 8, 8, 8, 8, 8, 8, 8, 8, 8, 8, 8, 8, 8, 8, 8, 8, 8, 8, 8, 8, 8, 8, 8, 8, 8, 8, 8, 8, 8, 8, 8, 8, 8, 8, 8, 8, 8, 8, 8, 8, 8, 8, 8, 8, 8, 8, 8, 8, 8, 8, 8, 8, 8, 8, 8, 8, 8, 8, 8, 8, 8, 8, 8, 8, 8, 8, 8, 8, 8, 8, 8, 8, 8, 8, 8, 8, 8, 8, 8, 8, 8, 8, 8, 8, 8, 8, 8, 8, 8, 8, 8, 8, 8, 8, 8, 8, 8, 8, 8, 8, 8, 8, 8, 8, 8, 8, 8, 8, 8, 8, 8, 8, 8, 8, 8, 8, 8, 8, 8, 8, 8, 8]⟩ : ByteArray) (((x0 / 65536) / 256) % 256)))))) else (none)) else (none)) else (if 0 ≤ ((x0 / 65536) % 256) then (if ((x0 / 65536) % 256) < 256 then (some (wrap64 ((wrap64 (x2 + 16)) + (wrap64 (bt (⟨#[0, 1, 2, 2, 3, 3, 3, 3, 4, 4, 4, 4, 4, 4, 4, 4, 5, 5, 5, 5, 5, 5, 5, 5, 5, 5, 5, 5, 5, 5, 5, 5, 6, 6, 6, 6, 6, 6, 6, 6, 6, 6, 6, 6, 6, 6, 6, 6, 6, 6, 6, 6, 6, 6, 6, 6, 6, 6, 6, 6, 6, 6, 6, 6, 7, 7, 7, 7, 7, 7, 7, 7, 7, 7, 7, 7, 7, 7, 7, 7, 7, 7, 7, 7, 7, 7, 7, 7, 7, 7, 7, 7, 7, 7, 7, 7, 7, 7, 7, 7, 7, 7, 7, 7, 7, 7, 7, 7, 7, 7, 7, 7, 7, 7, 7, 7, 7, 7, 7, 7, 7, 7, 7, 7, 7, 7, 7, 7, 8, 8, 8, 8, 8, 8, 8, 8, 8, 8, 8, 8, 8, 8, 8, 8, 8, 8, 8, 8, 8, 8, 8, 8, 8, 8, 8, 8, 8, 8, 8, 8, 8, 8, 8, 8, 8, 8, 8, 8, 8, 8, 8, 8, 8, 8, 8, 8, 8, 8, 8, 8, 8, 8, 8, 8, 8, 8, 8, 8, 8, 8, 8, 8, 8, 8, 8, 8, 8, 8, 8, 8, 8, 8, 8, 8, 8, 8, 8, 8, 8, 8, 8, 8, 8, 8, 8, 8, 8, 8, 8, 8, 8, 8, 8, 8, 8, 8, 8, 8, 8, 8, 8, 8, 8, 8, 8, 8, 8, 8, 8, 8, 8, 8, 8, 8, 8, 8, 8, 8, 8, 8, 8, 8, 8, 8, 8, 8]⟩ : ByteArray) ((x0 / 65536) % 256)))))) else (none)) else (none))) else (if x0 ≥ 256 then (if 0 ≤ ((x0 / 256) % 256) then (if ((x0 / 256) % 256) < 256 then (some (wrap64 ((wrap64 (x2 + 8)) + (wrap64 (bt (⟨#[0, 1, 2, 2, 3, 3, 3, 3, 4, 4, 4, 4, 4, 4, 4, 4, 5, 5, 5, 5, 5, 5, 5, 5, 5, 5, 5, 5, 5, 5, 5, 5, 6, 6, 6, 6, 6, 6, 6, 6, 6, 6, 6, 6, 6, 6, 6, 6, 6, 6, 6, 6, 6, 6, 6, 6, 6, 6, 6, 6, 6, 6, 6, 6, 7, 7, 7, 7, 7, 7, 7, 7, 7, 7, 7, 7, 7, 7, 7, 7, 7, 7, 7, 7, 7, 7, 7, 7, 7, 7, 7, 7, 7, 7, 7, 7, 7, 7, 7, 7, 7, 7, 7, 7, 7, 7, 7, 7, 7, 7, 7, 7, 7, 7, 7, 7, 7, 7, 7, 7, 7, 7, 7, 7, 7, 7, 7, 7, 8, 8, 8, 8, 8, 8, 8, 8, 8, 8, 8, 8, 8, 8, 8, 8, 8, 8, 8, 8, 8, 8, 8, 8, 8, 8, 8, 8, 8, 8, 8, 8, 8, 8, 8, 8, 8, 8, 8, 8, 8, 8, 8, 8, 8, 8, 8, 8, 8, 8, 8, 8, 8, 8, 8, 8, 8, 8, 8, 8, 8, 8, 8, 8, 8, 8, 8, 8, 8, 8, 8, 8, 8, 8, 8, 8, 8, 8, 8, 8, 8, 8, 8, 8, 8, 8, 8, 8, 8, 8, 8, 8, 8, 8, 8, 8, 8, 8, 8, 8, 8, 8, 8, 8, 8, 8, 8, 8, 8, 8, 8, 8, 8, 8, 8, 8, 8, 8, 8, 8, 8, 8, 8, 8, 8, 8, 8, 8]⟩ : ByteArray) ((x0 / 256) % 256)))))) else (none)) else (none)) else (if 0 ≤ ((x0) % 256) then (if ((x0) % 256) < 256 then (some (wrap64 (x2 + (wrap64 (bt (⟨#[0, 1, 2, 2, 3, 3, 3, 3, 4, 4, 4, 4, 4, 4, 4, 4, 5, 5, 5, 5, 5, 5, 5, 5, 5, 5, 5, 5, 5, 5, 5, 5, 6, 6, 6, 6, 6, 6, 6, 6, 6, 6, 6, 6, 6, 6, 6, 6, 6, 6, 6, 6, 6, 6, 6, 6, 6, 6, 6, 6, 6, 6, 6, 6, 7, 7, 7, 7, 7, 7, 7, 7, 7, 7, 7, 7, 7, 7, 7, 7, 7, 7, 7, 7, 7, 7, 7, 7, 7, 7, 7, 7, 7, 7, 7, 7, 7, 7, 7, 7, 7, 7, 7, 7, 7, 7, 7, 7, 7, 7, 7, 7, 7, 7, 7, 7, 7, 7, 7, 7, 7, 7, 7, 7, 7, 7, 7, 7, 8, 8, 8, 8, 8, 8, 8, 8, 8, 8, 8, 8, 8, 8, 8, 8, 8, 8, 8, 8, 8, 8, 8, 8, 8, 8, 8, 8, 8, 8, 8, 8, 8, 8, 8, 8, 8, 8, 8, 8, 8, 8, 8, 8, 8, 8, 8, 8, 8, 8, 8, 8, 8, 8, 8, 8, 8, 8, 8, 8, 8, 8, 8, 8, 8, 8, 8, 8, 8, 8, 8, 8, 8, 8, 8, 8, 8, 8, 8, 8, 8, 8, 8, 8, 8, 8, 8, 8, 8, 8, 8, 8, 8, 8, 8, 8, 8, 8, 8, 8, 8, 8, 8, 8, 8, 8, 8, 8, 8, 8, 8, 8, 8, 8, 8, 8, 8, 8, 8, 8, 8, 8, 8, 8, 8, 8, 8, 8]⟩ : ByteArray) ((x0) % 256)))))) else (none)) else (none)))
def Z0K.f (k : Nat) (a0 : Int) : Option (Int) := if a0 ≥ 4294967296 then (Z0K.j0 k (a0 / 4294967296) 32) else (Z0K.j0 k a0 0)
theorem Z0K.calls (k : Nat) (a0 : Int) (r : Int) (w : World) (h : Z0K.f k a0 = some r) :
  Calls Tryd.prog 88 #[.int .u64 a0] w fun e w' => e = .returned (.int .i64 r) ∧ Drawn0 w w' := by
 have H := h
 unfold Z0K.f at H
 clear h;have a7 := zA H;clear H;go_enter Tryd.func88, Tryd.ntmps88
 go_upto_if 4 with (fail)
 go_cut [0, 2] (fun v0 v2 wc => ∃ (kq : Nat) (a1 : Int) (a2 : Int), v0 = .int .u64 a1 ∧ v2 = .int .i64 a2 ∧ Aside0 (Z0K.j0 kq a1 a2 = some r) ∧ Aside0 (kq ≤ k) ∧ Drawn0 w wc)
 case first =>
  have H := a7.out;clear a7
  by_cases c3 : a0 ≥ 4294967296
  ·rw [if_pos c3] at H;have a3 := dT c3;clear c3;(try rw [a3]);have H' := zA H;clear H
   go_wp2
   go_meet
   case rel => exact ⟨_, (a0 / 4294967296), (32), zi, zi, H', zB0, by repeat (first | exact Drawn0.refl _ | apply Drawn0.step)⟩
  rw [if_neg c3] at H;have a3 := dF c3;clear c3;(try rw [a3]);have H' := zA H;clear H
  go_wp2
  go_meet
  case rel => exact ⟨_, (a0), (0), zi, zi, H', zB0, by repeat (first | exact Drawn0.refl _ | apply Drawn0.step)⟩
 case rest =>
  clear a7;obtain ⟨kq, a1, a2, rfl, rfl, HA, ao, ⟨mc1, rfl⟩⟩ := hcut
  cases kq with
  | zero => exact absurd HA.out (by simp [Z0K.j0])
  | succ ap =>
   have H := HA.out;clear HA;simp only [Z0K.j0] at H
   by_cases c4 : a1 ≥ 65536
   ·rw [if_pos c4] at H;have ad := dT c4;clear c4
    by_cases c5 : (a1 / 65536) ≥ 256
    ·rw [if_pos c5] at H;have ae := dT c5;clear c5;generalize af : ((a1 / 65536) / 256) % 256 = a8 at H;replace H := dn H;obtain ⟨c7, H⟩ := H;have am := dT c7;clear c7;replace H := dn H;obtain ⟨c8, H⟩ := H;have an := dT c8;clear c8;obtain rfl := Option.some.inj H;have p9 : 0 ≤ ((a8) : Int) := od;have q9 : (a8) < (256 : Int) := od;have hx9 := Z64 (⟨#[0, 1, 2, 2, 3, 3, 3, 3, 4, 4, 4, 4, 4, 4, 4, 4, 5, 5, 5, 5, 5, 5, 5, 5, 5, 5, 5, 5, 5, 5, 5, 5, 6, 6, 6, 6, 6, 6, 6, 6, 6, 6, 6, 6, 6, 6, 6, 6, 6, 6, 6, 6, 6, 6, 6, 6, 6, 6, 6, 6, 6, 6, 6, 6, 7, 7, 7, 7, 7, 7, 7, 7, 7, 7, 7, 7, 7, 7, 7, 7, 7, 7, 7, 7, 7, 7, 7, 7, 7, 7, 7, 7, 7, 7, 7, 7, 7, 7, 7, 7, 7, 7, 7, 7, 7, 7, 7, 7, 7, 7, 7, 7, 7, 7, 7, 7, 7, 7, 7, 7, 7, 7, 7, 7, 7, 7, 7, 7, 8, 8, 8, 8, 8, 8, 8, 8, 8, 8, 8, 8, 8, 8, 8, 8, 8, 8, 8, 8, 8, 8, 8, 8, 8, 8, 8, 8, 8, 8, 8, 8, 8, 8, 8, 8, 8, 8, 8, 8, 8, 8, 8, 8, 8, 8, 8, 8, 8, 8, 8, 8, 8, 8, 8, 8, 8, 8, 8, 8, 8, 8, 8, 8, 8, 8, 8, 8, 8, 8, 8, 8, 8, 8, 8, 8, 8, 8, 8, 8, 8, 8, 8, 8, 8, 8, 8, 8, 8, 8, 8, 8, 8, 8, 8, 8, 8, 8, 8, 8, 8, 8, 8, 8, 8, 8, 8, 8, 8, 8, 8, 8, 8, 8, 8, 8, 8, 8, 8, 8, 8, 8, 8, 8, 8, 8, 8, 8]⟩ : ByteArray) (a8);replace p9 := eq_true p9;replace q9 := eq_true q9
     go_wp2
     go_ret;exact ⟨by first | rfl | (simp; done) | (simp only [← af] <;> (first | rfl | simp)) | (simp [*]; done), by repeat (first | exact Drawn0.refl _ | apply Drawn0.step)⟩
    rw [if_neg c5] at H;have ae := dF c5;clear c5;generalize a9 : (a1 / 65536) % 256 = a4 at H;replace H := dn H;obtain ⟨c11, H⟩ := H;have ag := dT c11;clear c11;replace H := dn H;obtain ⟨c12, H⟩ := H;have ah := dT c12;clear c12;obtain rfl := Option.some.inj H;have p13 : 0 ≤ ((a4) : Int) := od;have q13 : (a4) < (256 : Int) := od;have hx13 := Z64 (⟨#[0, 1, 2, 2, 3, 3, 3, 3, 4, 4, 4, 4, 4, 4, 4, 4, 5, 5, 5, 5, 5, 5, 5, 5, 5, 5, 5, 5, 5, 5, 5, 5, 6, 6, 6, 6, 6, 6, 6, 6, 6, 6, 6, 6, 6, 6, 6, 6, 6, 6, 6, 6, 6, 6, 6, 6, 6, 6, 6, 6, 6, 6, 6, 6, 7, 7, 7, 7, 7, 7, 7, 7, 7, 7, 7, 7, 7, 7, 7, 7, 7, 7, 7, 7, 7, 7, 7, 7, 7, 7, 7, 7, 7, 7, 7, 7, 7, 7, 7, 7, 7, 7, 7, 7, 7, 7, 7, 7, 7, 7, 7, 7, 7, 7, 7, 7, 7, 7, 7, 7, 7, 7, 7, 7, 7, 7, 7, 7, 8, 8, 8, 8, 8, 8, 8, 8, 8, 8, 8, 8, 8, 8, 8, 8, 8, 8, 8, 8, 8, 8, 8, 8, 8, 8, 8, 8, 8, 8, 8, 8, 8, 8, 8, 8, 8, 8, 8, 8, 8, 8, 8, 8, 8, 8, 8, 8, 8, 8, 8, 8, 8, 8, 8, 8, 8, 8, 8, 8, 8, 8, 8, 8, 8, 8, 8, 8, 8, 8, 8, 8, 8, 8, 8, 8, 8, 8, 8, 8, 8, 8, 8, 8, 8, 8, 8, 8, 8, 8, 8, 8, 8, 8, 8, 8, 8, 8, 8, 8, 8, 8, 8, 8, 8, 8, 8, 8, 8, 8, 8, 8, 8, 8, 8, 8, 8, 8, 8, 8, 8, 8, 8, 8, 8, 8, 8, 8]⟩ : ByteArray) (a4);replace p13 := eq_true p13;replace q13 := eq_true q13
    go_wp2
    go_ret;exact ⟨by first | rfl | (simp; done) | (simp only [← a9] <;> (first | rfl | simp)) | (simp [*]; done), by repeat (first | exact Drawn0.refl _ | apply Drawn0.step)⟩
   rw [if_neg c4] at H;have ad := dF c4;clear c4
   by_cases c14 : a1 ≥ 256
   ·rw [if_pos c14] at H;have aa := dT c14;clear c14;generalize ab : (a1 / 256) % 256 = a5 at H;replace H := dn H;obtain ⟨c16, H⟩ := H;have ai := dT c16;clear c16;replace H := dn H;obtain ⟨c17, H⟩ := H;have aj := dT c17;clear c17;obtain rfl := Option.some.inj H;have p18 : 0 ≤ ((a5) : Int) := od;have q18 : (a5) < (256 : Int) := od;have hx18 := Z64 (⟨#[0, 1, 2, 2, 3, 3, 3, 3, 4, 4, 4, 4, 4, 4, 4, 4, 5, 5, 5, 5, 5, 5, 5, 5, 5, 5, 5, 5, 5, 5, 5, 5, 6, 6, 6, 6, 6, 6, 6, 6, 6, 6, 6, 6, 6, 6, 6, 6, 6, 6, 6, 6, 6, 6, 6, 6, 6, 6, 6, 6, 6, 6, 6, 6, 7, 7, 7, 7, 7, 7, 7, 7, 7, 7, 7, 7, 7, 7, 7, 7, 7, 7, 7, 7, 7, 7, 7, 7, 7, 7, 7, 7, 7, 7, 7, 7, 7, 7, 7, 7, 7, 7, 7, 7, 7, 7, 7, 7, 7, 7, 7, 7, 7, 7, 7, 7, 7, 7, 7, 7, 7, 7, 7, 7, 7, 7, 7, 7, 8, 8, 8, 8, 8, 8, 8, 8, 8, 8, 8, 8, 8, 8, 8, 8, 8, 8, 8, 8, 8, 8, 8, 8, 8, 8, 8, 8, 8, 8, 8, 8, 8, 8, 8, 8, 8, 8, 8, 8, 8, 8, 8, 8, 8, 8, 8, 8, 8, 8, 8, 8, 8, 8, 8, 8, 8, 8, 8, 8, 8, 8, 8, 8, 8, 8, 8, 8, 8, 8, 8, 8, 8, 8, 8, 8, 8, 8, 8, 8, 8, 8, 8, 8, 8, 8, 8, 8, 8, 8, 8, 8, 8, 8, 8, 8, 8, 8, 8, 8, 8, 8, 8, 8, 8, 8, 8, 8, 8, 8, 8, 8, 8, 8, 8, 8, 8, 8, 8, 8, 8, 8, 8, 8, 8, 8, 8, 8]⟩ : ByteArray) (a5);replace p18 := eq_true p18;replace q18 := eq_true q18
    go_wp2
    go_ret;exact ⟨by first | rfl | (simp; done) | (simp only [← ab] <;> (first | rfl | simp)) | (simp [*]; done), by repeat (first | exact Drawn0.refl _ | apply Drawn0.step)⟩
   rw [if_neg c14] at H;have aa := dF c14;clear c14;generalize ac : (a1) % 256 = a6 at H;replace H := dn H;obtain ⟨c20, H⟩ := H;have ak := dT c20;clear c20;replace H := dn H;obtain ⟨c21, H⟩ := H;have al := dT c21;clear c21;obtain rfl := Option.some.inj H;have p22 : 0 ≤ ((a6) : Int) := od;have q22 : (a6) < (256 : Int) := od;have hx22 := Z64 (⟨#[0, 1, 2, 2, 3, 3, 3, 3, 4, 4, 4, 4, 4, 4, 4, 4, 5, 5, 5, 5, 5, 5, 5, 5, 5, 5, 5, 5, 5, 5, 5, 5, 6, 6, 6, 6, 6, 6, 6, 6, 6, 6, 6, 6, 6, 6, 6, 6, 6, 6, 6, 6, 6, 6, 6, 6, 6, 6, 6, 6, 6, 6, 6, 6, 7, 7, 7, 7, 7, 7, 7, 7, 7, 7, 7, 7, 7, 7, 7, 7, 7, 7, 7, 7, 7, 7, 7, 7, 7, 7, 7, 7, 7, 7, 7, 7, 7, 7, 7, 7, 7, 7, 7, 7, 7, 7, 7, 7, 7, 7, 7, 7, 7, 7, 7, 7, 7, 7, 7, 7, 7, 7, 7, 7, 7, 7, 7, 7, 8, 8, 8, 8, 8, 8, 8, 8, 8, 8, 8, 8, 8, 8, 8, 8, 8, 8, 8, 8, 8, 8, 8, 8, 8, 8, 8, 8, 8, 8, 8, 8, 8, 8, 8, 8, 8, 8, 8, 8, 8, 8, 8, 8, 8, 8, 8, 8, 8, 8, 8, 8, 8, 8, 8, 8, 8, 8, 8, 8, 8, 8, 8, 8, 8, 8, 8, 8, 8, 8, 8, 8, 8, 8, 8, 8, 8, 8, 8, 8, 8, 8, 8, 8, 8, 8, 8, 8, 8, 8, 8, 8, 8, 8, 8, 8, 8, 8, 8, 8, 8, 8, 8, 8, 8, 8, 8, 8, 8, 8, 8, 8, 8, 8, 8, 8, 8, 8, 8, 8, 8, 8, 8, 8, 8, 8, 8, 8]⟩ : ByteArray) (a6);replace p22 := eq_true p22;replace q22 := eq_true q22
   go_wp2
   go_ret;exact ⟨by first | rfl | (simp; done) | (simp only [← ac] <;> (first | rfl | simp)) | (simp [*]; done), by repeat (first | exact Drawn0.refl _ | apply Drawn0.step)⟩
def Z1C.f (k : Nat) (l0 : List Int) : Option (Int) := if (l0.length : Int) = 0 then (some 0) else (if 0 ≤ (wrap64 ((l0.length : Int) - 1)) then (if (wrap64 ((l0.length : Int) - 1)) < (l0.length : Int) then ((Z0K.f k (rd l0 (wrap64 ((l0.length : Int) - 1)))).bind fun a1 => (some (wrap64 ((wrap64 (64 * (wrap64 ((l0.length : Int) - 1)))) + a1)))) else (none)) else (none))
theorem Z1C.calls (k : Nat) (A0 : Option Addr) (c0 : Nat) (l0 : List Int) (r : Int) (w : World) (hr0 : Kd.C Zu w A0 l0.length l0) (hc0 : l0.length ≤ c0) (h : Z1C.f k l0 = some r) :
  Calls Tryd.prog 121 #[.slice A0 l0.length c0] w fun e w' => e = .returned (.int .i64 r) ∧ Drawn0 w w' := by
 have a7 := zA hr0;have ab := zA hc0;clear hr0 hc0;have H := h
 unfold Z1C.f at H
 clear h
 by_cases c2 : (l0.length : Int) = 0
 ·rw [if_pos c2] at H;have a3 := eT c2;have a4 := nF c2;clear c2;obtain rfl := Option.some.inj H;go_enter Tryd.func121, Tryd.ntmps121
  go_wp2
  go_ret;exact ⟨by first | rfl | (simp; done) | (simp [*]; done), by repeat (first | exact Drawn0.refl _ | apply Drawn0.step)⟩
 rw [if_neg c2] at H;have a3 := eF c2;have a4 := nT c2
 have a8 : ¬ (l0 = []) := fun h_ => c2 (by rw [h_]; rfl)
 generalize a2 : wrap64 ((l0.length : Int) - 1) = a1 at H;have hji3w : (IntKind.i64.wrap ((l0.length : Int) - 1)) = a1 := (Z1b _).trans a2;replace H := dn H;obtain ⟨c4, H⟩ := H;have a9 := dT c4;clear c4;replace H := dn H;obtain ⟨c5, H⟩ := H;have aa := dT c5;clear c5;obtain ⟨a5, A6, H⟩ := zh H;obtain rfl := Option.some.inj H;have p147 : 0 ≤ ((a1) : Int) := od;have q147 : (a1) < (l0.length : Int) := od;obtain ⟨ad147, e147, a6⟩ := Kd.ZF a7.out (a1) p147 q147;cases e147;replace p147 := eq_true p147;replace q147 := eq_true q147;go_enter Tryd.func121, Tryd.ntmps121
 go_wp2_with (first | ((with_reducible refine zG 88 rfl ?_); refine Z1k (some 16) rfl rfl Tryd.func88 (by kernel_rfl) rfl #[.int .u64 (rd l0 (a1))] rfl (by (try simp only [List.map_toArray, List.map_cons, List.map_nil]); first | done | (simp only [a2]; rfl) | rfl | (simp only [List.length_drop, List.length_take]; rfl)) ?_; (with_reducible refine (Z0K.calls k (rd l0 (a1)) a5 _ A6.out).mono ?_); rintro e w' ⟨rfl, ⟨nd, rfl⟩⟩; refine ⟨_, rfl, ?_⟩))
 go_ret;exact ⟨by first | rfl | (simp; done) | (simp only [← a2] <;> (first | rfl | simp)) | (simp [*]; done), by repeat (first | exact Drawn0.refl _ | apply Drawn0.step)⟩
def Z33.f (k : Nat) (l0 : List Int) : Option (Int × Int) := (Z1r.f k l0).bind fun a1 => ((Z1C.f k a1.1).bind fun a2 => (some (a2, a1.2)))
theorem Z33.calls (k : Nat) (A0 : Option Addr) (c0 : Nat) (l0 : List Int) (r1 : Int) (r2 : Int) (w : World) (hr0 : Kd.C Zu w A0 l0.length l0) (hc0 : l0.length ≤ c0) (h : Z33.f k l0 = some (r1, r2)) :
  Calls Tryd.prog 104 #[.slice A0 l0.length c0] w fun e w' => e = .returned (.tuple #[.int .i64 r1, .int .i64 r2]) ∧ Below w.heap.size w w' := by
 have a5 := zA hr0;have a6 := zA hc0;clear hr0 hc0;have HB := zA (Below.refl w.heap.size w);have H := h
 unfold Z33.f at H
 clear h;obtain ⟨⟨a2, a3⟩, A2, H⟩ := zh H;(try dsimp only at H);obtain ⟨a4, A3, H⟩ := zh H;simp only [Option.some.injEq, Prod.mk.injEq] at H;obtain ⟨rfl, rfl⟩ := H;go_enter Tryd.func104, Tryd.ntmps104
 go_wp2_with (first | ((with_reducible refine zG 103 rfl ?_); refine zC (some 8) Tryd.func103 (Z1r.calls k (fun k_ => k_ < w.heap.size) _ _ l0 a2 a3 _ (Z0P a6.out (Kd.ZZ (C_F (Kd.ZX .u64) a5.out) bq)) A2.out) ?_; rintro e w4 ⟨v150, rfl, a7, hb⟩; refine ⟨_, rfl, ?_⟩; have a1 := zA (Zq (Z6 (ok' := fun k_ => True) a7 (fun k_ hk_ => trivial)) (Z7 bq)); replace HB := ze hb; obtain ⟨a9, aa, a8⟩ := Zm a1.out; subst a8) | ((with_reducible refine zG 121 rfl ?_); refine zC (some 12) Tryd.func121 (Z1C.calls k _ _ a2 a4 _ (zk (Zb a1.out).2.2) ((Zb a1.out).2.1) A3.out) ?_; rintro e w' ⟨rfl, ⟨nd, rfl⟩⟩; refine ⟨_, rfl, ?_⟩))
 go_ret2
 exact ⟨er, bq⟩
def Z0u.f (k : Nat) (a2 : List Int) (a3 : Int) : Option (Int) := (Z33.f k a2).bind fun a1 => (some (wrap64 (a1.1 + a3)))
theorem Z0u.calls (k : Nat) (a3 : Option Addr) (a4 : Nat) (a2 : List Int) (a5 : Int) (r : Int) (w : World) (a6 : Kd.C Zu w a3 a2.length a2) (a7 : a2.length ≤ a4) (h : Z0u.f k a2 a5 = some r) :
  Calls Tryd.prog 76 #[.agg #[.slice a3 a2.length a4, .int .i64 a5]] w fun e w' => e = .returned (.int .i64 r) ∧ Below w.heap.size w w' := by
 have hu64 := Tryd.underlying64;have a8 := zA a6;have a9 := zA a7;clear a6 a7;have HB := zA (Below.refl w.heap.size w);have H := h
 unfold Z0u.f at H
 clear h;obtain ⟨⟨aa, ab⟩, A2, H⟩ := zh H;(try dsimp only at H);obtain rfl := Option.some.inj H;go_enter Tryd.func76, Tryd.ntmps76
 go_wp2_with (first | ((with_reducible refine zD 1 rfl ?_); refine zn (N := 1) (cs := #[.slice a3 a2.length a4, .int .i64 a5]) (t := 64) rfl rfl ?_; intro ak hg w3 hbox hb; have a1 := zA (hbox); have al := zw hg; replace HB := ze hb; clear hb hbox hg; have ac := zM0 a1; have ad := zM1 a1; have ae := Z2 a1.out 0; have af := Z2 a1.out 1) | ((with_reducible refine zG 104 rfl ?_); refine zC (some 8) Tryd.func104 (Z33.calls k _ _ a2 aa ab _ (zk (Za a8.out HB.out)) (a9.out) A2.out) ?_; rintro e w5 ⟨rfl, hb⟩; refine ⟨_, rfl, ?_⟩; replace a1 := zb a1 hb; replace HB := zf hb; have ag := zM0 a1; have ah := zM1 a1; have ai := Z2 a1.out 0; have aj := Z2 a1.out 1))
 go_ret;exact ⟨er, zs⟩
section
variable {P : Program} {ops : Array Oper} {Q : Exit → Act → World → Prop}
/-- A call of a function value, as an arm of go_wp2_with. -/
theorem goesV_ {rest : List Oper} {oi : Oper} {a : Act} {w : World} (N : Option Tmp) (hd : oi.dst = N) (hg : oi.guard = none) {f : FuncId} {fn : Func} {op : Operand} {as_ : Array Operand} {ts : Array TypeId} (first cap : Array Value)
  (hop : oi.op = .call { callee := .value op, args := as_, argTypes := ts }) (hv : a.eval op = .func (.func f) first cap)
  (hf : P.funcs[f]? = some fn) (hname : (fn.name == "runtime.NumGoroutine") = false) (hb : fn.body.isSome = true) (args : Array Value)
  (hargs : first ++ as_.map a.eval ++ cap = args)
  (h : Calls P f args w fun e w' => ∃ v, e = .returned v ∧ wpList P ops Q rest (a.put N v) w') : wpList P ops Q (oi :: rest) a w := by
 refine wpList_plain hg fun K hK => ?_
 have he := Z5y hf hname hb args w
 have hrun : (execOp a.eval oi).run P w = .ok (.enter f args) w := by
  unfold execOp
  simp [hop, resolve, Deferred.ofValue, invoke, hv, ← hargs] at he ⊢
  exact he
 unfold Oper.wp
 rw [hrun, Oper.upon_enter]
 refine h.mono fun e w'' hh => ?_
 obtain ⟨v, rfl, hk⟩ := hh;subst hd;exact hK _ _ hk
end
def Z2m.f (l0 : List Int) : Option (List Int × Int) := (Z0t.f l0).bind fun a1 => (if a1 = true then (some (([] : List Int), 3)) else ((Z0Z.f l0).bind fun a2 => (some (a2, 0))))
theorem Z2m.calls (A0 : Option Addr) (c0 : Nat) (l0 : List Int) (r1 : List Int) (r2 : Int) (w : World) (hr0 : Kd.C Zu w A0 l0.length l0) (hc0 : l0.length ≤ c0) (h : Z2m.f l0 = some (r1, r2)) :
  Calls Tryd.prog 122 #[.slice A0 l0.length c0] w fun e w' => ∃ v0_ : Value, e = .returned (.tuple #[v0_, .int .i64 r2]) ∧ Kd.R Zu 26 w' w.heap.size (fun _ => True) v0_ r1 ∧ Below w.heap.size w w' := by
 have a1 := zA hr0;have a2 := zA hc0;clear hr0 hc0;have HB := zA (Below.refl w.heap.size w);have H := h
 unfold Z2m.f at H
 clear h;obtain ⟨a4, A2, H⟩ := zh H
 by_cases c3 : a4 = true
 subst c3;rw [if_pos rfl] at H;rotate_left;replace c3 := Bool.eq_false_iff.mpr c3;subst c3;rw [if_neg (show ¬ (false = true) by decide)] at H;obtain ⟨a5, A4, H⟩ := zh H;rotate_left
 all_goals
  simp only [Option.some.injEq, Prod.mk.injEq] at H;obtain ⟨rfl, rfl⟩ := H;go_enter Tryd.func122, Tryd.ntmps122
  go_wp2_with (first | ((with_reducible refine zG 120 rfl ?_); refine zC (some 5) Tryd.func120 (Z0t.calls _ _ l0 true _ (zk a1.out) (a2.out) A2.out) ?_; rintro e w' ⟨rfl, ⟨nd, rfl⟩⟩; refine ⟨_, rfl, ?_⟩) | ((with_reducible refine zG 120 rfl ?_); refine zC (some 5) Tryd.func120 (Z0t.calls _ _ l0 false _ (zk a1.out) (a2.out) A2.out) ?_; rintro e w' ⟨rfl, ⟨nd, rfl⟩⟩; refine ⟨_, rfl, ?_⟩) | ((with_reducible refine zG 96 rfl ?_); refine zC (some 7) Tryd.func96 (Z0Z.calls _ _ l0 a5 _ (zk a1.out) (a2.out) A4.out) ?_; rintro e w5 ⟨v159, rfl, a6, hb⟩; refine ⟨_, rfl, ?_⟩; have a3 := zA (ZH a6 (Z7 bq)); replace HB := ze hb))
 ·go_ret2
  exact ⟨_, er, by first | exact Z1S _ _ _ _ _ | exact Kd.Z2w _ _ _ _ _ | exact Z1h _ _ _ _ _ | exact Kd.Z2u _ _ _ _ _ | exact Kd.Z2v _ _ _ _ _, bq⟩
 go_ret2
 exact ⟨_, er, ru a3.out, bq⟩
end Go.Proofs.YtnjfckadjklmfaaDoor.PAll
