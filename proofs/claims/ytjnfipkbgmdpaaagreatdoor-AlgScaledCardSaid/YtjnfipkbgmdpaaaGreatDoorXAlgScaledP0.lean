/- Printed functions, merged by a program of this session. -/
import Derived.Test.YtjnfipkbgmdpaaaGreatDoorProg
import Derived.Test.YtjnfipkbgmdpaaaGreatDoorXAlgScaledSh
namespace Go.Proofs.YtjnfipkbgmdpaaaGreatDoor.PAll
open Go.RowKit Go.Proofs.YtjnfipkbgmdpaaaGreatDoorW.PrintWords Go.Proofs.YtjnfipkbgmdpaaaGreatDoorW.PrintLast Go.Proofs.YtjnfipkbgmdpaaaGreatDoorW.PrintMore Go.Proofs.YtjnfipkbgmdpaaaGreatDoorW.PrintWords.Kd
attribute [local go_sem] max2_int min2_int max_two min_two max_three min_three max_four min_four   -- for this text's walks alone
set_option linter.unusedVariables false
set_option maxHeartbeats 8000000
set_option maxRecDepth 100000
set_option linter.unusedSimpArgs false
def errW : Option Int → Value
 | none => .nilIface
 | some c => .iface 0 (.int .i64 c)
theorem errW_none : errW none = .nilIface := rfl
theorem errW_some (c : Int) : errW (some c) = .iface 0 (.int .i64 c) := rfl
theorem info22 : (Tryz.prog.info? 22).map (fun i => (i.zero, i.size, i.bytes)) = some (some (.int .u64 0), 1, 8) := by kernel_rfl
theorem append_types {P : Program} {t t' e e' : TypeId} {ty : TypeId} {args : Array Value} {w : World} (ht : P.underlying t = some (.slice e)) (ht' : P.underlying t' = some (.slice e')) : (Builtin.append_ #[t, t'] ty args).run P w = (Builtin.append_ #[t, t] ty args).run P w := by
 unfold Builtin.append_
 cases h0 : args[0]? <;> cases h1 : args[1]? <;> simp only [List.getElem?_toArray, List.getElem?_cons_zero, List.getElem?_cons_succ, Sem.run_bind, run_underlying ht, Result.andThen_ok]
 rename_i s x
 cases s <;> try rfl
 dsimp only;simp only [Sem.run_bind, run_underlying ht, run_underlying ht', Result.andThen_ok, Sem.run_pure]
namespace Kd
open Go.Proofs.YtjnfipkbgmdpaaaGreatDoorW.PrintWords.Kd
section
variable {P : Program} {ops : Array Oper} {rest : List Oper} {o : Oper} {a : Act} {Q : Exit → Act → World → Prop} {α : Type}
theorem R_append_rows2 (d : Kd α) {Rr : α → List Value → Prop} {w0 W : World} (base : Nat) (hgd : o.guard = none) (s x : Operand) (t t' e : TypeId) (z : Value) (bytes : Nat)
  (ho : o.op = .call { callee := .builtin .append, args := #[s, x], argTypes := #[t, t'] })
  (ht : P.underlying t = some (.slice e)) (ht' : P.underlying t' = some (.slice e)) (hinfo : (P.info? e).map (fun i => (i.zero, i.size, i.bytes)) = some (some z, d.sz, bytes)) (hz : z.cells.size = d.sz) (hs0 : 0 < d.sz) (hb0 : 0 < bytes)
  (v : Value) (xs ys : List α) (A : Option Addr) (m c : Nat) (ok okp : Nat → Prop) (hs : a.eval s = v) (hx : a.eval x = .slice A m c)
  (HO : d.R e W base ok v xs) (HR : ReadsRow Rr d.sz W A m ys) (hKM : ∀ x cs, Rr x cs → d.M W base okp x cs) (hokp : ∀ k, okp k → ok k ∧ some k ≠ v.ownBlock) (hfresh : ∀ k, W.heap.size ≤ k → ok k)
  (HB : Below base w0 W) (hbase : base ≤ W.heap.size) (hl : (xs.length + m) * bytes ≤ 140737488355328)
  (h : ∀ v1 w1, d.R e w1 base ok v1 (xs ++ ys) → Below base w0 w1 → W.grownBy w1 v.ownBlock → (v1.ownBlock = v.ownBlock ∨ ∃ b, v1.ownBlock = some b ∧ W.heap.size ≤ b) → wpList P ops Q rest (a.put o.dst v1) w1) :
  wpList P ops Q (o :: rest) a W := by
 obtain ⟨i0, hi, hzz⟩ := Option.map_eq_some_iff.1 hinfo;simp only [Prod.mk.injEq] at hzz;obtain ⟨hz0, hz1, hz2⟩ := hzz;have hm : ys.length = m := HR.1;have hlen : xs.length + m ≤ 140737488355328 := Nat.le_trans (Nat.le_mul_of_pos_right _ hb0) hl;obtain ⟨hok, inner, hown, hr⟩ := HO
 have hrun : ∃ v1 w1, (Builtin.append_ #[t, t] o.type #[v, .slice A m c]).run P W = .ok v1 w1 ∧ d.R e w1 base ok v1 (xs ++ ys) ∧ W.grownBy w1 v.ownBlock ∧ (v1.ownBlock = v.ownBlock ∨ ∃ b, v1.ownBlock = some b ∧ W.heap.size ≤ b) := by
  rcases A with _ | ad
  ·have h0 : m = 0 := by
    rcases Nat.eq_zero_or_pos m with h0 | h0
    ·exact h0
    obtain ⟨ad, h, _⟩ := HR.2.2 h0;cases h
   subst h0;obtain rfl : ys = [] := List.eq_nil_of_length_eq_zero hm;refine ⟨v, W, ?_, by rw [List.append_nil]; exact ⟨hok, inner, hown, hr⟩, World.grownBy.refl W _, .inl rfl⟩
   rcases hown.2 with ⟨rfl, hn⟩ | ⟨g, cap, cur, rfl, _, _, hnc, _⟩
   ·simp [Builtin.append_, run_underlying ht, sizeOf, typeInfo, hi, Builtin.lenOf, Builtin.firstCells]
   simp [Builtin.append_, run_underlying ht, sizeOf, typeInfo, hi, Builtin.lenOf, Builtin.firstCells, hnc, storeCells]
  obtain ⟨news, hnr, hnc⟩ := ReadsRow.inner_ HR;have hnM : Reps (d.M W base okp) d.sz ys news := hnr.imp_ (fun p c hp => hKM p c hp)
  have hone : ∀ u ∈ news, u.oneCell' = true := by
   intro u hu;obtain ⟨q, hq, rfl⟩ := List.mem_iff_getElem.1 hu
   have hql : q / d.sz < ys.length := by
    rw [Nat.div_lt_iff_lt_mul hs0];rw [← hnM.1];exact hq
   have hc := hnM.2 (q / d.sz) _ (List.getElem?_eq_getElem hql);refine d.K_one (d.K_of_M hc) _ ?_;rw [List.mem_iff_getElem?];refine ⟨q % d.sz, ?_⟩;rw [List.getElem?_take, if_pos (Nat.mod_lt _ hs0), List.getElem?_drop, Nat.mul_comm, Nat.div_add_mod, List.getElem?_eq_getElem hq]
  obtain ⟨v1, w1, hrun, h2, hg, _, hat⟩ := run_append_own_at (P := P) W base t o.type e i0 z d.sz bytes ht hi hz0 hz1 hz2 hz hs0 v xs.length inner hown ad m c news (by rw [hnM.1, hm]) hnc hone (by simp only [maxLen]; omega) hl hbase
  have hat' : v1.ownBlock = v.ownBlock ∨ ∃ b, v1.ownBlock = some b ∧ W.heap.size ≤ b := by
   rcases hat with hat | hat
   ·exact .inl hat
   exact .inr ⟨_, hat, Nat.le_refl _⟩
  have hne : ∀ k, some k ≠ v.ownBlock → k < W.heap.size → some k ≠ v1.ownBlock := by
   intro k hk hlt
   rcases hat' with hat | ⟨b, hb, hle⟩
   ·rw [hat]; exact hk
   rw [hb];intro he
   injection he with he
   omega
  have step : ∀ {q : α} {c : List Value} {o : Nat → Prop}, d.M W base o q c → (∀ k, o k → ok k ∧ some k ≠ v.ownBlock) → d.M w1 base (fun k => ok k ∧ some k ≠ v1.ownBlock) q c := by
   intro q c o hq ho;have h1 := d.M_move (w1 := w1) (fun k hk => hg.block k hk.2.2.1 (ho k hk.1).2) (d.M_bound hq);exact d.M_mono (fun k hk => ⟨(ho k hk.1).1, hne k (ho k hk.1).2 hk.2.2.1⟩) h1
  refine ⟨v1, w1, hrun, ⟨fun k hk => ?_, inner ++ news, by rw [List.length_append, hm]; exact h2, reps_append (hr.imp_ (fun _ _ hq => step hq (fun _ hk => hk))) (hnM.imp_ (fun _ _ hq => step hq hokp))⟩, hg, hat'⟩
  rcases hat' with hat | ⟨b, hb, hle⟩
  ·exact hok k (hat ▸ hk)
  rw [hb] at hk
  injection hk with hk
  exact hfresh k (by omega)
 obtain ⟨v1, w1, hr1, h1, hg, hat⟩ := hrun
 refine wpList_plain hgd fun K hK => ?_
 unfold Oper.wp execOp
 simp only [ho, resolve, invoke, builtin, Sem.run_bind, Sem.run_pure, Result.andThen_ok, List.map_toArray, List.map_cons, List.map_nil, hs, hx, append_types ht ht', hr1];exact hK _ _ (h v1 w1 h1 (HB.grown hg hbase (own_base hown)) hg hat)
end
end Kd
/-- The table of math/bits.TrailingZeros64. -/
def tzTab : List Int := [0, 1, 56, 2, 57, 49, 28, 3, 61, 58, 42, 50, 38, 29, 17, 4, 62, 47, 59, 36, 45, 43, 51, 22, 53, 39, 33, 30, 24, 18, 12, 5, 63, 55, 48, 27, 60, 41, 37, 16, 46, 35, 44, 21, 52, 32, 23, 11, 54, 26, 40, 15, 34, 20, 31, 10, 25, 14, 19, 9, 13, 8, 7, 6]
/-- The table lies in memory as the program's text lays it. -/
def Laid (w : World) : Prop := ∀ i : Nat, i < 64 → w.cell? ⟨2, i, none⟩ = some (.int .u8 (tzTab.getD i 0))
theorem laid_drewN {w : World} (h : Laid w) (n : Nat) : Laid (w.drewN n) := fun i hi => by
 have := h i hi
 simpa using this
theorem laid_drew {w : World} (h : Laid w) : Laid w.drew := fun i hi => by
 have := h i hi
 simpa using this
theorem laid_below {w w' : World} (h : Laid w) (hb : Below w.heap.size w w') : Laid w' := fun i hi => by
 have h0 := h i hi;rw [hb.cell (p := ⟨2, i, none⟩) (World.block_lt_of_cell? w ⟨2, i, none⟩ h0)];exact h0
def add64s (x y c : Int) : Int := ((x.toNat + y.toNat + c.toNat) % 18446744073709551616 : Nat)
def add64c (x y c : Int) : Int := ((x.toNat + y.toNat + c.toNat) / 18446744073709551616 : Nat)
def sub64s (x y c : Int) : Int := ((x.toNat + 18446744073709551616 - y.toNat - c.toNat) % 18446744073709551616 : Nat)
def sub64c (x y c : Int) : Int := if x.toNat < y.toNat + c.toNat then 1 else 0
def sub64Entry : Array Value → Sem Value := fun args => do
 let (x, y, b) ← Extern.MathBitsCarry.three "Sub64" args
 pure (Extern.MathBitsCarry.pair ((x + Extern.MathBitsCarry.m64 - y - b) % Extern.MathBitsCarry.m64) (if x < y + b then 1 else 0))
theorem carry_nat {c : Int} (h : decide (c ≤ 1) = true) : c.toNat = 0 ∨ c.toNat = 1 := by
 have h' := of_decide_eq_true h
 omega
theorem add64_run {P : Program} (x y c : Int) (h : decide (c ≤ 1) = true) (w : World) : (add64Entry #[.int .u64 x, .int .u64 y, .int .u64 c]).run P w = .ok (.tuple #[.int .u64 (add64s x y c), .int .u64 (add64c x y c)]) w := by
 have key : ∀ k : Nat, k = 0 ∨ k = 1 → c.toNat = k → (add64Entry #[.int .u64 x, .int .u64 y, .int .u64 c]).run P w = .ok (Extern.MathBitsCarry.pair ((x.toNat + y.toNat + k) % Extern.MathBitsCarry.m64) ((x.toNat + y.toNat + k) / Extern.MathBitsCarry.m64)) w := by
  intro k hk hc
  rcases hk with rfl | rfl
  ·cases c with
   | ofNat n => cases hc; rfl
   | negSucc m => rfl
  cases c with
  | ofNat n => cases hc; rfl
  | negSucc m => cases hc
 rw [key _ (carry_nat h) rfl]; rfl
theorem sub64_run {P : Program} (x y c : Int) (h : decide (c ≤ 1) = true) (w : World) : (sub64Entry #[.int .u64 x, .int .u64 y, .int .u64 c]).run P w = .ok (.tuple #[.int .u64 (sub64s x y c), .int .u64 (sub64c x y c)]) w := by
 have key : ∀ k : Nat, k = 0 ∨ k = 1 → c.toNat = k → (sub64Entry #[.int .u64 x, .int .u64 y, .int .u64 c]).run P w = .ok (Extern.MathBitsCarry.pair ((x.toNat + Extern.MathBitsCarry.m64 - y.toNat - k) % Extern.MathBitsCarry.m64) (if x.toNat < y.toNat + k then 1 else 0)) w := by
  intro k hk hc
  rcases hk with rfl | rfl
  ·cases c with
   | ofNat n => cases hc; rfl
   | negSucc m => rfl
  cases c with
  | ofNat n => cases hc; rfl
  | negSucc m => cases hc
 rw [key _ (carry_nat h) rfl]
 unfold Extern.MathBitsCarry.pair sub64s sub64c Extern.MathBitsCarry.m64
 split <;> rfl
theorem ext153 (x y c : Int) (h : decide (c ≤ 1) = true) (w : World) : (callFunc 153 #[.int .u64 x, .int .u64 y, .int .u64 c]).run Tryz.prog w = .ok (.value (.tuple #[.int .u64 (add64s x y c), .int .u64 (add64c x y c)])) w := by
 rw [run_callFunc_extern (e := add64Entry) Tryz.func153 (by kernel_rfl) (by kernel_rfl) (by kernel_rfl) (by kernel_rfl)];rw [add64_run x y c h w]; rfl
theorem ext154 (x y c : Int) (h : decide (c ≤ 1) = true) (w : World) : (callFunc 154 #[.int .u64 x, .int .u64 y, .int .u64 c]).run Tryz.prog w = .ok (.value (.tuple #[.int .u64 (sub64s x y c), .int .u64 (sub64c x y c)])) w := by
 rw [run_callFunc_extern (e := sub64Entry) Tryz.func154 (by kernel_rfl) (by kernel_rfl) (by kernel_rfl) (by kernel_rfl)];rw [sub64_run x y c h w]; rfl
theorem fld77_0 (v0 v1 v2 : Value) (w : World) : (Instr.field 77 (.agg #[v0, v1, v2]) 0).run Tryz.prog w = .ok (v0) w := by kernel_rfl
theorem fld77_1 (v0 v1 v2 : Value) (w : World) : (Instr.field 77 (.agg #[v0, v1, v2]) 1).run Tryz.prog w = .ok (v1) w := by kernel_rfl
theorem fld77_2 (v0 v1 v2 : Value) (w : World) : (Instr.field 77 (.agg #[v0, v1, v2]) 2).run Tryz.prog w = .ok (v2) w := by kernel_rfl
attribute [local go_sem] fld77_0 fld77_1 fld77_2 ext153 ext154
theorem eqA25 (d : Nat) (w : World) (x0 y0 : Int) (x1 y1 : Int) :
  (Op.equalIn (d + 2) 25 (.agg #[.int .u64 x0, .int .u8 x1]) (.agg #[.int .u64 y0, .int .u8 y1])).run Tryz.prog w = .ok (x0 == y0 && (x1 == y1)) w := by
 refine eqA_of Tryz.underlying25 (by kernel_rfl) ?_;refine eqf_cons (by rfl) (by go_simp; rfl) (by go_simp; rfl) (by go_simp) ?_;exact eqf_last (by rfl) (by go_simp; rfl) (by go_simp; rfl) (by go_simp)
def Z0L.f (a0 : Int) : Option (Int) := some (Go.bits .andNot .u64 a0 9223372036854775808)
theorem Z0L.calls (a0 : Int) (r : Int) (w : World) (h : Z0L.f a0 = some r) :
  Calls Tryz.prog 62 #[.int .u64 a0] w fun e w' => e = .returned (.int .u64 r) ∧ Drawn0 w w' := by
 have H := h
 unfold Z0L.f at H
 clear h;obtain rfl := Option.some.inj H;go_enter Tryz.func62, Tryz.ntmps62
 go_wp2
 go_ret;exact ⟨by first | rfl | (simp; done) | (simp [*]; done), by repeat (first | exact Drawn0.refl _ | apply Drawn0.step)⟩
def Z0P.f (a0 : Int) : Option (Int) := (Z0L.f a0).bind fun a1 => (some a1)
theorem Z0P.calls (a0 : Int) (r : Int) (w : World) (h : Z0P.f a0 = some r) :
  Calls Tryz.prog 21 #[.int .u64 a0] w fun e w' => e = .returned (.int .u64 r) ∧ Drawn0 w w' := by
 have H := h
 unfold Z0P.f at H
 clear h;obtain ⟨a1, A2, H⟩ := zh H;obtain rfl := Option.some.inj H;go_enter Tryz.func21, Tryz.ntmps21
 go_wp2_with (first | ((with_reducible refine zG 62 rfl ?_); refine zC (some 4) Tryz.func62 (Z0L.calls a0 a1 _ A2.out) ?_; rintro e w' ⟨rfl, ⟨nd, rfl⟩⟩; refine ⟨_, rfl, ?_⟩))
 go_ret;exact ⟨by first | rfl | (simp; done) | (simp [*]; done), by repeat (first | exact Drawn0.refl _ | apply Drawn0.step)⟩
def Z5.l0 : Nat → List Int → Int → Option (List Int)
 | 0, _, _ => none
 | k + 1, x0, x3 => if x3 > 0 then (if 0 ≤ (wrap64 (x3 - 1)) then (if (wrap64 (x3 - 1)) < (x0.length : Int) then (if (rd x0 (wrap64 (x3 - 1))) = 0 then (Z5.l0 k x0 (wrap64 (x3 - 1))) else (if 0 ≤ x3 then (if x3 ≤ (x0.length : Int) then (some (x0.take (x3 : Int).toNat)) else (none)) else (none))) else (none)) else (none)) else (if 0 ≤ x3 then (if x3 ≤ (x0.length : Int) then (some (x0.take (x3 : Int).toNat)) else (none)) else (none))
def Z5.f (k : Nat) (l0 : List Int) : Option (List Int) := Z5.l0 k l0 (l0.length : Int)
theorem cut_to3 {P : Program} (t e : TypeId) (kh km : IntKind) {i : TypeInfo} (ht : P.underlying t = some (.slice e)) (hi : P.info? e = some i) (A : Option Addr) (n c : Nat) (j : Int) (h0 : 0 ≤ j) (hm : j ≤ n) (hc : n ≤ c) :
  ∀ W : World, (Instr.slice t (.slice A n c) none (some (.int kh j)) (some (.int km j))).run P W = .ok (.slice A j.toNat j.toNat) W := by
 intro W;obtain ⟨m, rfl⟩ := Int.eq_ofNat_of_zero_le h0
 have hb : ∀ (k : IntKind) (y : Nat) (code : BoundsCode) (w : World), m ≤ y → (Instr.sliceBound (.int k (m : Int)) y code).run P w = .ok m w := by
  intro k y code w hy
  have : (m : Int) ≤ (y : Int) := by omega
  simp [Instr.sliceBound, asIntOf, this]
 simp [Instr.slice, run_underlying ht, Instr.sliceBounds, hb _ c _ _ (by omega), hb _ m _ _ (Nat.le_refl m), sizeOf, typeInfo, hi, Result.andThen]
 cases A <;> simp [Addr.add]
theorem Z5.calls (k : Nat) (P0_ : Nat → Prop) (A0 : Option Addr) (c0 : Nat) (l0 : List Int) (r : List Int) (w : World) (hs0 : Kd.V Zu 22 w w.heap.size (fun k_ => P0_ k_) (.slice A0 l0.length c0) l0) (h : Z5.f k l0 = some r) :
  Calls Tryz.prog 145 #[.slice A0 l0.length c0] w fun e w' => ∃ v0_ : Value, e = .returned (v0_) ∧ Kd.V Zu 22 w' w.heap.size (fun k_ => (P0_ k_ ∨ w.heap.size ≤ k_)) v0_ r ∧ Below w.heap.size w w' := by
 have aj := zA (show Kd.V Zu 22 w w.heap.size (fun k_ => (P0_ k_ ∨ w.heap.size ≤ k_)) (.slice A0 l0.length c0) l0 from V_mono hs0 (fun k_ hk => .inl hk));have HB := zA (Below.refl w.heap.size w);have H := h
 unfold Z5.f at H
 clear h;have H' := zA H;clear H;go_enter Tryz.func145, Tryz.ntmps145
 go_wp2
 go_loopg [3] k (fun kq v3 w' => ∃ (a1 : Int), v3 = .int .i64 a1 ∧ Aside0 (Z5.l0 kq l0 a1 = some r) ∧ Aside0 (kq ≤ k) ∧ Aside0 (Kd.V Zu 22 w' w.heap.size (fun k_ => (P0_ k_ ∨ w.heap.size ≤ k_)) (.slice A0 l0.length c0) l0) ∧ Aside0 (Below w.heap.size w w'))
 case atStart => exact ⟨((l0.length : Int)), zi, H', ⟨Nat.le_refl _⟩, ⟨vu aj.out⟩, ⟨bq⟩⟩
 case round =>
  clear H';obtain ⟨a1, rfl, HA, HK1, a2, HB⟩ := hrel
  cases gk with
  | zero => exact absurd HA.out (by simp [Z5.l0])
  | succ k1 =>
   have H := HA.out;clear HA;simp only [Z5.l0] at H
   by_cases c2 : a1 > 0
   ·rw [if_pos c2] at H;have ag := decide_eq_true c2;clear c2;generalize a6 : wrap64 (a1 - 1) = a5 at H;have hji3w : (IntKind.i64.wrap (a1 - 1)) = a5 := (i64_w _).trans a6;replace H := dn H;obtain ⟨c4, H⟩ := H;have aq := decide_eq_true c4;clear c4;replace H := dn H;obtain ⟨c5, H⟩ := H;have ar := decide_eq_true c5;clear c5
    by_cases c6 : (rd l0 (a5)) = 0
    ·rw [if_pos c6] at H;have ah := beq_iff_eq.mpr c6;have ai := bne_eq_false_iff_eq.mpr c6;clear c6;have H' := zA H;clear H;have p102 : 0 ≤ ((a5) : Int) := od;have q102 : (a5) < (l0.length : Int) := od;obtain ⟨ad102, e102, ac⟩ := Kd.at_int (V_reads' a2.out).2.2 (a5) p102 q102;cases e102;replace p102 := eq_true p102;replace q102 := eq_true q102
     go_wp2
     go_roundg k1
     case measure => have := HK1.out; omega
     case rel => exact ⟨(a5), (by first | rfl | (simp; done) | (simp only [← a6] <;> (first | rfl | simp)) | (simp [*]; done)), (by first | exact H' | (simp only [a6]; exact H') | (simp only [a6] at H' ⊢; exact H')), ⟨by have := HK1.out; omega⟩, ⟨vu a2.out⟩, ⟨bq⟩⟩
    rw [if_neg c6] at H;have ah := beq_eq_false_iff_ne.mpr c6;have ai := bne_iff_ne.mpr c6;replace H := dn H;obtain ⟨c7, H⟩ := H;have au := eq_true c7;have av := decide_eq_true c7;clear c7;replace H := dn H;obtain ⟨c8, H⟩ := H;have aw := eq_true c8;have ax := decide_eq_true c8;clear c8;obtain ⟨a3, a7⟩ : ∃ y_ : List Int, y_ = (l0.take (a1 : Int).toNat) := ⟨_, rfl⟩;replace H : (some a3) = some r := zR a7 H;have aa := zA a7;clear a7;obtain rfl := Option.some.inj H;have p102 : 0 ≤ ((a5) : Int) := od;have q102 : (a5) < (l0.length : Int) := od;obtain ⟨ad102, e102, ac⟩ := Kd.at_int (V_reads' a2.out).2.2 (a5) p102 q102;cases e102;replace p102 := eq_true p102;replace q102 := eq_true q102;have q9 : (a1 : Int) ≤ ((l0.length : Int) : Int) := od;obtain ⟨i09, hi09, _, hsz9, _⟩ := info_parts info22;have hroom9 : l0.length ≤ c0 := (V_reads' a2.out).2.1;have hC9 : Kd.F Zu _ _ (some ad102) l0.length l0 := (V_at (base := w.heap.size) a2.out).2.2;have hcut9 := cut_to3 (P := Tryz.prog) 31 22 .i64 .i64 Tryz.underlying31 hi09 (some ad102) l0.length c0 a1 (od) q9 hroom9;have hr9 := Kd.F_take (m := (a1 : Int).toNat) hC9 (by omega);have ad : a3.length = (a1 : Int).toNat := (by rw [aa.out, List.length_take]; omega);rw [← aa.out] at hr9;rw [← ad] at hcut9;have ae := zA (show Kd.V Zu 22 _ w.heap.size _ (.slice (some ad102) a3.length a3.length) a3 from V_mk (Nat.le_refl _) hr9);have ak := zA (show a3.length ≤ a3.length from Nat.le_refl _);clear hr9 hC9 hroom9 hi09 hsz9;have KY9 := zA ad;clear ad;replace q9 := eq_true q9
    go_wp2
    go_ret;exact ⟨_, by first | rfl | (simp [errW_none, errW_some] <;> rfl) | (simp only [← a6]; first | rfl | (simp [errW_none, errW_some] <;> rfl)) | (simp [*, errW_none, errW_some] <;> rfl), vu ae.out, bq⟩
   rw [if_neg c2] at H;have ag := decide_eq_false c2;clear c2;replace H := dn H;obtain ⟨c10, H⟩ := H;have al := eq_true c10;have am := decide_eq_true c10;clear c10;replace H := dn H;obtain ⟨c11, H⟩ := H;have an := eq_true c11;have ao := decide_eq_true c11;clear c11;obtain ⟨a4, a8⟩ : ∃ y_ : List Int, y_ = (l0.take (a1 : Int).toNat) := ⟨_, rfl⟩;replace H : (some a4) = some r := zR a8 H;have ab := zA a8;clear a8;obtain rfl := Option.some.inj H;have q12 : (a1 : Int) ≤ ((l0.length : Int) : Int) := od;obtain ⟨i012, hi012, _, hsz12, _⟩ := info_parts info22;have hroom12 : l0.length ≤ c0 := (V_reads' a2.out).2.1;have hC12 : Kd.F Zu _ _ A0 l0.length l0 := (V_at (base := w.heap.size) a2.out).2.2;have hcut12 := cut_to3 (P := Tryz.prog) 31 22 .i64 .i64 Tryz.underlying31 hi012 A0 l0.length c0 a1 (od) q12 hroom12;have hr12 := Kd.F_take (m := (a1 : Int).toNat) hC12 (by omega);have a9 : a4.length = (a1 : Int).toNat := (by rw [ab.out, List.length_take]; omega);rw [← ab.out] at hr12;rw [← a9] at hcut12;have af := zA (show Kd.V Zu 22 _ w.heap.size _ (.slice A0 a4.length a4.length) a4 from V_mk (Nat.le_refl _) hr12);have ap := zA (show a4.length ≤ a4.length from Nat.le_refl _);clear hr12 hC12 hroom12 hi012 hsz12;have KY12 := zA a9;clear a9;replace q12 := eq_true q12
   go_wp2
   go_ret;exact ⟨_, er, vu af.out, bq⟩
def tzI (x : Int) : Int := IntKind.u64.wrap (bits BinOp.and IntKind.u64 x (IntKind.u64.wrap (-x)) * 285870213051353865) / 288230376151711744
def Z03.f (a0 : Int) : Option (Int) := if a0 = 0 then some 64 else if 0 ≤ tzI a0 then (if tzI a0 < 64 then some (tzTab.getD (tzI a0).toNat 0) else none) else none
theorem tzTab_bd : ∀ i : Nat, i < 64 → 0 ≤ tzTab.getD i 0 ∧ tzTab.getD i 0 < 64 := by decide
theorem Z03.calls (a0 : Int) (r : Int) (w : World) (hT : Laid w) (h : Z03.f a0 = some r) :
  Calls Tryz.prog 162 #[.int .u64 a0] w fun e w' => e = .returned (.int .i64 r) ∧ Drawn0 w w' := by
 unfold Z03.f at h
 by_cases c : a0 = 0
 ·rw [if_pos c] at h;obtain rfl := Option.some.inj h;subst c;go_enter Tryz.func162, Tryz.ntmps162
  go_wp2
  go_ret;exact ⟨rfl, Drawn0.refl _⟩
 rw [if_neg c] at h;have c0 : (a0 == 0) = false := beq_eq_false_iff_ne.mpr c
 by_cases p : 0 ≤ tzI a0
 ·rw [if_pos p] at h
  by_cases q : tzI a0 < 64
  ·rw [if_pos q] at h;have hc := hT (tzI a0).toNat (by omega);have hb := tzTab_bd (tzI a0).toNat (by omega);have hr := Option.some.inj h;rw [hr] at hc hb;have hb0 := hb.1;have hb1 := hb.2;clear h hr hb hT c
   unfold tzI at p q hc
   go_enter Tryz.func162, Tryz.ntmps162
   go_wp2
   go_ret;exact ⟨by first | rfl | simp, Drawn0.refl _⟩
  rw [if_neg q] at h;cases h
 rw [if_neg p] at h;cases h
def Z00.l0 : Nat → List Int → Int → Int → Option (Int)
 | 0, _, _, _ => none
 | k + 1, x5, x6, x7 => if x7 < x6 then (if 0 ≤ x7 then (if x7 < (x5.length : Int) then (if (rd x5 x7) = 0 then (Z00.l0 k x5 x6 (wrap64 (x7 + 1))) else ((Z03.f (rd x5 x7)).bind fun a1 => (some (wrap64 ((wrap64 (64 * x7)) + a1))))) else (none)) else (none)) else (some 0)
def Z00.f (k : Nat) (l0 : List Int) : Option (Int) := Z00.l0 k l0 (l0.length : Int) 0
theorem Z00.calls (k : Nat) (A0 : Option Addr) (c0 : Nat) (l0 : List Int) (r : Int) (w : World) (hr0 : Kd.C Zu w A0 l0.length l0) (hc0 : l0.length ≤ c0) (hT : Laid w) (h : Z00.f k l0 = some r) :
  Calls Tryz.prog 150 #[.slice A0 l0.length c0] w fun e w' => e = .returned (.int .i64 r) ∧ Drawn0 w w' := by
 have a3 := zA hr0;have aa := zA hc0;clear hr0 hc0;have H := h
 unfold Z00.f at H
 clear h;have H' := zA H;clear H;go_enter Tryz.func150, Tryz.ntmps150
 go_wp2
 go_loopg [7] k (fun kq v7 w' => ∃ (a1 : Int), v7 = .int .i64 a1 ∧ Aside0 (Z00.l0 kq l0 (l0.length : Int) a1 = some r) ∧ Aside0 (kq ≤ k) ∧ Drawn0 w w')
 case atStart => exact ⟨(0), zi, H', ⟨Nat.le_refl _⟩, by repeat (first | exact Drawn0.refl _ | apply Drawn0.step)⟩
 case round =>
  clear H';obtain ⟨a1, rfl, HA, HK1, ⟨m1, rfl⟩⟩ := hrel
  cases gk with
  | zero => exact absurd HA.out (by simp [Z00.l0])
  | succ k1 =>
   have H := HA.out;clear HA;simp only [Z00.l0] at H
   by_cases c2 : a1 < (l0.length : Int)
   ·rw [if_pos c2] at H;have a4 := decide_eq_true c2;clear c2;replace H := dn H;obtain ⟨c3, H⟩ := H;have a8 := decide_eq_true c3;clear c3;replace H := dn H;obtain ⟨c4, H⟩ := H;have a9 := decide_eq_true c4;clear c4
    by_cases c5 : (rd l0 a1) = 0
    ·rw [if_pos c5] at H;have a5 := beq_iff_eq.mpr c5;have a6 := bne_eq_false_iff_eq.mpr c5;clear c5;have H' := zA H;clear H;have p113 : 0 ≤ (a1 : Int) := od;have q113 : a1 < (l0.length : Int) := od;obtain ⟨ad113, e113, a2⟩ := Kd.at_int a3.out a1 p113 q113;cases e113;replace p113 := eq_true p113;replace q113 := eq_true q113
     go_wp2
     go_roundg k1
     case measure => have := HK1.out; omega
     case rel => exact ⟨(wrap64 (a1 + 1)), zi, H', ⟨by have := HK1.out; omega⟩, by repeat (first | exact Drawn0.refl _ | apply Drawn0.step)⟩
    rw [if_neg c5] at H;have a5 := beq_eq_false_iff_ne.mpr c5;have a6 := bne_iff_ne.mpr c5;obtain ⟨a7, A6, H⟩ := zh H;obtain rfl := Option.some.inj H;have p113 : 0 ≤ (a1 : Int) := od;have q113 : a1 < (l0.length : Int) := od;obtain ⟨ad113, e113, a2⟩ := Kd.at_int a3.out a1 p113 q113;cases e113;replace p113 := eq_true p113;replace q113 := eq_true q113
    go_wp2_with (first | ((with_reducible refine zG 162 rfl ?_); refine zC (some 17) Tryz.func162 (Z03.calls (rd l0 a1) a7 _ (by repeat (first | (with_reducible first | exact hT | apply laid_drewN | apply laid_drew) | exact hT)) A6.out) ?_; rintro e w' ⟨rfl, ⟨nd, rfl⟩⟩; refine ⟨_, rfl, ?_⟩))
    go_ret;exact ⟨by first | rfl | (simp; done) | (simp [*]; done), by repeat (first | exact Drawn0.refl _ | apply Drawn0.step)⟩
   rw [if_neg c2] at H;have a4 := decide_eq_false c2;clear c2;obtain rfl := Option.some.inj H
   go_wp2
   go_ret;exact ⟨by first | rfl | (simp; done) | (simp [*]; done), by repeat (first | exact Drawn0.refl _ | apply Drawn0.step)⟩
def ZI.l0 : Nat → List Int → Bool → List Int → Int → List Int → Int → Int → Option (List Int × Bool)
 | 0, _, _, _, _, _, _, _ => none
 | k + 1, x0, x6, x7, x8, x35, x36, x37 => if x37 < x36 then (if 0 ≤ x37 then (if x37 < (x35.length : Int) then (if 0 ≤ x8 then (if x37 < (x7.length : Int) then ((some (x7.set (x37 : Int).toNat (shr .u64 (rd x35 x37) x8) : List Int)).bind fun a1 => (if x8 > 0 then (if (wrap64 (x37 + 1)) < (x0.length : Int) then (if 0 ≤ (wrap64 (x37 + 1)) then (if 0 ≤ (wrap64 (64 - x8)) then (ZI.l0 k x0 x6 (a1.set (x37 : Int).toNat (Go.bits .or .u64 (rd a1 x37) (shl .u64 (rd x0 (wrap64 (x37 + 1))) (wrap64 (64 - x8))))) x8 x35 x36 (wrap64 (x37 + 1))) else (none)) else (none)) else (ZI.l0 k x0 x6 a1 x8 x35 x36 (wrap64 (x37 + 1)))) else (ZI.l0 k x0 x6 a1 x8 x35 x36 (wrap64 (x37 + 1))))) else (none)) else (none)) else (none)) else (none)) else ((Z5.f k x7).bind fun a2 => (some (a2, x6)))
def ZI.f (k : Nat) (l0 : List Int) (a1 : Int) : Option (List Int × Bool) := (Z5.f k l0).bind fun a3 => (if (a3.length : Int) = 0 then (some (([] : List Int), false)) else ((Z00.f k a3).bind fun a4 => (if (wrap64 (Int.tdiv a1 64)) ≥ (a3.length : Int) then (some (([] : List Int), decide (a4 < a1))) else (if 0 ≤ (wrap64 (Int.tdiv a1 64)) then (if (wrap64 (Int.tdiv a1 64)) ≤ (a3.length : Int) then ((some (a3.drop ((wrap64 (Int.tdiv a1 64)) : Int).toNat : List Int)).bind fun a2 => (if 0 ≤ (a2.length : Int) then (if ((a2.length : Int) : Int).toNat ≤ 35184372088832 then (ZI.l0 k a2 (decide (a4 < a1)) (List.replicate ((a2.length : Int) : Int).toNat 0) (Int.tmod a1 64) a2 (a2.length : Int) 0) else (none)) else (none))) else (none)) else (none)))))
def ZI.T15 : Bool × List (List Nat × List Nat) := (true, [([], []), ([], []), ([0, 1], [0, 1]), ([2], [2]), ([], []), ([], []), ([5], [5]), ([4, 6], [4, 6]), ([7], [7]), ([], []), ([9], [9]), ([8, 10], [8, 10]), ([3, 11], [3, 11]), ([0, 1, 0, 1, 2, 3, 4, 5, 6, 7, 8, 9, 10, 11, 12], [0, 1]), ([13, 12, 0, 1, 2, 3, 4, 5, 6, 7, 8, 9, 10, 11, 12], [12, 13])])
def ZI.B15 : List Nat := [0, 0, 3, 7, 0, 0, 32, 112, 240, 0, 512, 2032, 4095, 8191, 16383]
theorem ZI.tab15 : rtab .any (opsOf Tryz.f151 15) = ZI.T15 := by kernel_rfl
theorem ZI.bits15 : waitsOk ZI.T15.2 ZI.B15 = true := by kernel_rfl
theorem ZI.calls (k : Nat) (P0_ : Nat → Prop) (A0 : Option Addr) (c0 : Nat) (l0 : List Int) (a1 : Int) (r1 : List Int) (r2 : Bool) (w : World) (hs0 : Kd.V Zu 22 w w.heap.size (fun k_ => P0_ k_) (.slice A0 l0.length c0) l0) (hT : Laid w) (h : ZI.f k l0 a1 = some (r1, r2)) :
  Calls Tryz.prog 151 #[.slice A0 l0.length c0, .int .i64 a1] w fun e w' => ∃ v0_ : Value, e = .returned (.tuple #[v0_, .bool r2]) ∧ Kd.V Zu 22 w' w.heap.size (fun k_ => (P0_ k_ ∨ w.heap.size ≤ k_)) v0_ r1 ∧ Below w.heap.size w w' := by
 have aj := zA (show Kd.V Zu 22 w w.heap.size (fun k_ => (P0_ k_ ∨ w.heap.size ≤ k_)) (.slice A0 l0.length c0) l0 from V_mono hs0 (fun k_ hk => .inl hk));have HB := zA (Below.refl w.heap.size w);have H := h
 unfold ZI.f at H
 clear h;obtain ⟨a9, A3, H⟩ := zh H
 by_cases c4 : (a9.length : Int) = 0
 ·rw [if_pos c4] at H;have aV := beq_iff_eq.mpr c4;have aW := bne_eq_false_iff_eq.mpr c4;clear c4;simp only [Option.some.injEq, Prod.mk.injEq] at H;obtain ⟨rfl, rfl⟩ := H;go_enter Tryz.func151, Tryz.ntmps151
  go_wp2_with (first | ((with_reducible refine zG 145 rfl ?_); refine zC (some 12) Tryz.func145 (Z5.calls k (fun k_ => (P0_ k_ ∨ w.heap.size ≤ k_)) _ _ l0 a9 _ (aj.out) A3.out) ?_; rintro e w5 ⟨v116, rfl, aB, hb⟩; refine ⟨_, rfl, ?_⟩; replace aj := zA (V_below (vu aj.out) hb); have a8 := zA (V_lower (V_mono (ok' := fun k_ => (P0_ k_ ∨ w.heap.size ≤ k_)) aB (fun k_ hk_ => Or.elim hk_ (fun hs_ => hs_) (fun hn_ => (.inr (Nat.le_trans (below_size bq) hn_))))) (below_size bq)); replace HB := ze hb; obtain ⟨bs, bt, b5⟩ := V_slice a8.out; subst b5))
  go_ret2
  exact ⟨_, er, V_nil _ _ _ _ _, bq⟩
 rw [if_neg c4] at H;have aV := beq_eq_false_iff_ne.mpr c4;have aW := bne_iff_ne.mpr c4
 have bo : ¬ (a9 = []) := fun h_ => c4 (by rw [h_]; rfl)
 obtain ⟨aJ, A7, H⟩ := zh H
 by_cases c8 : (wrap64 (Int.tdiv a1 64)) ≥ (a9.length : Int)
 ·rw [if_pos c8] at H;have aO := decide_eq_true c8;clear c8;simp only [Option.some.injEq, Prod.mk.injEq] at H;obtain ⟨rfl, rfl⟩ := H;go_enter Tryz.func151, Tryz.ntmps151
  go_wp2_with (first | ((with_reducible refine zG 145 rfl ?_); refine zC (some 12) Tryz.func145 (Z5.calls k (fun k_ => (P0_ k_ ∨ w.heap.size ≤ k_)) _ _ l0 a9 _ (aj.out) A3.out) ?_; rintro e w9 ⟨v116, rfl, aB, hb⟩; refine ⟨_, rfl, ?_⟩; replace aj := zA (V_below (vu aj.out) hb); have a8 := zA (V_lower (V_mono (ok' := fun k_ => (P0_ k_ ∨ w.heap.size ≤ k_)) aB (fun k_ hk_ => Or.elim hk_ (fun hs_ => hs_) (fun hn_ => (.inr (Nat.le_trans (below_size bq) hn_))))) (below_size bq)); replace HB := ze hb; obtain ⟨bp, br, aX⟩ := V_slice a8.out; subst aX) | ((with_reducible refine zG 150 rfl ?_); refine zC (some 17) Tryz.func150 (Z00.calls k _ _ a9 aJ _ (zk (V_reads' a8.out).2.2) ((V_reads' a8.out).2.1) (laid_below hT bq) A7.out) ?_; rintro e w' ⟨rfl, ⟨nd, rfl⟩⟩; refine ⟨_, rfl, ?_⟩))
  go_ret2
  exact ⟨_, er, V_nil _ _ _ _ _, bq⟩
 rw [if_neg c8] at H;have aO := decide_eq_false c8;clear c8;generalize ab : wrap64 (Int.tdiv a1 64) = ae at H;(try rw [ab] at aO);(try rw [ab] at A3);(try rw [ab] at A7);have hji11w : (IntKind.i64.wrap (Int.tdiv a1 64)) = ae := (i64_w _).trans ab;replace H := dn H;obtain ⟨c12, H⟩ := H;have b7 := eq_true c12;have b8 := decide_eq_true c12;clear c12;replace H := dn H;obtain ⟨c13, H⟩ := H;have b9 := eq_true c13;have ba := decide_eq_true c13;clear c13;obtain ⟨a3, aq⟩ : ∃ y_ : List Int, y_ = (a9.drop ((ae) : Int).toNat) := ⟨_, rfl⟩;(first | replace H := zRb aq H | rw [← aq] at H | skip);have aK := zA aq;clear aq;replace H := dn H;obtain ⟨c14, H⟩ := H;have bb := eq_true c14;have bc := decide_eq_true c14;clear c14;replace H := dn H;obtain ⟨c15, H⟩ := H;have bd := eq_true c15;have be := decide_eq_true c15;clear c15;obtain ⟨aY, ar⟩ : ∃ y_ : List Int, y_ = (List.replicate ((a3.length : Int) : Int).toNat 0) := ⟨_, rfl⟩;(first | replace H := zRb ar H | rw [← ar] at H | skip);have aL := zA ar;clear ar;have H' := zA H;clear H;go_enter Tryz.func151, Tryz.ntmps151
 go_wp2_with (first | ((with_reducible refine zG 145 rfl ?_); refine zC (some 12) Tryz.func145 (Z5.calls k (fun k_ => (P0_ k_ ∨ w.heap.size ≤ k_)) _ _ l0 a9 _ (aj.out) A3.out) ?_; rintro e w16 ⟨v116, rfl, aB, hb⟩; refine ⟨_, rfl, ?_⟩; replace aj := zA (V_below (vu aj.out) hb); have a8 := zA (V_lower (V_mono (ok' := fun k_ => (P0_ k_ ∨ w.heap.size ≤ k_)) aB (fun k_ hk_ => Or.elim hk_ (fun hs_ => hs_) (fun hn_ => (.inr (Nat.le_trans (below_size bq) hn_))))) (below_size bq)); replace HB := ze hb; obtain ⟨aH, aC, az⟩ := V_slice a8.out; subst az) | ((with_reducible refine zG 150 rfl ?_); refine zC (some 17) Tryz.func150 (Z00.calls k _ _ a9 aJ _ (zk (V_reads' a8.out).2.2) ((V_reads' a8.out).2.1) (laid_below hT bq) A7.out) ?_; rintro e w' ⟨rfl, ⟨nd, rfl⟩⟩; refine ⟨_, rfl, ?_⟩; have q18 : ((ae) : Int) ≤ ((a9.length : Int) : Int) := od; obtain ⟨i018, hi018, _, hsz18, _⟩ := info_parts info22; have hroom18 : a9.length ≤ aC := (V_reads' a8.out).2.1; have hC18 : Kd.F Zu _ _ aH a9.length a9 := (V_at (base := w.heap.size) a8.out).2.2; have q018 : (0 : Int) ≤ ((ae) : Int) := od; have hcut18 := cut_from (P := Tryz.prog) 31 22 .i64 Tryz.underlying31 hi018 1 hsz18 aH a9.length aC (ae) q018 q18; have hr18 := Kd.F_cut (m := ((ae) : Int).toNat) (c := aC) hC18 (by omega) hroom18; obtain ⟨aM, hA18⟩ : ∃ A1, A1 = (if aC = ((ae) : Int).toNat then aH else (aH : Option Addr).map (·.add (((ae) : Int).toNat * 1))) := ⟨_, rfl⟩; obtain ⟨c18, hc18⟩ : ∃ c1, c1 = aC - ((ae) : Int).toNat := ⟨_, rfl⟩; have aD : a3.length = a9.length - ((ae) : Int).toNat := (by rw [aK.out, List.length_drop] <;> omega); rw [show (a9).drop ((ae) : Int).toNat = a3 from aK.out.symm] at hr18; replace hr18 : Kd.F Zu _ _ aM a3.length a3 := (by rw [hA18]; exact hr18); rw [← aD, ← hA18, ← hc18] at hcut18; have au := zA (show Kd.V Zu 22 _ w.heap.size _ (.slice aM a3.length c18) a3 from V_mk (by rw [aD, hc18]; exact Nat.sub_le_sub_right hroom18 _) hr18); have bf := zA (show a3.length ≤ c18 from by rw [aD, hc18]; exact Nat.sub_le_sub_right hroom18 _); have KC18 := zA hc18; clear hr18 hC18 hroom18 hi018 hsz18 hc18; have KY18 := zA aD; have KA18 := zA hA18; clear aD hA18; replace q18 := eq_true q18) | ((with_reducible refine zD 32 rfl ?_); (try (refine gate_guard (by rfl) ?_; dsimp only)); refine R_make Zu _ 22 rfl (N := 32) rfl 31 _ _ rfl (a3.length : Int) rfl rfl Tryz.underlying31 (.int .u64 0) 8 info22 rfl (by decide) (by omega) 0 (ok := fun _ => True) (okp := fun _ => True) rfl (fun _ hk => hk) trivial (od) (Nat.le_trans (Nat.mul_le_mul_right _ (od : (a3.length : Int).toNat ≤ 35184372088832)) (by omega)) (Below.refl _ _) (Nat.le_refl _) ?_; intro v125 w19 ak hb hg_ hnew_; clear hg_ hnew_; (first | rw [← aL.out] at ak | (simp only [Int.reduceToNat] at ak; rw [← aL.out] at ak)); replace aj := zA (V_elder' (vu aj.out) (R_base ak) hb); replace a8 := zA (V_elder' (vu a8.out) (R_base ak) hb); replace au := zA (V_elder' (vu au.out) (R_base ak) hb); have aQ := zA (R_lower (R_newM (M := fun k_ => (w.heap.size ≤ k_)) ak (below_size bq) (fun k_ h_ => h_)) (below_size bq)); replace HB := ze hb; clear hb ak))
 go_loopg [37] k (fun kq v37 w' => ∃ (a4 : List Int) (a2 : Int), v37 = .int .i64 a2 ∧ Aside0 (ZI.l0 kq a3 (decide (aJ < a1)) a4 (Int.tmod a1 64) a3 (a3.length : Int) a2 = some (r1, r2)) ∧ Aside0 (kq ≤ k) ∧ Aside0 (Kd.V Zu 22 w' w.heap.size (fun k_ => (P0_ k_ ∨ w.heap.size ≤ k_) ∧ some k_ ≠ (v125 : Value).ownBlock) (.slice aM a3.length c18) a3) ∧ Aside0 (Kd.R Zu 22 w' w.heap.size (fun k_ => (w.heap.size ≤ k_)) v125 a4) ∧ Aside0 (Kd.V Zu 22 w' w.heap.size (fun k_ => (P0_ k_ ∨ w.heap.size ≤ k_) ∧ some k_ ≠ (v125 : Value).ownBlock) (.slice aM a3.length c18) a3) ∧ Aside0 (Below w.heap.size w w'))
 case atStart => exact ⟨(aY), (0), zi, H', ⟨Nat.le_refl _⟩, ⟨vu au.out⟩, ⟨ru (R_mono aQ.out (fun _ hk => hk.1))⟩, ⟨vu au.out⟩, ⟨bq⟩⟩
 case round =>
  clear H';obtain ⟨a4, a2, rfl, HA, HK1, aa, a5, a6, HB⟩ := hrel
  cases gk with
  | zero => exact absurd HA.out (by simp [ZI.l0])
  | succ k1 =>
   have H := HA.out;clear HA;simp only [ZI.l0] at H
   by_cases c21 : a2 < (a3.length : Int)
   ·rw [if_pos c21] at H;have aR := decide_eq_true c21;clear c21;replace H := dn H;obtain ⟨c22, H⟩ := H;have bg := decide_eq_true c22;clear c22;replace H := dn H;obtain ⟨c23, H⟩ := H;have bh := decide_eq_true c23;clear c23;generalize ad : Int.tmod a1 64 = an at H;replace H := dn H;obtain ⟨c25, H⟩ := H;have bi := eq_true c25;have bj := decide_eq_true c25;clear c25;generalize af : shr .u64 (rd a3 a2) (an) = ai at H;have hji26_ : ((rd a3 a2) / 2 ^ min (an).toNat 64) = ai := af;have hji26z : (an) ≤ 64 → ((rd a3 a2) / 2 ^ (an).toNat) = ai := shr_small af;replace H := dn H;obtain ⟨c27, H⟩ := H;have bk := decide_eq_true c27;clear c27;obtain ⟨ac, av⟩ : ∃ y_ : List Int, y_ = (a4.set (a2 : Int).toNat (ai)) := ⟨_, rfl⟩;(first | replace H := zRb av H | rw [← av] at H | skip);have aw := zA av;clear av
    by_cases c29 : (an) > 0
    ·rw [if_pos c29] at H;have aS := decide_eq_true c29;clear c29
     by_cases c30 : (wrap64 (a2 + 1)) < (a3.length : Int)
     ·rw [if_pos c30] at H;have aN := decide_eq_true c30;clear c30;generalize ao : wrap64 (a2 + 1) = ag at H;(try rw [ao] at aN);have hji31w : (IntKind.i64.wrap (a2 + 1)) = ag := (i64_w _).trans ao;replace H := dn H;obtain ⟨c32, H⟩ := H;have bl := decide_eq_true c32;clear c32;generalize ax : wrap64 (64 - (an)) = aE at H;have hji33w : (IntKind.i64.wrap (64 - (an))) = aE := (i64_w _).trans ax;replace H := dn H;obtain ⟨c34, H⟩ := H;have bm := eq_true c34;have bn := decide_eq_true c34;clear c34;generalize ay : shl .u64 (rd a3 (ag)) (aE) = ap at H;have hji35_ : (IntKind.u64.wrap ((rd a3 (ag)) * 2 ^ min (aE).toNat 64)) = ap := ay;have hji35z : (aE) ≤ 64 → (IntKind.u64.wrap ((rd a3 (ag)) * 2 ^ (aE).toNat)) = ap := shl_small ay;obtain ⟨aZ, aA⟩ : ∃ y_ : List Int, y_ = (ac.set (a2 : Int).toNat (Go.bits .or .u64 (rd ac a2) (ap))) := ⟨_, rfl⟩;(first | replace H := zRb aA H | rw [← aA] at H | skip);have aT := zA aA;clear aA;have H' := zA H;clear H;have p127 : 0 ≤ (a2 : Int) := od;have q127 : a2 < (a3.length : Int) := od;obtain ⟨ad127, e127, aF⟩ := Kd.at_int (V_reads' a6.out).2.2 a2 p127 q127;cases e127;replace p127 := eq_true p127;replace q127 := eq_true q127;have p28 : 0 ≤ (a2 : Int) := od;have q28 : (a2 : Int) < ((a4.length : Int) : Int) := od;obtain ⟨go28, a7, al, am, gl28, cl28, HG28⟩ := R_form a5.out (by omega)
      (first | cases al | (injection al with ea_ en_ ec_; (first | subst ea_ | (injection ea_ with ea_; subst ea_)); subst ec_; clear en_))
      have GB28 := zA am;have GG28 := zA HG28;clear am gl28 HG28;obtain ⟨aI, hf28_0⟩ := R_celln 0 a5.out (a2 : Int) p28 q28;replace p28 := eq_true p28;replace q28 := eq_true q28;have HP37 := R_putg a5.out (a2 : Int) ai
      try go_wp2_with (first | ((with_reducible refine gate_store (t := 22) (p := 47) rfl ?_); refine store_event (t := 22) (p := 47) (v := ?vo_w38) (w1 := (wr.setCell ⟨go28, (a2 : Int).toNat, none⟩ (.int .u64 ai))) ?hg ?ho ?hn ?hr ?_; (case ho => rfl); (case hg => rfl); (case hn => rfl); (case hr => first | (go_simp; done) | (go_simp; rfl)); intro w38 hw; have hg : wr.grownBy w38 (some go28) := (by rw [hw]; exact HP37.2); have hp_ : Kd.R Zu 22 w38 w.heap.size (fun k_ => (w.heap.size ≤ k_)) (.slice (some ⟨go28, 0, none⟩) a4.length a7) ac := (by rw [hw, aw.out]; exact HP37.1); clear HP37; replace aa := zA (V_afterv (v := (.slice (some ⟨go28, 0, none⟩) a4.length a7)) (v1 := (.slice (some ⟨go28, 0, none⟩) a4.length a7)) (ok := (fun k_ => (P0_ k_ ∨ w.heap.size ≤ k_))) (vu aa.out) hg (.inl rfl)); replace a5 := zA (hp_); replace a6 := zA (V_afterv (v := (.slice (some ⟨go28, 0, none⟩) a4.length a7)) (v1 := (.slice (some ⟨go28, 0, none⟩) a4.length a7)) (ok := (fun k_ => (P0_ k_ ∨ w.heap.size ≤ k_))) (vu a6.out) hg (.inl rfl)); replace HB := zA ((by rw [hw]; exact below_set (HB.out) GB28.out : Below w.heap.size w w38)); clear hg hw hp_))
      replace aa := zA (V_drew aa.out);replace a5 := zA (R_drew a5.out);replace a6 := zA (V_drew a6.out);replace HB := zA (below_drew1 HB.out);have p129 : 0 ≤ (a2 : Int) := od;have q129 : a2 < (ac.length : Int) := (by have h_ : (a2 : Int) < ((a4.length : Int) : Int) := od; first | (have e_ := (R_reads' a5.out).1; omega) | simpa only [aw.out, List.length_set] using h_);have ql129 : ((a2 : Int) < ((a4.length : Int) : Int)) = True := eq_true (od);obtain ⟨ad129, e129, ah⟩ := Kd.at_int (R_reads' a5.out).2.2 a2 p129 q129;obtain rfl : (⟨go28, 0, none⟩ : Addr) = ad129 := (by injection e129)
      (first | simp only [add_plain] at ah | simp only [add_at] at ah | simp only [Addr.add, Nat.zero_add] at ah | skip)
      replace p129 := eq_true p129;replace q129 := eq_true q129;have p130 : 0 ≤ ((ag) : Int) := od;have q130 : (ag) < (a3.length : Int) := od;obtain ⟨ad130, e130, aG⟩ := Kd.at_int (V_reads' aa.out).2.2 (ag) p130 q130;obtain rfl : ad127 = ad130 := (by injection e130);replace p130 := eq_true p130;replace q130 := eq_true q130;have p36 : 0 ≤ (a2 : Int) := od;have q36 : (a2 : Int) < ((a4.length : Int) : Int) := od;obtain ⟨aP, hf36_0⟩ := R_celln 0 a5.out (a2 : Int) p36 q36;replace p36 := eq_true p36;replace q36 := eq_true q36;have HP40 := R_putn a5.out (a2 : Int) (Go.bits .or .u64 (rd ac a2) (ap));rw [← aT.out] at HP40;have HQ40 := zA HP40;clear HP40;refine start_ (n := 15) (S := fun w' => w'.cell? ⟨go28, (a2).toNat, none⟩ = some (.int .u64 (rd ac a2)) ∧ w'.cell? (ad127.add ((ag)).toNat) = some (.int .u64 (rd a3 (ag)))) (ds := [14]) #[O, O, O, O, O, O, O, O, O, O, O, O, O, O, O] (by kernel_rfl) rfl rfl ⟨ah, aG⟩ (fun hHeld => ?_); refine with_tabW ZI.tab15 ZI.bits15 (fun HT_ HW_ => ?_);generalize w38.drew = w39 at aa a5 a6 HB HQ40 hf36_0 ah aG aP hHeld ⊢;refine zP 0 57 #[I, O, O, O, O, O, O, O, O, O, O, O, O, O, O] ?_;refine zP 1 58 #[I, I, O, O, O, O, O, O, O, O, O, O, O, O, O] ?_;refine zP 2 59 #[I, I, I, O, O, O, O, O, O, O, O, O, O, O, O] ?_;refine zP 4 61 #[I, I, I, O, I, O, O, O, O, O, O, O, O, O, O] ?_;refine zP 5 62 #[I, I, I, O, I, I, O, O, O, O, O, O, O, O, O] ?_;refine zP 6 63 #[I, I, I, O, I, I, I, O, O, O, O, O, O, O, O] ?_;refine zP 7 64 #[I, I, I, O, I, I, I, I, O, O, O, O, O, O, O] ?_;refine zP 9 66 #[I, I, I, O, I, I, I, I, O, I, O, O, O, O, O] ?_;refine zP 10 67 #[I, I, I, O, I, I, I, I, O, I, I, O, O, O, O] ?_;refine zT 3 60 #[I, I, I, I, I, I, I, I, O, I, I, O, O, O, O] ?_;refine zT 8 65 #[I, I, I, I, I, I, I, I, I, I, I, O, O, O, O] ?_;refine zP 11 68 #[I, I, I, I, I, I, I, I, I, I, I, I, O, O, O] ?_;refine zP 12 69 #[I, I, I, I, I, I, I, I, I, I, I, I, I, O, O] ?_;refine zP 13 70 #[I, I, I, I, I, I, I, I, I, I, I, I, I, I, O] ?_;refine last_ (i := 14) (N := none) #[I, I, I, I, I, I, I, I, I, I, I, I, I, I, I] rfl rfl (one_of HT_.out (by kernel_rfl)) (by decide) (fun K hK => ?_);refine skip_ (w1 := ?_) (by rfl) rfl ?_ ?_;rotate_left;·go_simp;rfl
      refine hK.out _ _ ?_;clear hK K;refine done_ (done_of HT_.out (by kernel_rfl)) ?_
      try go_wp2
      (try simp only [← ad, ← ax])
      go_roundg k1
      case measure => have := HK1.out; omega
      case rel => exact ⟨(aZ), (ag), (by first | rfl | (simp; done) | (simp only [← ao] <;> (first | rfl | simp)) | (simp [*]; done)), (by first | exact H' | (simp only [ab, ad, af, ao, ax, ay]; exact H') | (simp only [ab, ad, af, ao, ax, ay] at H' ⊢; exact H')), ⟨by have := HK1.out; omega⟩, ⟨vu (V_mono (V_far (p := ⟨go28, (a2 : Int).toNat, none⟩) (V_mono aa.out (fun k_ hk => (⟨hk, fun e_ => hk.2 (by rw [e_]; rfl)⟩ : _ ∧ k_ ≠ go28))) (fun _ hk => hk.2) (.int .u64 (Go.bits .or .u64 (rd ac a2) (ap)))) (fun _ hk => ⟨hk.1.1, hk.1.2⟩))⟩, ⟨ru HQ40.out⟩, ⟨vu (V_mono (V_far (p := ⟨go28, (a2 : Int).toNat, none⟩) (V_mono a6.out (fun k_ hk => (⟨hk, fun e_ => hk.2 (by rw [e_]; rfl)⟩ : _ ∧ k_ ≠ go28))) (fun _ hk => hk.2) (.int .u64 (Go.bits .or .u64 (rd ac a2) (ap)))) (fun _ hk => ⟨hk.1.1, hk.1.2⟩))⟩, ⟨by repeat (first | (with_reducible first | exact HB.out | apply below_alloc | apply pw_below_drewN | apply below_drew1 | refine below_set ?_ GB28.out) | exact HB.out)⟩⟩
     rw [if_neg c30] at H;have aN := decide_eq_false c30;clear c30;have H' := zA H;clear H;have p127 : 0 ≤ (a2 : Int) := od;have q127 : a2 < (a3.length : Int) := od;obtain ⟨ad127, e127, aF⟩ := Kd.at_int (V_reads' a6.out).2.2 a2 p127 q127;cases e127;replace p127 := eq_true p127;replace q127 := eq_true q127;have p28 : 0 ≤ (a2 : Int) := od;have q28 : (a2 : Int) < ((a4.length : Int) : Int) := od;obtain ⟨go28, a7, al, am, gl28, cl28, HG28⟩ := R_form a5.out (by omega)
     (first | cases al | (injection al with ea_ en_ ec_; (first | subst ea_ | (injection ea_ with ea_; subst ea_)); subst ec_; clear en_))
     have GB28 := zA am;have GG28 := zA HG28;clear am gl28 HG28;obtain ⟨aI, hf28_0⟩ := R_celln 0 a5.out (a2 : Int) p28 q28;replace p28 := eq_true p28;replace q28 := eq_true q28;have HP41 := R_putg a5.out (a2 : Int) ai
     go_wp2_with (first | ((with_reducible refine gate_store (t := 22) (p := 47) rfl ?_); refine store_event (t := 22) (p := 47) (v := ?vo_w42) (w1 := (wr.setCell ⟨go28, (a2 : Int).toNat, none⟩ (.int .u64 ai))) ?hg ?ho ?hn ?hr ?_; (case ho => rfl); (case hg => rfl); (case hn => rfl); (case hr => first | (go_simp; done) | (go_simp; rfl)); intro w42 hw; have hg : wr.grownBy w42 (some go28) := (by rw [hw]; exact HP41.2); have hp_ : Kd.R Zu 22 w42 w.heap.size (fun k_ => (w.heap.size ≤ k_)) (.slice (some ⟨go28, 0, none⟩) a4.length a7) ac := (by rw [hw, aw.out]; exact HP41.1); clear HP41; replace aa := zA (V_afterv (v := (.slice (some ⟨go28, 0, none⟩) a4.length a7)) (v1 := (.slice (some ⟨go28, 0, none⟩) a4.length a7)) (ok := (fun k_ => (P0_ k_ ∨ w.heap.size ≤ k_))) (vu aa.out) hg (.inl rfl)); replace a5 := zA (hp_); replace a6 := zA (V_afterv (v := (.slice (some ⟨go28, 0, none⟩) a4.length a7)) (v1 := (.slice (some ⟨go28, 0, none⟩) a4.length a7)) (ok := (fun k_ => (P0_ k_ ∨ w.heap.size ≤ k_))) (vu a6.out) hg (.inl rfl)); replace HB := zA ((by rw [hw]; exact below_set (HB.out) GB28.out : Below w.heap.size w w42)); clear hg hw hp_))
     (try simp only [← ad])
     go_roundg k1
     case measure => have := HK1.out; omega
     case rel => exact ⟨(ac), (wrap64 (a2 + 1)), zi, (by first | exact H' | (simp only [ab, ad, af]; exact H') | (simp only [ab, ad, af] at H' ⊢; exact H')), ⟨by have := HK1.out; omega⟩, ⟨vu aa.out⟩, ⟨ru a5.out⟩, ⟨vu a6.out⟩, ⟨bq⟩⟩
    rw [if_neg c29] at H;have aS := decide_eq_false c29;clear c29;have H' := zA H;clear H;have p127 : 0 ≤ (a2 : Int) := od;have q127 : a2 < (a3.length : Int) := od;obtain ⟨ad127, e127, aF⟩ := Kd.at_int (V_reads' a6.out).2.2 a2 p127 q127;cases e127;replace p127 := eq_true p127;replace q127 := eq_true q127;have p28 : 0 ≤ (a2 : Int) := od;have q28 : (a2 : Int) < ((a4.length : Int) : Int) := od;obtain ⟨go28, a7, al, am, gl28, cl28, HG28⟩ := R_form a5.out (by omega)
    (first | cases al | (injection al with ea_ en_ ec_; (first | subst ea_ | (injection ea_ with ea_; subst ea_)); subst ec_; clear en_))
    have GB28 := zA am;have GG28 := zA HG28;clear am gl28 HG28;obtain ⟨aI, hf28_0⟩ := R_celln 0 a5.out (a2 : Int) p28 q28;replace p28 := eq_true p28;replace q28 := eq_true q28;have HP43 := R_putg a5.out (a2 : Int) ai
    go_wp2_with (first | ((with_reducible refine gate_store (t := 22) (p := 47) rfl ?_); refine store_event (t := 22) (p := 47) (v := ?vo_w44) (w1 := (wr.setCell ⟨go28, (a2 : Int).toNat, none⟩ (.int .u64 ai))) ?hg ?ho ?hn ?hr ?_; (case ho => rfl); (case hg => rfl); (case hn => rfl); (case hr => first | (go_simp; done) | (go_simp; rfl)); intro w44 hw; have hg : wr.grownBy w44 (some go28) := (by rw [hw]; exact HP43.2); have hp_ : Kd.R Zu 22 w44 w.heap.size (fun k_ => (w.heap.size ≤ k_)) (.slice (some ⟨go28, 0, none⟩) a4.length a7) ac := (by rw [hw, aw.out]; exact HP43.1); clear HP43; replace aa := zA (V_afterv (v := (.slice (some ⟨go28, 0, none⟩) a4.length a7)) (v1 := (.slice (some ⟨go28, 0, none⟩) a4.length a7)) (ok := (fun k_ => (P0_ k_ ∨ w.heap.size ≤ k_))) (vu aa.out) hg (.inl rfl)); replace a5 := zA (hp_); replace a6 := zA (V_afterv (v := (.slice (some ⟨go28, 0, none⟩) a4.length a7)) (v1 := (.slice (some ⟨go28, 0, none⟩) a4.length a7)) (ok := (fun k_ => (P0_ k_ ∨ w.heap.size ≤ k_))) (vu a6.out) hg (.inl rfl)); replace HB := zA ((by rw [hw]; exact below_set (HB.out) GB28.out : Below w.heap.size w w44)); clear hg hw hp_))
    (try simp only [← ad])
    go_roundg k1
    case measure => have := HK1.out; omega
    case rel => exact ⟨(ac), (wrap64 (a2 + 1)), zi, (by first | exact H' | (simp only [ab, ad, af]; exact H') | (simp only [ab, ad, af] at H' ⊢; exact H')), ⟨by have := HK1.out; omega⟩, ⟨vu aa.out⟩, ⟨ru a5.out⟩, ⟨vu a6.out⟩, ⟨bq⟩⟩
   rw [if_neg c21] at H;have aR := decide_eq_false c21;clear c21;obtain ⟨b1, b6, H⟩ := zh H;simp only [Option.some.injEq, Prod.mk.injEq] at H;obtain ⟨rfl, rfl⟩ := H;obtain ⟨b2, b3, b4⟩ := R_slice a5.out;subst b4
   go_wp2_with (first | ((with_reducible refine zG 145 rfl ?_); refine zC (some 73) Tryz.func145 (Z5.calls k1 (fun k_ => some k_ = (.slice b2 a4.length b3 : Value).ownBlock) _ _ a4 b1 _ (R_V (R_tight rfl (a5.out))) b6.out) ?_; rintro e w47 ⟨v133, rfl, aB, hb⟩; refine ⟨_, rfl, ?_⟩; replace aa := zA (V_below (vu aa.out) hb); replace a6 := zA (V_below (vu a6.out) hb); have aU := zA (V_lower (V_mono (ok' := fun k_ => (P0_ k_ ∨ w.heap.size ≤ k_)) aB (fun k_ hk_ => Or.elim hk_ (fun hs_ => (.inr (((a5.out).1 k_ hs_.symm)))) (fun hn_ => (.inr (Nat.le_trans (below_size bq) hn_))))) (below_size bq)); replace a5 := zA (R_below (ru a5.out) hb); replace HB := ze hb))
   go_ret2
   exact ⟨_, by first | rfl | (simp [errW_none, errW_some] <;> rfl) | (simp only [← ab]; first | rfl | (simp [errW_none, errW_some] <;> rfl)) | (simp [*, errW_none, errW_some] <;> rfl), vu aU.out, bq⟩
def Z0m.f (k : Nat) (a0 : Bool) (l1 : List Int) (a2 : Int) : Option (Bool × List Int × Int) := (Z5.f k l1).bind fun a1 => (if (a1.length : Int) = 0 then (some (false, ([] : List Int), 0)) else ((Z00.f k a1).bind fun a3 => ((ZI.f k a1 a3).bind fun a4 => (some (a0, a4.1, wrap64 (a2 + a3))))))
theorem Z0m.calls (k : Nat) (a0 : Bool) (P1_ : Nat → Prop) (A1 : Option Addr) (c1 : Nat) (l1 : List Int) (a2 : Int) (r1 : Bool) (r2 : List Int) (r3 : Int) (w : World) (hs1 : Kd.V Zu 22 w w.heap.size (fun k_ => P1_ k_) (.slice A1 l1.length c1) l1) (hT : Laid w) (h : Z0m.f k a0 l1 a2 = some (r1, r2, r3)) :
  Calls Tryz.prog 114 #[.bool a0, .slice A1 l1.length c1, .int .i64 a2] w fun e w' => ∃ v1_ : Value, e = .returned (.agg #[.bool r1, v1_, .int .i64 r3]) ∧ Kd.V Zu 22 w' w.heap.size (fun k_ => (P1_ k_ ∨ w.heap.size ≤ k_)) v1_ r2 ∧ Below w.heap.size w w' := by
 have hu34 := Tryz.underlying34;have a5 := zA (show Kd.V Zu 22 w w.heap.size (fun k_ => (P1_ k_ ∨ w.heap.size ≤ k_)) (.slice A1 l1.length c1) l1 from V_mono hs1 (fun k_ hk => .inl hk));have HB := zA (Below.refl w.heap.size w);have H := h
 unfold Z0m.f at H
 clear h;obtain ⟨a6, A4, H⟩ := zh H
 by_cases c5 : (a6.length : Int) = 0
 rw [if_pos c5] at H;have ad := beq_iff_eq.mpr c5;have ae := bne_eq_false_iff_eq.mpr c5;clear c5;rotate_left;rw [if_neg c5] at H;have ad := beq_eq_false_iff_ne.mpr c5;have ae := bne_iff_ne.mpr c5
 have aC : ¬ (a6 = []) := fun h_ => c5 (by rw [h_]; rfl)
 obtain ⟨a7, an, H⟩ := zh H;obtain ⟨⟨a8, af⟩, ao, H⟩ := zh H;(try dsimp only at H);rotate_left
 all_goals
  simp only [Option.some.injEq, Prod.mk.injEq] at H;obtain ⟨rfl, rfl, rfl⟩ := H;go_enter Tryz.func114, Tryz.ntmps114
  go_wp2_with (first | ((with_reducible refine zD 6 rfl ?_); refine zn (N := 6) (cs := #[.bool false, .slice none 0 0, .int .i64 0]) (t := 34) rfl rfl ?_; intro a1 hg w6 hbox hb; replace a5 := zA (V_below (V_elderB (vu a5.out) a1 (Nat.le_of_eq hg.symm)) hb); have a3 := zA (hbox); have aB := zw hg; replace HB := ze hb; clear hb hbox hg) | ((with_reducible refine zG 145 rfl ?_); refine zC (some 11) Tryz.func145 (Z5.calls k (fun k_ => ((P1_ k_ ∨ w.heap.size ≤ k_) ∧ k_ ≠ a1)) _ _ l1 a6 _ (a5.out) A4.out) ?_; rintro e w7 ⟨v137, rfl, aa, hb⟩; refine ⟨_, rfl, ?_⟩; replace a5 := zA (V_below (vu a5.out) hb); have a4 := zA (V_lower (V_mono (ok' := fun k_ => (P1_ k_ ∨ w.heap.size ≤ k_) ∧ k_ ≠ a1) aa (fun k_ hk_ => ⟨Or.elim hk_ (fun hs_ => hs_.1) (fun hn_ => (.inr (Nat.le_trans (below_size zs) hn_))), Or.elim hk_ (fun hs_ => hs_.2) (fun hn_ => (zj a3 k_ hn_))⟩)) (below_size zs)); replace a3 := zb a3 hb; replace HB := zf hb; obtain ⟨ap, aq, ar⟩ := V_slice a4.out; subst ar; (try (obtain ⟨au, av, aw, ax, ay, aA⟩ := zc a3))) | ((with_reducible refine zG 150 rfl ?_); refine zC (some 17) Tryz.func150 (Z00.calls k _ _ a6 a7 _ (zk (V_reads' a4.out).2.2) ((V_reads' a4.out).2.1) (laid_below hT zs) an.out) ?_; rintro e w' ⟨rfl, ⟨nd, rfl⟩⟩; refine ⟨_, rfl, ?_⟩; (try (rw [drewN_self w7]; generalize hq_ : World.drewN w7 _ = w7; have n0_ : Aside0 (Kd.V Zu 22 w7 w.heap.size (fun k_ => (P1_ k_ ∨ w.heap.size ≤ k_) ∧ k_ ≠ a1) (.slice A1 l1.length c1) l1) := ⟨by rw [← hq_]; exact (vu a5.out)⟩; have n1_ : Aside0 (Kd.V Zu 22 w7 w.heap.size (fun k_ => (P1_ k_ ∨ w.heap.size ≤ k_) ∧ k_ ≠ a1) (.slice ap a6.length aq) a6) := ⟨by rw [← hq_]; exact (vu a4.out)⟩; have n2_ : Aside0 (w7.heap[a1]? = some (.cells #[.bool false, .slice none 0 0, .int .i64 0] 34 (0, 0))) := ⟨by rw [← hq_]; exact (zu a3)⟩; have n3_ : Aside0 (Below w.heap.size w w7) := ⟨by rw [← hq_]; exact zs⟩; clear a5 a4 a3 HB hq_; have a5 := n0_; have a4 := n1_; have a3 := n2_; have HB := n3_; clear n0_ n1_ n2_ n3_))) | ((with_reducible refine zG 151 rfl ?_); refine zC (some 21) Tryz.func151 (ZI.calls k (fun k_ => ((P1_ k_ ∨ w.heap.size ≤ k_) ∧ k_ ≠ a1)) _ _ a6 a7 a8 af _ (a4.out) (laid_below hT zs) ao.out) ?_; rintro e w15 ⟨v141, rfl, aa, hb⟩; refine ⟨_, rfl, ?_⟩; replace a5 := zA (V_below (vu a5.out) hb); replace a4 := zA (V_below (vu a4.out) hb); have a9 := zA (V_lower (V_mono (ok' := fun k_ => (P1_ k_ ∨ w.heap.size ≤ k_) ∧ k_ ≠ a1) aa (fun k_ hk_ => ⟨Or.elim hk_ (fun hs_ => hs_.1) (fun hn_ => (.inr (Nat.le_trans (below_size zs) hn_))), Or.elim hk_ (fun hs_ => hs_.2) (fun hn_ => (zj a3 k_ hn_))⟩)) (below_size zs)); replace a3 := zb a3 hb; replace HB := zf hb; obtain ⟨ab, ac, ag⟩ := V_slice a9.out; subst ag; obtain ⟨ah, ai, aj, ak, al, am⟩ := zc a3))
 ·refine bodyPost_ret (results_cell_row rfl _ _ a1 34 #[.bool false, .slice none 0 0, .int .i64 0] (0, 0) _ rfl (zy a3) Tryz.underlying34 rfl (by kernel_rfl)) rfl ?_;exact ⟨_, er, V_nil _ _ _ _ _, zs⟩
 refine bodyPost_ret (results_cell_row rfl _ _ a1 34 #[.bool a0, .slice ab a8.length ac, .int .i64 (wrap64 (a2 + a7))] (0, 0) _ rfl (zy a3) Tryz.underlying34 rfl (by kernel_rfl)) rfl ?_;exact ⟨_, er, vu (V_mono (V_far (p := ⟨a1, 2, none⟩) (V_far (p := ⟨a1, 1, none⟩) (V_far (p := ⟨a1, 0, none⟩) (V_mono a9.out (fun k_ hk => (⟨hk, hk.2⟩ : _ ∧ k_ ≠ a1))) (fun _ hk => hk.2) (.bool a0)) (fun _ hk => hk.2) (.slice ab a8.length ac)) (fun _ hk => hk.2) (.int .i64 (wrap64 (a2 + a7)))) (fun _ hk => hk.1.1)), zs⟩
def Z1w.f (k : Nat) (a0 : Int) : Option (Bool × List Int × Int × Int) := if (wrap64 (Go.bits .and .u64 (a0 / 4503599627370496) 2047)) = 2047 then (some (false, ([] : List Int), 0, 5)) else (if (wrap64 (Go.bits .and .u64 (a0 / 4503599627370496) 2047)) = 0 then ((Z0m.f k ((a0 / 9223372036854775808) == 1) (([Go.bits .and .u64 a0 4503599627370495] : List Int)) (1 - 1075)).bind fun a1 => (some (a1.1, a1.2.1, a1.2.2, 0))) else ((Z0m.f k ((a0 / 9223372036854775808) == 1) (([Go.bits .or .u64 (Go.bits .and .u64 a0 4503599627370495) 4503599627370496] : List Int)) (wrap64 ((wrap64 (Go.bits .and .u64 (a0 / 4503599627370496) 2047)) - 1075))).bind fun a2 => (some (a2.1, a2.2.1, a2.2.2, 0))))
theorem Z1w.calls (k : Nat) (a0 : Int) (r1 : Bool) (r2 : List Int) (r3 : Int) (r4 : Int) (w : World) (hT : Laid w) (h : Z1w.f k a0 = some (r1, r2, r3, r4)) :
  Calls Tryz.prog 79 #[.int .u64 a0] w fun e w' => ∃ v1_ : Value, e = .returned (.tuple #[.agg #[.bool r1, v1_, .int .i64 r3], .int .i64 r4]) ∧ Kd.V Zu 22 w' w.heap.size (fun k_ => (w.heap.size ≤ k_)) v1_ r2 ∧ Below w.heap.size w w' := by
 have hu34 := Tryz.underlying34;have HB := zA (Below.refl w.heap.size w);have H := h
 unfold Z1w.f at H
 clear h
 by_cases c2 : (wrap64 (Go.bits .and .u64 (a0 / 4503599627370496) 2047)) = 2047
 rw [if_pos c2] at H;have ai := beq_iff_eq.mpr c2;have aj := bne_eq_false_iff_eq.mpr c2;clear c2;rotate_left;rw [if_neg c2] at H;have ai := beq_eq_false_iff_ne.mpr c2;have aj := bne_iff_ne.mpr c2
 by_cases c5 : (wrap64 (Go.bits .and .u64 (a0 / 4503599627370496) 2047)) = 0
 rw [if_pos c5] at H;have ak := beq_iff_eq.mpr c5;have al := bne_eq_false_iff_eq.mpr c5;clear c5;obtain ⟨af, a2⟩ : ∃ y_ : List Int, y_ = (([Go.bits .and .u64 a0 4503599627370495] : List Int)) := ⟨_, rfl⟩;(first | replace H := zRb a2 H | rw [← a2] at H | skip);have a6 := zA a2;clear a2;obtain ⟨⟨a8, a9, aa⟩, A6, H⟩ := zh H;(try dsimp only at H);rotate_left;rw [if_neg c5] at H;have ak := beq_eq_false_iff_ne.mpr c5;have al := bne_iff_ne.mpr c5;obtain ⟨ag, a2⟩ : ∃ y_ : List Int, y_ = (([Go.bits .or .u64 (Go.bits .and .u64 a0 4503599627370495) 4503599627370496] : List Int)) := ⟨_, rfl⟩;(first | replace H := zRb a2 H | rw [← a2] at H | skip);have a6 := zA a2;clear a2;obtain ⟨⟨a8, a9, aa⟩, A6, H⟩ := zh H;(try dsimp only at H);rotate_left
 all_goals
  simp only [Option.some.injEq, Prod.mk.injEq] at H;obtain ⟨rfl, rfl, rfl, rfl⟩ := H;go_enter Tryz.func79, Tryz.ntmps79
  go_wp2_with (first | ((with_reducible refine zD 2 rfl ?_); refine zn (N := 2) (cs := #[.bool false, .slice none 0 0, .int .i64 0]) (t := 34) rfl rfl ?_; intro a3 hg w3 hbox hb; have a1 := zA (hbox); have aJ := zw hg; replace HB := ze hb; clear hb hbox hg; (try (obtain ⟨_, _, _, _, _, _⟩ := zc a1))) | ((with_reducible refine zD 24 rfl ?_); refine R_lit Zu _ 22 ?hg (N := 24) ?hd (xs := ([Go.bits .and .u64 a0 4503599627370495] : List Int)) (inner := [.int .u64 (Go.bits .and .u64 a0 4503599627370495)]) (ok := fun _ => True) (okp := fun _ => True) ?hr ?hp (fun _ hk => hk) trivial (Below.refl _ _) (Nat.le_refl _) (by simp) ?_; (case hd => rfl); (case hg => rfl); (case hr => first | (go_simp; done) | (go_simp; rfl)); (case hp => exact (Reps.one (show Kd.M Zu _ _ _ (Go.bits .and .u64 a0 4503599627370495) [.int .u64 (Go.bits .and .u64 a0 4503599627370495)] from rfl) (Reps.none _ _))); intro v146 w8 ac hb hg_ hnew_; clear hg_ hnew_; (first | rw [← a6.out] at ac | (simp only [Int.reduceToNat] at ac; rw [← a6.out] at ac)); have a4 := zA (R_lower (R_newM (M := fun k_ => (w.heap.size ≤ k_)) ac (below_size zs) (fun k_ h_ => h_)) (below_size zs)); replace a1 := zb a1 hb; replace HB := zf hb; clear hb ac; obtain ⟨am, an, ao⟩ := R_slice a4.out; subst ao) | ((with_reducible refine zG 114 rfl ?_); refine zC (some 27) Tryz.func114 (Z0m.calls k ((a0 / 9223372036854775808) == 1) (fun k_ => some k_ = (.slice am af.length an : Value).ownBlock) _ _ af (1 - 1075) a8 a9 aa _ (R_V (R_tight rfl (R_types (a4.out) a1.out (by decide)))) (laid_below hT zs) A6.out) ?_; rintro e w11 ⟨v150, rfl, ah, hb⟩; refine ⟨_, rfl, ?_⟩; have a7 := zA (V_lower (V_mono (ok' := fun k_ => (w.heap.size ≤ k_) ∧ k_ ≠ a3) ah (fun k_ hk_ => ⟨Or.elim hk_ (fun hs_ => ((R_types (a4.out) a1.out (by decide)).1 k_ hs_.symm).1.1) (fun hn_ => (Nat.le_trans (below_size zs) hn_)), Or.elim hk_ (fun hs_ => ((R_types (a4.out) a1.out (by decide)).1 k_ hs_.symm).2) (fun hn_ => (zj a1 k_ hn_))⟩)) (below_size zs)); replace a4 := zA (R_below (ru a4.out) hb); replace a1 := zb a1 hb; replace HB := zf hb; obtain ⟨aw, ax, ay, aA, aB, aC⟩ := zc a1; obtain ⟨ad, ae, ap⟩ := V_slice a7.out; subst ap) | ((with_reducible refine zD 24 rfl ?_); refine R_lit Zu _ 22 ?hg (N := 24) ?hd (xs := ([Go.bits .or .u64 (Go.bits .and .u64 a0 4503599627370495) 4503599627370496] : List Int)) (inner := [.int .u64 (Go.bits .or .u64 (Go.bits .and .u64 a0 4503599627370495) 4503599627370496)]) (ok := fun _ => True) (okp := fun _ => True) ?hr ?hp (fun _ hk => hk) trivial (Below.refl _ _) (Nat.le_refl _) (by simp) ?_; (case hd => rfl); (case hg => rfl); (case hr => first | (go_simp; done) | (go_simp; rfl)); (case hp => exact (Reps.one (show Kd.M Zu _ _ _ (Go.bits .or .u64 (Go.bits .and .u64 a0 4503599627370495) 4503599627370496) [.int .u64 (Go.bits .or .u64 (Go.bits .and .u64 a0 4503599627370495) 4503599627370496)] from rfl) (Reps.none _ _))); intro v154 w16 ab hb hg_ hnew_; clear hg_ hnew_; (first | rw [← a6.out] at ab | (simp only [Int.reduceToNat] at ab; rw [← a6.out] at ab)); have a5 := zA (R_lower (R_newM (M := fun k_ => (w.heap.size ≤ k_)) ab (below_size zs) (fun k_ h_ => h_)) (below_size zs)); replace a1 := zb a1 hb; replace HB := zf hb; clear hb ab; obtain ⟨aq, ar, au⟩ := R_slice a5.out; subst au) | ((with_reducible refine zG 114 rfl ?_); refine zC (some 27) Tryz.func114 (Z0m.calls k ((a0 / 9223372036854775808) == 1) (fun k_ => some k_ = (.slice aq ag.length ar : Value).ownBlock) _ _ ag (wrap64 ((wrap64 (Go.bits .and .u64 (a0 / 4503599627370496) 2047)) - 1075)) a8 a9 aa _ (R_V (R_tight rfl (R_types (a5.out) a1.out (by decide)))) (laid_below hT zs) A6.out) ?_; rintro e w19 ⟨v158, rfl, ah, hb⟩; refine ⟨_, rfl, ?_⟩; have a7 := zA (V_lower (V_mono (ok' := fun k_ => (w.heap.size ≤ k_) ∧ k_ ≠ a3) ah (fun k_ hk_ => ⟨Or.elim hk_ (fun hs_ => ((R_types (a5.out) a1.out (by decide)).1 k_ hs_.symm).1.1) (fun hn_ => (Nat.le_trans (below_size zs) hn_)), Or.elim hk_ (fun hs_ => ((R_types (a5.out) a1.out (by decide)).1 k_ hs_.symm).2) (fun hn_ => (zj a1 k_ hn_))⟩)) (below_size zs)); replace a5 := zA (R_below (ru a5.out) hb); replace a1 := zb a1 hb; replace HB := zf hb; obtain ⟨aD, aE, aF, aG, aH, aI⟩ := zc a1; obtain ⟨ad, ae, av⟩ := V_slice a7.out; subst av))
 ·refine bodyPost_ret (results_ct rfl _ _ a3 34 #[.bool false, .slice none 0 0, .int .i64 0] (0, 0) _ rfl (zy a1) Tryz.underlying34 rfl (by kernel_rfl)) rfl ?_;exact ⟨_, er, V_nil _ _ _ _ _, zs⟩
 ·refine bodyPost_ret (results_ct rfl _ _ a3 34 #[.bool a8, .slice ad a9.length ae, .int .i64 aa] (0, 0) _ rfl (zy a1) Tryz.underlying34 rfl (by kernel_rfl)) rfl ?_;exact ⟨_, er, vu (V_mono (zv a3 (V_mono a7.out (fun k_ hk => (⟨hk, hk.2⟩ : _ ∧ k_ ≠ a3))) (fun _ hk => hk.2) _ _ _) (fun _ hk => hk.1.1)), zs⟩
 refine bodyPost_ret (results_ct rfl _ _ a3 34 #[.bool a8, .slice ad a9.length ae, .int .i64 aa] (0, 0) _ rfl (zy a1) Tryz.underlying34 rfl (by kernel_rfl)) rfl ?_;exact ⟨_, er, vu (V_mono (zv a3 (V_mono a7.out (fun k_ hk => (⟨hk, hk.2⟩ : _ ∧ k_ ≠ a3))) (fun _ hk => hk.2) _ _ _) (fun _ hk => hk.1.1)), zs⟩
end Go.Proofs.YtjnfipkbgmdpaaaGreatDoor.PAll
