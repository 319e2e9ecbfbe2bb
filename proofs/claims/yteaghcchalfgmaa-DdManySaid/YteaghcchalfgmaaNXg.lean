/- Which pairs may be reckoned with, walked: the code's Right and the document's. -/
import Derived.Test.YteaghcchalfgmaaNXe
import Derived.Test.YteaghcchalfgmaaNXf
namespace Go.Proofs.Yteaghcchalfgmaa.PAll
open Go.RowKit Go.Proofs.YteaghcchalfgmaaW.PrintWords Go.Proofs.YteaghcchalfgmaaW.PrintLast Go.Proofs.YteaghcchalfgmaaW.PrintMore
open Go.Proofs.Yteaghcchalfgmaa.Nm
set_option linter.unusedVariables false
set_option linter.unusedSimpArgs false
attribute [local go_sem] run_store_float

theorem gate_calls {P : Program} {f : FuncId} {args : Array Value} {w : World} {Q : Ending → World → Prop} (h : Calls P f args w Q) : Calls P f args w Q := h
theorem ext32 (b : Nat) (w : World) : (callFunc 32 #[.float .f64 b]).run Try.prog w = .ok (.value (.int .u64 b)) w := by
  rw [run_callFunc_extern (e := Extern.MathFloatBits.float64bits) Try.func32 (by kernel_rfl) (by kernel_rfl) (by kernel_rfl) (by kernel_rfl)]
  rfl
theorem ext60 (n : Int) (w : World) : (callFunc 60 #[.int .u64 n]).run Try.prog w = .ok (.value (.float .f64 n.toNat)) w := by
  rw [run_callFunc_extern (e := Extern.MathFloatBits.float64frombits) Try.func60 (by kernel_rfl) (by kernel_rfl) (by kernel_rfl) (by kernel_rfl)]
  rfl
theorem un_neg {P : Program} (x : Nat) (w : World) : (Op.unary UnOp.neg (.float .f64 x)).run P w = .ok (.float .f64 (Op.negFloat .f64 x)) w := rfl
attribute [local go_sem] ext32 ext60 un_neg

theorem abs_bits {x : Nat} (hx : x < 18446744073709551616) : (bits .andNot .u64 (x : Int) 9223372036854775808).toNat = rg x := by
  have e : bits .andNot .u64 (x : Int) 9223372036854775808 = IntKind.u64.wrap (((BitVec.ofNat 64 x) &&& ~~~ (BitVec.ofNat 64 9223372036854775808)).toNat : Nat) := by
    show IntKind.u64.wrap (((BitVec.ofInt 64 (x : Int)) &&& ~~~ (BitVec.ofInt 64 ((9223372036854775808 : Nat) : Int))).toNat : Nat) = _
    rw [BitVec.ofInt_natCast, BitVec.ofInt_natCast]
  rw [e, BitVec.toNat_and, BitVec.toNat_not, BitVec.toNat_ofNat, BitVec.toNat_ofNat]
  have h1 : x % 2 ^ 64 = x := Nat.mod_eq_of_lt hx
  have h2 : (2 ^ 64 - 1 - 9223372036854775808 % 2 ^ 64 : Nat) = 2 ^ 63 - 1 := by decide
  rw [h1, h2, Nat.and_two_pow_sub_one_eq_mod]
  have h3 : x % 2 ^ 63 < 2 ^ 63 := Nat.mod_lt _ (by decide)
  have h4 : (2 : Nat) ^ 63 = 9223372036854775808 := rfl
  rw [h4] at h3 ⊢
  have h5 : IntKind.u64.wrap ((x % 9223372036854775808 : Nat) : Int) = ((x % 9223372036854775808 : Nat) : Int) := by
    simp only [IntKind.wrap, IntKind.bits, IntKind.signed]
    simp
    omega
  rw [h5]; rfl
theorem eqf (a b : Nat) (w : World) : (Op.equalIn 9999 24 (.float .f64 a) (.float .f64 b)).run Try.prog w = .ok (dOrd a b == some .eq) w := by kernel_rfl

set_option maxRecDepth 100000 in
theorem Abs_calls (x : Nat) (hx : x < 18446744073709551616) (w : World) :
    Calls Try.prog 46 #[.float .f64 x] w fun e w' => e = .returned (.float .f64 (rg x)) ∧ w' = w := by
  go_enter Try.func46, Try.ntmps46
  go_wp2
  rw [abs_bits hx]
  go_ret
  exact ⟨rfl, rfl⟩

set_option maxRecDepth 100000 in
theorem zero_calls (h l : Nat) (w : World) :
    Calls Try.prog 54 #[.agg #[.float .f64 h, .float .f64 l]] w fun e w' => e = .returned (.bool (decide (rg h = 0 ∧ rg l = 0))) ∧ Below w.heap.size w w' := by
  have hu48 := Try.underlying48
  have HB := Aside0.mk (Below.refl w.heap.size w)
  have z1 : ∀ (a : Nat) w, (Op.equalIn 9999 24 (.float .f64 a) (.float .f64 0)).run Try.prog w = .ok (decide (rg a = 0)) w := fun a w => by rw [eqf, isZ_iff]
  by_cases q1 : rg h = 0 <;> by_cases q2 : rg l = 0
  all_goals
    first | (rw [decide_eq_true (show rg h = 0 ∧ rg l = 0 from ⟨q1, q2⟩)]) | (rw [decide_eq_false (show ¬ (rg h = 0 ∧ rg l = 0) from fun e => by first | exact q1 e.1 | exact q2 e.2)])
  all_goals go_enter Try.func54, Try.ntmps54
  all_goals go_wp2_with (first | ((with_reducible refine gate_dst (N := 1) rfl ?_); refine box_event ?hg (N := 1) ?hd (cs := #[.float .f64 h, .float .f64 l]) (t := 48) ?hr ?_; (case hd => rfl); (case hg => rfl); (case hr => first | (go_simp; done) | (go_simp; rfl)); intro g hg w1 hbox hb; have m_HB := Aside0.mk (below_step HB.out hb); clear HB hb; have HB := m_HB; clear m_HB hg; obtain ⟨hc0, hc1, hf0, hf1⟩ := blk2 hbox) | (simp only [z1, q1, q2]; go_simp))
  all_goals go_ret
  all_goals exact ⟨rfl, HB.out⟩
end Go.Proofs.Yteaghcchalfgmaa.PAll
