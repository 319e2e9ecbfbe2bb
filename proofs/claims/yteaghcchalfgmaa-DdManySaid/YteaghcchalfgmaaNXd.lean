/- The steps over floats, walked. -/
import Derived.Test.YteaghcchalfgmaaPAllx0
import Derived.Test.YteaghcchalfgmaaNXc
namespace Go.Proofs.Yteaghcchalfgmaa.PAll
open Go.RowKit Go.Proofs.YteaghcchalfgmaaW.PrintWords Go.Proofs.YteaghcchalfgmaaW.PrintLast Go.Proofs.YteaghcchalfgmaaW.PrintMore
open Go.Proofs.Yteaghcchalfgmaa.Nm
set_option linter.unusedVariables false
set_option linter.unusedSimpArgs false

theorem opA {P : Program} {x y r : Nat} (h : fA x y = some r) : ∀ t w, (binOp .add t (.float .f64 x) (.float .f64 y)).run P w = .ok (.float .f64 r) w := fun t w => run_float_arith w .add t .f64 x y r h
theorem opS {P : Program} {x y r : Nat} (h : fS x y = some r) : ∀ t w, (binOp .sub t (.float .f64 x) (.float .f64 y)).run P w = .ok (.float .f64 r) w := fun t w => run_float_arith w .sub t .f64 x y r h
theorem opM {P : Program} {x y r : Nat} (h : fM x y = some r) : ∀ t w, (binOp .mul t (.float .f64 x) (.float .f64 y)).run P w = .ok (.float .f64 r) w := fun t w => run_float_arith w .mul t .f64 x y r h
theorem opD {P : Program} {x y r : Nat} (h : fD x y = some r) : ∀ t w, (binOp .quo t (.float .f64 x) (.float .f64 y)).run P w = .ok (.float .f64 r) w := fun t w => run_float_arith w .quo t .f64 x y r h

theorem run_store_float {P : Program} {w : World} {a : Addr} {m : Mode} (k : FloatKind) (b : Nat) : (store a (.float k b) m).run P w = stored P w a (.float k b) m := run_store P w a _ m rfl
theorem blk2 {w : World} {g t : Nat} {x y : Value} (h : w.heap[g]? = some (.cells #[x, y] t (0, 0))) : w.cell? ⟨g, 0, none⟩ = some x ∧ w.cell? ⟨g, 1, none⟩ = some y ∧ w.frozen? ⟨g, 0, none⟩ = false ∧ w.frozen? ⟨g, 1, none⟩ = false :=
  ⟨(blk_cell h 0).trans rfl, (blk_cell h 1).trans rfl, blk_frozen h 0, blk_frozen h 1⟩
section
variable {P : Program} {ops : Array Oper} {rest : List Oper} {o : Oper} {a : Act} {Q : Exit → Act → World → Prop}
/-- Two floats are stored into a block of two. -/
theorem stored2 {W : World} {g T : Nat} {c0 c1 x y : Value} (hB : W.heap[g]? = some (.cells #[c0, c1] T (0, 0))) (hgd : o.guard = none) {t : TypeId} {p : Tmp} {v : Operand} (ho : o.op = .store t (.tmp p) v) (hN : o.dst = none)
    (hrun : (execOp a.eval o).run P W = .ok .skip ((W.setCell ⟨g, 0, none⟩ x).setCell ⟨g, 1, none⟩ y))
    (h : ∀ w', w'.heap[g]? = some (.cells #[x, y] T (0, 0)) → (∀ k, k ≠ g → w'.heap[k]? = W.heap[k]?) → Below g W w' → wpList P ops Q rest a w') : wpList P ops Q (o :: rest) a W := by
  refine store_event hgd ho hN hrun ?_
  rintro w' rfl
  refine h _ ?_ (fun k hk => ?_) (((Below.refl g W).setCell (p := ⟨g, 0, none⟩) (Nat.le_refl _) x).setCell (p := ⟨g, 1, none⟩) (Nat.le_refl _) y)
  · refine blk_put (cs := #[x, c1]) ?_ 1 _ rfl
    exact blk_put hB 0 _ rfl
  · rw [Below.heap_setCell _ _ _ _ hk, Below.heap_setCell _ _ _ _ hk]
end

def fastG (a b : Nat) : Option (Nat × Nat) := (fastF a b).bind fun q => some q
theorem fastG_eq {a b s t : Nat} (h : fastF a b = some (s, t)) : fastG a b = some (s, t) := by unfold fastG; rw [h]; rfl
end Go.Proofs.Yteaghcchalfgmaa.PAll
