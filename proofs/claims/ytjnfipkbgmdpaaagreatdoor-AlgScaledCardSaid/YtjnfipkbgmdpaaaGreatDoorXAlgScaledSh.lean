/- Small words for printed texts: tactics that recur, as default arguments. -/
import Derived.Test.YtjnfipkbgmdpaaaGreatDoorXAlgScaledWEqStruct
import Derived.Test.YtjnfipkbgmdpaaaGreatDoorXAlgScaledWRepsOne
import Derived.Test.YtjnfipkbgmdpaaaGreatDoorXAlgScaledWInv
import Derived.Test.YtjnfipkbgmdpaaaGreatDoorXAlgScaledWGuard
import Derived.Test.YtjnfipkbgmdpaaaGreatDoorXAlgScaledWMore
namespace Go.Proofs.YtjnfipkbgmdpaaaGreatDoor.PAll
open Go.RowKit Go.Proofs.YtjnfipkbgmdpaaaGreatDoorW.PrintWords Go.Proofs.YtjnfipkbgmdpaaaGreatDoorW.PrintLast Go.Proofs.YtjnfipkbgmdpaaaGreatDoorW.PrintMore
theorem bq {B : Nat} {w w' : World} (h : Below B w w' := by repeat (first | (with_reducible first | exact HB.out | apply below_alloc | apply pw_below_drewN | apply below_drew1) | exact HB.out)) : Below B w w' := h
theorem ga {α : Type} {a b : α} (h : a = b := by (try simp only [List.map_toArray, List.map_cons, List.map_nil]); first | done | rfl | (simp only [List.length_drop, List.length_take]; rfl)) : a = b := h
theorem od {p : Prop} [Decidable p] (h : decide p = true := by first | (with_reducible assumption) | assumption) : p := of_decide_eq_true h
theorem er {α : Type} {a b : α} (h : a = b := by first | rfl | (simp [errW_none, errW_some] <;> rfl) | (simp [*, errW_none, errW_some] <;> rfl)) : a = b := h
theorem dn {α : Type} {P : Prop} [Decidable P] {a : Option α} {r : α} (h : (if P then a else none) = some r) : P ∧ a = some r := by
  by_cases c : P
  · rw [if_pos c] at h; exact ⟨c, h⟩
  · rw [if_neg c] at h; cases h
theorem ru {α : Type} {d : Kd α} {e : TypeId} {W W' : World} {base : Nat} {ok : Nat → Prop} {v : Value} {xs : List α} (h : Kd.R d e W base ok v xs) (g : Kd.R d e W base ok v xs → Kd.R d e W' base ok v xs := by (intro h_; (with_reducible repeat (first | apply Kd.R_alloc | apply Kd.R_drewN | apply Kd.R_drew)); exact h_)) : Kd.R d e W' base ok v xs := g h
theorem vu {α : Type} {d : Kd α} {e : TypeId} {W W' : World} {base : Nat} {ok : Nat → Prop} {v : Value} {xs : List α} (h : Kd.V d e W base ok v xs) (g : Kd.V d e W base ok v xs → Kd.V d e W' base ok v xs := by (intro h_; (with_reducible repeat (first | apply Kd.V_alloc | apply Kd.V_drewN | apply Kd.V_drew)); exact h_)) : Kd.V d e W' base ok v xs := g h
theorem zA {p : Prop} (h : p) : Aside0 p := ⟨h⟩
theorem zq {a b : Act} (h : a = b := by (simp only [Act.put, List.setIfInBounds_toArray, List.set_cons_zero, List.set_cons_succ, i64_w, i32_w]; rfl)) : a = b := h
theorem zk {α : Type} {d : Kd α} {W0 W : World} {A : Option Addr} {n : Nat} {xs : List α} (h : d.C W0 A n xs) (u : d.C W0 A n xs → d.C W A n xs := by (intro h_; repeat (first | exact h_ | (with_reducible refine Kd.C_alloc ?_ _) | (with_reducible refine Kd.C_drewN ?_ _) | (with_reducible refine Kd.C_drew ?_)))) : d.C W A n xs := u h
theorem zn {P : Program} {ops : Array Oper} {rest : List Oper} {o : Oper} {a : Act} {Q : Exit → Act → World → Prop} {W : World} {N : Tmp} {cs : Array Value} {t : TypeId} (hgd : o.guard = none) (hd : o.dst = some N)
    (h : ∀ g, g = W.heap.size → ∀ w1, w1.heap[g]? = some (.cells cs t (0, 0)) → Below W.heap.size W w1 → wpList P ops Q rest (a.put o.dst (.pointer (some ⟨g, 0, none⟩))) w1)
    (hrun : (execOp a.eval o).run P W = .ok (.value (.pointer (some ⟨W.heap.size, 0, none⟩))) (W.alloc (.cells cs t (0, 0))) := by first | (go_simp; done) | (go_simp; rfl)) : wpList P ops Q (o :: rest) a W := box_event hgd hd hrun h
theorem zp {W : World} {g : Nat} {t : TypeId} {a0 b0 c0 a b c : Value} (h : W.heap[g]? = some (.cells #[a0, b0, c0] t (0, 0))) : (((W.setCell ⟨g, 0, none⟩ a).setCell ⟨g, 1, none⟩ b).setCell ⟨g, 2, none⟩ c).heap[g]? = some (.cells #[a, b, c] t (0, 0)) :=
  blk_put (cs := #[a, b, c0]) (blk_put (cs := #[a, b0, c0]) (blk_put (cs := #[a0, b0, c0]) h 0 _ rfl) 1 _ rfl) 2 _ rfl
theorem zv {α : Type} {d : Kd α} {e base : Nat} {ok : Nat → Prop} {W : World} {v : Value} {xs : List α} (g : Nat) (h : Kd.V d e W base ok v xs) (hok : ∀ k, ok k → k ≠ g) (a b c : Value) : Kd.V d e (((W.setCell ⟨g, 0, none⟩ a).setCell ⟨g, 1, none⟩ b).setCell ⟨g, 2, none⟩ c) base ok v xs :=
  Kd.V_far (p := ⟨g, 2, none⟩) (Kd.V_far (p := ⟨g, 1, none⟩) (Kd.V_far (p := ⟨g, 0, none⟩) h hok a) hok b) hok c
theorem zr {α : Type} {d : Kd α} {e base : Nat} {ok : Nat → Prop} {W : World} {v : Value} {xs : List α} (g : Nat) (h : Kd.R d e W base ok v xs) (hok : ∀ k, ok k → k ≠ g) (a b c : Value) : Kd.R d e (((W.setCell ⟨g, 0, none⟩ a).setCell ⟨g, 1, none⟩ b).setCell ⟨g, 2, none⟩ c) base ok v xs :=
  Kd.R_far (p := ⟨g, 2, none⟩) (Kd.R_far (p := ⟨g, 1, none⟩) (Kd.R_far (p := ⟨g, 0, none⟩) h hok a) hok b) hok c
theorem zs {B : Nat} {w w' : World} (h : Below B w w' := by repeat (first | (with_reducible first | exact HB.out | apply below_alloc | apply pw_below_drewN | apply below_drew1 | refine below_set ?_ (Aside0.out (by assumption))) | exact HB.out)) : Below B w w' := h
theorem ze {w W w1 : World} (hb : Below W.heap.size W w1) (h : Below w.heap.size w W := by repeat (first | (with_reducible first | exact HB.out | apply below_alloc | apply pw_below_drewN | apply below_drew1) | exact HB.out)) : Aside0 (Below w.heap.size w w1) := ⟨below_step h hb⟩
theorem zf {w W w1 : World} (hb : Below W.heap.size W w1) (h : Below w.heap.size w W := by repeat (first | (with_reducible first | exact HB.out | apply below_alloc | apply pw_below_drewN | apply below_drew1 | refine below_set ?_ (Aside0.out (by assumption))) | exact HB.out)) : Aside0 (Below w.heap.size w w1) := ⟨below_step h hb⟩
theorem zw {w W : World} {g : Nat} (hg : g = W.heap.size) (h : Below w.heap.size w W := by repeat (first | (with_reducible first | exact HB.out | apply below_alloc | apply pw_below_drewN | apply below_drew1) | exact HB.out)) : Aside0 (w.heap.size ≤ g) := ⟨by rw [hg]; exact below_size h⟩
theorem zx {w W : World} {g : Nat} (hg : g = W.heap.size) (h : Below w.heap.size w W := by repeat (first | (with_reducible first | exact HB.out | apply below_alloc | apply pw_below_drewN | apply below_drew1 | refine below_set ?_ (Aside0.out (by assumption))) | exact HB.out)) : Aside0 (w.heap.size ≤ g) := ⟨by rw [hg]; exact below_size h⟩
theorem zb {W0 W w1 : World} {g : Nat} {o : Obj} (h : Aside0 (W0.heap[g]? = some o)) (hb : Below W.heap.size W w1) (u : W0.heap[g]? = some o → W.heap[g]? = some o := by (intro h_; (with_reducible repeat (first | refine blk_drewN ?_ _ | refine blk_drew ?_ | refine blk_alloc ?_ _)); exact h_)) : Aside0 (w1.heap[g]? = some o) := ⟨blk_below (u h.out) hb⟩
theorem zu {W0 W : World} {g : Nat} {o : Obj} (h : Aside0 (W0.heap[g]? = some o)) (u : W0.heap[g]? = some o → W.heap[g]? = some o := by (intro h_; (with_reducible repeat (first | refine blk_drewN ?_ _ | refine blk_drew ?_ | refine blk_alloc ?_ _)); exact h_)) : W.heap[g]? = some o := u h.out
theorem zl {W0 W : World} {g g' : Nat} {o : Obj} (h : Aside0 (W0.heap[g]? = some o)) (hg : g' = W.heap.size) (u : W0.heap[g]? = some o → W.heap[g]? = some o := by (intro h_; (with_reducible repeat (first | refine blk_drewN ?_ _ | refine blk_drew ?_ | refine blk_alloc ?_ _)); exact h_)) : Aside0 (g ≠ g') := ⟨by rw [hg]; exact Nat.ne_of_lt (blk_lt (u h.out))⟩
theorem zg {W0 W : World} {g g' : Nat} {o : Obj} (h : Aside0 (W0.heap[g]? = some o)) (hg : g' = W.heap.size) (u : W0.heap[g]? = some o → W.heap[g]? = some o := by (intro h_; (with_reducible repeat (first | refine blk_drewN ?_ _ | refine blk_drew ?_ | refine blk_alloc ?_ _)); exact h_)) : Aside0 (g' ≠ g) := ⟨by rw [hg]; exact Nat.ne_of_gt (blk_lt (u h.out))⟩
theorem zc {w : World} {g : Nat} {t : TypeId} {a b c : Value} (h : Aside0 (w.heap[g]? = some (.cells #[a, b, c] t (0, 0)))) : w.cell? ⟨g, 0, none⟩ = some a ∧ w.cell? ⟨g, 1, none⟩ = some b ∧ w.cell? ⟨g, 2, none⟩ = some c ∧ w.frozen? ⟨g, 0, none⟩ = false ∧ w.frozen? ⟨g, 1, none⟩ = false ∧ w.frozen? ⟨g, 2, none⟩ = false :=
  ⟨(blk_cell h.out 0).trans rfl, (blk_cell h.out 1).trans rfl, (blk_cell h.out 2).trans rfl, blk_frozen h.out 0, blk_frozen h.out 1, blk_frozen h.out 2⟩
theorem zt {W0 W w1 : World} {g : Nat} {t : TypeId} {a0 b0 c0 a b c : Value} (h : Aside0 (W0.heap[g]? = some (.cells #[a0, b0, c0] t (0, 0)))) (hb : Below W.heap.size W w1) (u : W0.heap[g]? = some (.cells #[a0, b0, c0] t (0, 0)) → W.heap[g]? = some (.cells #[a, b, c] t (0, 0)) := by (intro h_; (with_reducible repeat (first | refine blk_drewN ?_ _ | refine blk_drew ?_ | refine blk_alloc ?_ _)); first | exact zp h_ | exact zp (zu (zA h_)))) : Aside0 (w1.heap[g]? = some (.cells #[a, b, c] t (0, 0))) := ⟨blk_below (u h.out) hb⟩
theorem zy {W0 W : World} {g : Nat} {t : TypeId} {a0 b0 c0 a b c : Value} (h : Aside0 (W0.heap[g]? = some (.cells #[a0, b0, c0] t (0, 0)))) (u : W0.heap[g]? = some (.cells #[a0, b0, c0] t (0, 0)) → W.heap[g]? = some (.cells #[a, b, c] t (0, 0)) := by (intro h_; (with_reducible repeat (first | refine blk_drewN ?_ _ | refine blk_drew ?_ | refine blk_alloc ?_ _)); first | exact zp h_ | exact zp (zu (zA h_)))) : W.heap[g]? = some (.cells #[a, b, c] t (0, 0)) := u h.out
theorem zh {α β : Type} {a : Option α} {f : α → Option β} {r : β} (h : a.bind f = some r) : ∃ x, Aside0 (a = some x) ∧ f x = some r := by
  obtain ⟨x, e, g⟩ := Option.bind_eq_some_iff.mp h
  exact ⟨x, ⟨e⟩, g⟩
theorem zR {α : Type} {a b : α} {p q : Prop} (hy : a = b) (H : p) (u : a = b → p → q := by (intro hy H; first | (rw [hy]; with_reducible exact H) | (have H2_ := (Option.bind_some _ _).symm.trans H; rw [hy]; with_reducible exact H2_) | (have H2_ := (Option.bind_some _ _).symm.trans H; with_reducible exact H2_) | with_reducible exact H | (rw [hy]; exact H) | exact H)) : q := u hy H
theorem zQ {α : Type} {a b : α} {p q : Prop} (hy : a = b) (H : p) (u : a = b → p → q := by (intro hy H; first | (rw [hy] at H; exact H) | (simp only [hy] at H ⊢; exact H))) : q := u hy H
theorem zz {w : World} {g : Nat} {t : TypeId} {a b c : Value} (h : Aside0 (w.heap[g]? = some (.cells #[a, b, c] t (0, 0)))) : w.cell? ⟨g, 0, none⟩ = some a ∧ w.cell? ⟨g, 1, none⟩ = some b ∧ w.cell? ⟨g, 2, none⟩ = some c := ⟨(blk_cell h.out 0).trans rfl, (blk_cell h.out 1).trans rfl, (blk_cell h.out 2).trans rfl⟩
theorem za {w : World} {g : Nat} {t : TypeId} {a b c : Value} {cs : Array Value} {R : Prop} (h : Aside0 (w.heap[g]? = some (.cells cs t (0, 0)))) (r : R) (e0 : cs[0]? = some a := by rfl) (e1 : cs[1]? = some b := by rfl) (e2 : cs[2]? = some c := by rfl) : w.cell? ⟨g, 0, none⟩ = some a ∧ w.cell? ⟨g, 1, none⟩ = some b ∧ w.cell? ⟨g, 2, none⟩ = some c ∧ R := ⟨(blk_cell h.out 0).trans e0, (blk_cell h.out 1).trans e1, (blk_cell h.out 2).trans e2, r⟩
theorem zi {α : Type} {a b : α} (h : a = b := by first | rfl | (simp; done) | (simp [*]; done)) : a = b := h
theorem zj {W0 W : World} {g : Nat} {o : Obj} (h : Aside0 (W0.heap[g]? = some o)) (k : Nat) (hk : W.heap.size ≤ k) (u : W0.heap[g]? = some o → W.heap[g]? = some o := by (intro h_; (with_reducible repeat (first | refine blk_drewN ?_ _ | refine blk_drew ?_ | refine blk_alloc ?_ _)); exact h_)) : k ≠ g := Kd.freshB (u h.out) k hk
section
variable {P : Program} {ops : Array Oper} {rest : List Oper} {o : Oper} {a : Act} {Q : Exit → Act → World → Prop} {W : World}
theorem zG (f : FuncId) {as_ : Array Operand} {ts : Array TypeId} (_ho : o.op = .call { callee := .value (.func f), args := as_, argTypes := ts }) (h : wpList P ops Q (o :: rest) a W) : wpList P ops Q (o :: rest) a W := h
theorem zD (N : Tmp) (_hN : o.dst = some N) (h : wpList P ops Q (o :: rest) a W) : wpList P ops Q (o :: rest) a W := h
theorem zL (N : Option Tmp) (hd : o.dst = N) (hg : o.guard = none) {f : FuncId} {fn : Func} {as_ : Array Operand} {ts : Array TypeId} (hf : P.funcs[f]? = some fn) (args : Array Value)
    (hop : o.op = .call { callee := .value (.func f), args := as_, argTypes := ts })
    (h : Calls P f args W fun e w' => ∃ v, e = .returned v ∧ wpList P ops Q rest (a.put N v) w')
    (hname : (fn.name == "runtime.NumGoroutine") = false := by kernel_rfl) (hb : fn.body.isSome = true := by rfl) (hargs : as_.map a.eval = args := by (try simp only [List.map_toArray, List.map_cons, List.map_nil]); first | done | rfl | (simp only [List.length_drop, List.length_take]; rfl)) : wpList P ops Q (o :: rest) a W :=
  goesL_ N hd hg hf hname hb args hop hargs h
end
theorem zF {W0 W w1 : World} {g : Nat} {t : TypeId} {cs : Array Value} (h : Aside0 (W0.heap[g]? = some (.cells cs t (0, 0)))) (hb : Below W.heap.size W w1) (u : W0.heap[g]? = some (.cells cs t (0, 0)) → W.heap[g]? = some (.cells cs t (0, 0)) := by (intro h_; repeat (first | (with_reducible first | exact h_ | refine blk_far ?_ (Aside0.out (by assumption)) _ | refine blk_drewN ?_ _ | refine blk_drew ?_ | refine blk_alloc ?_ _) | exact h_))) : Aside0 (w1.heap[g]? = some (.cells cs t (0, 0))) := ⟨blk_below (u h.out) hb⟩
theorem zE {W0 W : World} {g : Nat} {t : TypeId} {cs : Array Value} (h : Aside0 (W0.heap[g]? = some (.cells cs t (0, 0)))) (u : W0.heap[g]? = some (.cells cs t (0, 0)) → W.heap[g]? = some (.cells cs t (0, 0)) := by (intro h_; repeat (first | (with_reducible first | exact h_ | refine blk_far ?_ (Aside0.out (by assumption)) _ | refine blk_drewN ?_ _ | refine blk_drew ?_ | refine blk_alloc ?_ _) | exact h_))) : W.heap[g]? = some (.cells cs t (0, 0)) := u h.out
abbrev z3 (w : World) (g : Nat) (a b c : Value) : Prop := w.cell? ⟨g, 0, none⟩ = some a ∧ w.cell? ⟨g, 1, none⟩ = some b ∧ w.cell? ⟨g, 2, none⟩ = some c
abbrev z4 (w : World) (g : Nat) (a b c : Value) (R : Prop) : Prop := w.cell? ⟨g, 0, none⟩ = some a ∧ w.cell? ⟨g, 1, none⟩ = some b ∧ w.cell? ⟨g, 2, none⟩ = some c ∧ R
theorem zRb {α β : Type} {e y : α} {f : α → Option β} {r : Option β} (h : y = e) (H : (some e).bind f = r) : f y = r := by subst h; exact H
section
variable {P : Program} {ops : Array Oper} {rest : List Oper} {o : Oper} {a : Act} {Q : Exit → Act → World → Prop} {W : World}
theorem zC (N : Option Tmp) {f : FuncId} {fn : Func} {as_ : Array Operand} {ts : Array TypeId} (hf : P.funcs[f]? = some fn) {args : Array Value} {R : Ending → World → Prop} (hc : Calls P f args W R)
    (h : ∀ e w', R e w' → ∃ v, e = .returned v ∧ wpList P ops Q rest (a.put N v) w')
    (hop : o.op = .call { callee := .value (.func f), args := as_, argTypes := ts } := by rfl) (hd : o.dst = N := by rfl) (hg : o.guard = none := by rfl)
    (hname : (fn.name == "runtime.NumGoroutine") = false := by kernel_rfl) (hb : fn.body.isSome = true := by rfl) (hargs : as_.map a.eval = args := by (try simp only [List.map_toArray, List.map_cons, List.map_nil]); first | done | rfl | (simp only [List.length_drop, List.length_take]; rfl)) : wpList P ops Q (o :: rest) a W :=
  goesL_ N hd hg hf hname hb args hop hargs (hc.mono fun e w' r => h e w' r)
end
abbrev Zu : Kd Int := Kd.int .u64
theorem zM0 {w : World} {g : Nat} {t : TypeId} {v : Value} {l : List Value} (h : Aside0 (w.heap[g]? = some (.cells (List.toArray (v :: l)) t (0, 0)))) : w.cell? ⟨g, 0, none⟩ = some v := blk_cell h.out 0
theorem zM1 {w : World} {g : Nat} {t : TypeId} {a v : Value} {l : List Value} (h : Aside0 (w.heap[g]? = some (.cells (List.toArray (a :: v :: l)) t (0, 0)))) : w.cell? ⟨g, 1, none⟩ = some v := blk_cell h.out 1
theorem zM2 {w : World} {g : Nat} {t : TypeId} {a b v : Value} {l : List Value} (h : Aside0 (w.heap[g]? = some (.cells (List.toArray (a :: b :: v :: l)) t (0, 0)))) : w.cell? ⟨g, 2, none⟩ = some v := blk_cell h.out 2
abbrev I : Bool := true
abbrev O : Bool := false
section
variable {P : Program} {ops : Array Oper} {Q : Exit → Act → World → Prop} {md : Region.Mode} {S : World → Prop} {ds : List Nat} {T : Bool × List (List Nat × List Nat)} {B : List Nat}
theorem zP (i n : Nat) {oi : Oper} {v : Value} {fuel : Nat} {l : Array Bool} {a : Act} {w : World} (l' : Array Bool) {a' : Act} (h : wpAnyLast P md ops Q S ds fuel l' a' w)
    (hi : ops[i]? = some oi := by rfl) (hN : oi.dst = some n := by rfl) (hT : rtab md ops = T := by exact HT_.out) (hc : anyT T l.toList l'.toList i = true := by kernel_rfl)
    (hQ : ∀ c a w, Q (.panic c) (a.put oi.dst v) w → Q (.panic c) a w := by exact (fun _ _ _ h => h)) (hy : Yields P ops oi v a := by (refine Or.inl ⟨by rfl, ?_⟩; intro w'; go_simp; with_reducible rfl)) (ha : a.put (some n) v = a' := by exact zq) : wpAnyLast P md ops Q S ds (fuel + 1) l a w :=
  pure_ l' hi hN (any_of hT hc) hQ hy ha h
theorem zT (i n : Nat) {oi : Oper} {v : Value} {fuel : Nat} {l : Array Bool} {a : Act} {w : World} (l' : Array Bool) {a' : Act} (h : wpAnyLast P md ops Q S ds fuel l' a' w)
    (hi : ops[i]? = some oi := by rfl) (hN : oi.dst = some n := by rfl) (hT : rtab md ops = T := by exact HT_.out) (hB : waitsOk T.2 B = true := by exact HW_.out) (hc : takeW T B ds l.toList l'.toList i = true := by kernel_rfl)
    (hQ : ∀ c a w, Q (.panic c) (a.put oi.dst v) w → Q (.panic c) a w := by exact (fun _ _ _ h => h)) (hS : S w := by exact hHeld)
    (hy : YieldsIf P ops S oi v a := by (refine Or.inl ⟨by rfl, ?_⟩; first | (rintro w' ⟨s0, s1, s2, s3, s4, s5⟩; go_simp; with_reducible rfl) | (rintro w' ⟨s0, s1, s2, s3, s4⟩; go_simp; with_reducible rfl) | (rintro w' ⟨s0, s1, s2, s3⟩; go_simp; with_reducible rfl) | (rintro w' ⟨s0, s1, s2⟩; go_simp; with_reducible rfl) | (rintro w' ⟨s0, s1⟩; go_simp; with_reducible rfl) | (intro w' s0; go_simp; with_reducible rfl))) (ha : a.put (some n) v = a' := by exact zq) : wpAnyLast P md ops Q S ds (fuel + 1) l a w :=
  take_ l' hi hN (take_ofW hT hB hc) hQ hy hS ha h
end
end Go.Proofs.YtjnfipkbgmdpaaaGreatDoor.PAll
