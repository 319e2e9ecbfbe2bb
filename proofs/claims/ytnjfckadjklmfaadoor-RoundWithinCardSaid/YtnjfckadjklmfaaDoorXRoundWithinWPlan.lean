/- Words of the printed texts, cut down to what is used. -/
import Derived.Test.YtnjfckadjklmfaaDoorProg
import Derived.Test.YtnjfckadjklmfaaDoorXRoundWithinWEqStruct
import Derived.Test.YtnjfckadjklmfaaDoorXRoundWithinWRepsOne
import Derived.Test.YtnjfckadjklmfaaDoorXRoundWithinWInv
import Derived.Test.YtnjfckadjklmfaaDoorXRoundWithinWGuard
import Derived.Test.YtnjfckadjklmfaaDoorXRoundWithinWMore
namespace Go.Proofs.YtnjfckadjklmfaaDoor.PAll
open Go.RowKit Go.Proofs.YtnjfckadjklmfaaDoorW.PrintWords Go.Proofs.YtnjfckadjklmfaaDoorW.PrintLast Go.Proofs.YtnjfckadjklmfaaDoorW.PrintMore
set_option linter.unusedVariables false
set_option linter.unusedSimpArgs false
def Z1t : List Tmp → List (Option Value) → Act → Act
 | n :: ns, some v :: fs, a => Z1t ns fs (a.put (some n) v)
 | _ :: ns, none :: fs, a => Z1t ns fs a
 | _, _, a => a
theorem Z6n {n m : Tmp} (h : n ≠ m) (a : Act) (u v : Value) : (a.put (some n) u).put (some m) v = (a.put (some m) v).put (some n) u := by
 unfold Act.put
 simp only
 congr 1
 apply Array.ext'
 rw [Array.toList_setIfInBounds, Array.toList_setIfInBounds, Array.toList_setIfInBounds, Array.toList_setIfInBounds]
 exact List.set_comm u v h
theorem Z4O : ∀ (ns : List Tmp) (fs : List (Option Value)) (a : Act) (m : Tmp) (v : Value), m ∉ ns → (Z1t ns fs a).put (some m) v = Z1t ns fs (a.put (some m) v)
 | [], fs, a, m, v, h => by cases fs <;> rfl
 | n :: ns, [], a, m, v, h => rfl
 | n :: ns, none :: fs, a, m, v, h => Z4O ns fs a m v (fun c => h (List.mem_cons_of_mem _ c))
 | n :: ns, some u :: fs, a, m, v, h => by
  show (Z1t ns fs (a.put (some n) u)).put (some m) v = Z1t ns fs ((a.put (some m) v).put (some n) u)
  rw [Z4O ns fs _ m v (fun c => h (List.mem_cons_of_mem _ c)), Z6n (fun c => h (by rw [c]; exact List.mem_cons_self))]
theorem Z4P : ∀ (ns : List Tmp) (fs : List (Option Value)) (a : Act) (i : Nat) (n : Tmp) (v : Value), ns.Nodup → ns[i]? = some n → fs[i]? = some none → (Z1t ns fs a).put (some n) v = Z1t ns (fs.set i (some v)) a
 | [], fs, a, i, n, v, hd, h, g => by simp at h
 | m :: ns, [], a, i, n, v, hd, h, g => by simp at g
 | m :: ns, f :: fs, a, 0, n, v, hd, h, g => by
  simp at h g
  subst h; subst g
  exact Z4O ns fs a m v (List.nodup_cons.1 hd).1
 | m :: ns, none :: fs, a, i + 1, n, v, hd, h, g => Z4P ns fs a i n v (List.nodup_cons.1 hd).2 (by simpa using h) (by simpa using g)
 | m :: ns, some u :: fs, a, i + 1, n, v, hd, h, g => Z4P ns fs (a.put (some m) u) i n v (List.nodup_cons.1 hd).2 (by simpa using h) (by simpa using g)
theorem Z9f (a : Act) (m : Tmp) (v : Value) (o : Operand) (h : ∀ k, o = .tmp k → k ≠ m) : (a.put (some m) v).eval o = a.eval o := by
 cases o with
 | tmp k =>
  have := h k rfl
  unfold Act.eval Act.put
  simp only
  rw [Array.getD_eq_getD_getElem?, Array.getD_eq_getD_getElem?, Array.getElem?_setIfInBounds_ne (fun c => this c.symm)]
 | const v => rfl
 | global g => rfl
 | func f => rfl
theorem Z4n : ∀ (ns : List Tmp) (fs : List (Option Value)) (a : Act) (o : Operand), (∀ k, o = .tmp k → k ∉ ns) → (Z1t ns fs a).eval o = a.eval o
 | [], fs, a, o, h => by cases fs <;> rfl
 | n :: ns, [], a, o, h => rfl
 | n :: ns, none :: fs, a, o, h => Z4n ns fs a o (fun k e c => h k e (List.mem_cons_of_mem _ c))
 | n :: ns, some u :: fs, a, o, h => (Z4n ns fs (a.put (some n) u) o (fun k e c => h k e (List.mem_cons_of_mem _ c))).trans (Z9f a n u o (fun k e c => h k e (by rw [c]; exact List.mem_cons_self)))
def Z6p (ns : List Tmp) (as_ : Array Operand) : Bool := as_.toList.all fun o => match o with | .tmp m => !ns.contains m | _ => true
theorem Z9g {ns : List Tmp} {fs : List (Option Value)} {a : Act} {as_ : Array Operand} (h : Z6p ns as_ = true) : as_.map (Z1t ns fs a).eval = as_.map a.eval := by
 apply Array.ext'
 rw [Array.toList_map, Array.toList_map]
 refine List.map_congr_left fun o ho => Z4n ns fs a o fun k e c => ?_
 have := List.all_eq_true.1 h o ho
 subst e
 simp at this
 exact this c
def Z3P : List Bool → List Nat → List Bool → List Bool
 | l, i :: op, true :: s => Z3P (l.set i true) op s
 | l, _ :: op, false :: s => Z3P l op s
 | l, _, _ => l
def Z9h : Nat → List (List Bool)
 | 0 => [[]]
 | n + 1 => (Z9h n).flatMap fun s => [false :: s, true :: s]
theorem Z6q : ∀ s : List Bool, s ∈ Z9h s.length
 | [] => List.mem_singleton.2 rfl
 | b :: s => List.mem_flatMap.2 ⟨s, Z6q s, by cases b <;> simp⟩
def Z7V (need : List (List Nat)) (s : List Bool) : List Nat := (List.range s.length).filter fun i => !(s.getD i true) && (need.getD i []).all fun j => s.getD j false
def Z67 (need : List (List Nat)) (s : List Bool) : Bool := (List.range s.length).all fun i => !(s.getD i false) || (need.getD i []).all fun j => s.getD j false
def Zbc (T : List (List Nat × List Nat)) (l : List Bool) (op : List Nat) (need : List (List Nat)) : Bool :=
 (Z9h op.length).all fun s => s.all id || !(Z67 need s) || (Z3h T (Z3P l op s) == (Z7V need s).map (op.getD · 0) && !((Z7V need s).isEmpty) && (Z7V need s).all fun i => (Z3P l op s).set (op.getD i 0) true == Z3P l op (s.set i true) && Z67 need (s.set i true))
theorem Z5Q : ∀ (f : List (Option Value)) (i : Nat) (v : Value), f[i]? = some none → f.countP Option.isNone = (f.set i (some v)).countP Option.isNone + 1
 | [], i, v, h => by simp at h
 | x :: f, 0, v, h => by
  simp at h; subst h
  simp
 | x :: f, i + 1, v, h => by
  have := Z5Q f i v (by simpa using h)
  rw [List.set_cons_succ, List.countP_cons, List.countP_cons, this]; omega
section
variable {P : Program} {ops : Array Oper} {Q : Exit → Act → World → Prop} {S : World → Prop} {ds : List Nat}
theorem Zc4 {fuel : Nat} {T : Bool × List (List Nat × List Nat)} (hT : Z0I .any ops = T) (op : List Nat) (ns : List Tmp) (need : List (List Nat)) (l0 : List Bool) (hck : Zbc T.2 l0 op need = true) (hns : ns.Nodup) (a0 : Act)
  (I : List (Option Value) → World → Prop) (hS : ∀ f w, I f w → S w)
  (hstep : ∀ i, i < op.length → ∃ o n, ops[op.getD i 0]? = some o ∧ o.dst = some n ∧ ns[i]? = some n ∧ ∀ f w, f[i]? = some none → I f w → ∀ K : Act → World → Prop, (∀ v w', I (f.set i (some v)) w' → K ((Z1t ns f a0).put (some n) v) w') →
   if Region.wanted o (yielded ops (Z1t ns f a0).tmps) = true then Oper.wp P o (Z1t ns f a0) w K Q else K ((Z1t ns f a0).put (some n) undef) w)
  (hend : ∀ f w, f.length = op.length → (∀ x ∈ f, x.isSome = true) → I f w → wpAnyLast P .any ops Q S ds fuel (Z3P l0 op (f.map Option.isSome)).toArray (Z1t ns f a0) w) :
  ∀ r f w, f.length = op.length → f.countP Option.isNone = r → Z67 need (f.map Option.isSome) = true → I f w → wpAnyLast P .any ops Q S ds (r + fuel) (Z3P l0 op (f.map Option.isSome)).toArray (Z1t ns f a0) w := by
 intro r
 induction r with
 | zero =>
  intro f w hl hc _ hI
  rw [Nat.zero_add]
  refine hend f w hl (fun x hx => ?_) hI
  have := List.countP_eq_zero.1 hc x hx
  cases x <;> simp at this ⊢
 | succ r ih =>
  intro f w hl hc hcl hI
  have hs := List.all_eq_true.1 hck (f.map Option.isSome) (by have := Z6q (f.map Option.isSome); rw [List.length_map, hl] at this; exact this)
  have nf : (f.map Option.isSome).all id = false := by
   rw [Bool.eq_false_iff]
   intro h
   have : f.countP Option.isNone = 0 := List.countP_eq_zero.2 fun x hx => by
    have := List.all_eq_true.1 h (Option.isSome x) (List.mem_map_of_mem hx)
    cases x <;> simp at this ⊢
   omega
  rw [nf, hcl] at hs
  simp only [Bool.false_or, Bool.not_true, Bool.and_eq_true, beq_iff_eq] at hs
  obtain ⟨⟨h1, h2⟩, h3⟩ := hs
  have hr : Region.ready .any ops (Z3P l0 op (f.map Option.isSome)).toArray = (Z7V need (f.map Option.isSome)).map (op.getD · 0) := by
   subst hT; rw [Z31]; exact h1
  rw [show r + 1 + fuel = (r + fuel) + 1 by omega]
  refine Z27 hr (fun c => ?_) (fun j hj => ?_)
  ·rw [List.map_eq_nil_iff] at c
   rw [c] at h2
   exact absurd h2 (by decide)
  obtain ⟨i, hi, rfl⟩ := List.mem_map.1 hj
  have h4 := List.all_eq_true.1 h3 i hi
  simp only [Bool.and_eq_true, beq_iff_eq] at h4
  obtain ⟨hi1, hi2⟩ := List.mem_filter.1 hi
  rw [List.mem_range, List.length_map] at hi1
  obtain ⟨o, n, ho, hd, hn, hst⟩ := hstep i (by omega)
  have fi : f[i]? = some none := by
   simp only [Bool.and_eq_true] at hi2
   have := hi2.1
   rw [List.getElem?_eq_getElem hi1]
   rw [List.getD_eq_getElem?_getD, List.getElem?_map, List.getElem?_eq_getElem hi1] at this
   cases q : f[i] with
   | none => rfl
   | some v => rw [q] at this; simp at this
  refine wpOp_step ho (fun K' hK => ?_)
  rw [hd]
  refine hst f w fi hI K' (fun v w' hI' => hK _ _ ⟨fun _ _ => hS _ _ hI', ?_⟩)
  have e1 := Z4P ns f a0 i n v hns hn fi
  have e2 : (f.set i (some v)).map Option.isSome = (f.map Option.isSome).set i true := by rw [List.map_set]; rfl
  have := ih (f.set i (some v)) w' (by rw [List.length_set]; exact hl) (by have := Z5Q f i v fi; omega) (by rw [e2]; exact h4.2) hI'
  rw [e1, List.setIfInBounds_toArray, h4.1, ← e2]
  exact this
end
def ownV (v : Value) : List Nat := match v with
 | .pointer (some a) => [a.block]
 | .agg ps => ps.toList.filterMap Value.ownBlock
 | _ => []
def stdI (Base : World → Prop) (F : Nat → Value → World → Prop) (f : List (Option Value)) (w : World) : Prop :=
 Base w ∧ (∀ (i : Nat) (v : Value), f[i]? = some (some v) → F i v w) ∧ ∀ (i j : Nat) (u v : Value), i ≠ j → f[i]? = some (some u) → f[j]? = some (some v) → ∀ b, b ∈ ownV u → b ∉ ownV v
theorem Z5R {Base : World → Prop} {F : Nat → Value → World → Prop} {f : List (Option Value)} {w w' : World} {i : Nat} {v : Value} (fi : f[i]? = some none) (hI : stdI Base F f w) (hB : Base w') (hF : ∀ j u, F j u w → F j u w') (hv : F i v w')
  (hlt : ∀ j u, F j u w → ∀ b, b ∈ ownV u → b < w.heap.size) (hp : ∀ b, b ∈ ownV v → w.heap.size ≤ b) : stdI Base F (f.set i (some v)) w' := by
 have hl : i < f.length := (List.getElem?_eq_some_iff.1 fi).1
 have get : ∀ j : Nat, (f.set i (some v))[j]? = if j = i then some (some v) else f[j]? := fun j => by
  rw [List.getElem?_set]
  by_cases c : i = j
  ·rw [if_pos c, if_pos c.symm, if_pos hl]
  rw [if_neg c, if_neg (fun d => c d.symm)]
 refine ⟨hB, fun j u hj => ?_, fun a b x y hab ha hb k hx hy => ?_⟩
 ·rw [get] at hj
  by_cases c : j = i
  ·rw [if_pos c] at hj; cases hj; rw [c]; exact hv
  rw [if_neg c] at hj; exact hF j u (hI.2.1 j u hj)
 rw [get] at ha hb
 by_cases c : a = i
 ·rw [if_pos c] at ha
  rw [if_neg (fun d => hab (c.trans d.symm))] at hb
  cases ha
  have h1 := hp k hx
  have h2 := hlt b y (hI.2.1 b y hb) k hy
  omega
 rw [if_neg c] at ha
 by_cases d : b = i
 ·rw [if_pos d] at hb; cases hb
  have h1 := hp k hy
  have h2 := hlt a x (hI.2.1 a x ha) k hx
  omega
 rw [if_neg d] at hb; exact hI.2.2 a b x y hab ha hb k hx hy
section
variable {P : Program} {ops : Array Oper} {Q : Exit → Act → World → Prop}
theorem Z9i {Base : World → Prop} {F : Nat → Value → World → Prop} {ns : List Tmp} {a0 : Act} {i : Nat} {o : Oper} {n : Tmp} {fi : FuncId} {fn : Func} {as_ : Array Operand} {ts : Array TypeId} {args : Array Value}
  (hB : ∀ w w', Base w → Below w.heap.size w w' → Base w') (hF : ∀ j u w w', F j u w → Below w.heap.size w w' → F j u w') (hP : ∀ j u w, F j u w → ∀ b, b ∈ ownV u → b < w.heap.size)
  (hd : o.dst = some n) (hg : o.guard = none) (hf : P.funcs[fi]? = some fn) (hop : o.op = .call { callee := .value (.func fi), args := as_, argTypes := ts }) (hcl : Z6p ns as_ = true) (hargs : as_.map a0.eval = args)
  (hname : (fn.name == "runtime.NumGoroutine") = false) (hb : fn.body.isSome = true)
  (hc : ∀ w, Base w → Calls P fi args w fun e w' => ∃ v, e = .returned v ∧ Below w.heap.size w w' ∧ F i v w' ∧ ∀ b, b ∈ ownV v → w.heap.size ≤ b) :
  ∀ f w, f[i]? = some none → stdI Base F f w → ∀ K : Act → World → Prop, (∀ v w', stdI Base F (f.set i (some v)) w' → K ((Z1t ns f a0).put (some n) v) w') →
   if Region.wanted o (yielded ops (Z1t ns f a0).tmps) = true then Oper.wp P o (Z1t ns f a0) w K Q else K ((Z1t ns f a0).put (some n) undef) w := by
 intro f w hi hI K hK
 refine Zz hf hname hb args (by unfold Region.wanted; rw [hg]) hd hop ((Z9g hcl).trans hargs) ((hc w hI.1).mono ?_)
 rintro e w' ⟨v, rfl, hbl, hv, hnp⟩
 exact ⟨v, rfl, hK v w' (Z5R hi hI (hB w w' hI.1 hbl) (fun j u h => hF j u w w' h hbl) hv (fun j u h => hP j u w h) hnp)⟩
theorem Zam {Base : World → Prop} {F : Nat → Value → World → Prop} {ns : List Tmp} {a0 : Act} {i : Nat} {o : Oper} {n : Tmp} {cs : Array Value} {t : TypeId}
  (hB : ∀ w w', Base w → Below w.heap.size w w' → Base w') (hF : ∀ j u w w', F j u w → Below w.heap.size w w' → F j u w')
  (hP : ∀ j u w, F j u w → ∀ b, b ∈ ownV u → b < w.heap.size)
  (hd : o.dst = some n) (hg : o.guard = none) (hrun : ∀ (a : Act) (W : World), (execOp a.eval o).run P W = .ok (.value (.pointer (some ⟨W.heap.size, 0, none⟩))) (W.alloc (.cells cs t (0, 0))))
  (hv : ∀ w w1, Base w → w1.heap[w.heap.size]? = some (.cells cs t (0, 0)) → Below w.heap.size w w1 → F i (.pointer (some ⟨w.heap.size, 0, none⟩)) w1) :
  ∀ f w, f[i]? = some none → stdI Base F f w → ∀ K : Act → World → Prop, (∀ v w', stdI Base F (f.set i (some v)) w' → K ((Z1t ns f a0).put (some n) v) w') →
   if Region.wanted o (yielded ops (Z1t ns f a0).tmps) = true then Oper.wp P o (Z1t ns f a0) w K Q else K ((Z1t ns f a0).put (some n) undef) w := by
 intro f w hi hI K hK
 rw [← hd]
 refine Z06 (by unfold Region.wanted; rw [hg]) hd (hrun _ _) ?_
 rintro g rfl w1 hbox hbl
 rw [hd]
 refine hK _ w1 (Z5R hi hI (hB w w1 hI.1 hbl) (fun j u h => hF j u w w1 h hbl) (hv w w1 hI.1 hbox hbl) (fun j u h => hP j u w h) (fun b hb => ?_))
 rw [List.mem_singleton.1 hb]
 exact Nat.le_refl _
end
def stdB (n : Nat) (w0 : World) (bs : List (Nat × Obj)) (w : World) : Prop := n = w0.heap.size ∧ Below w0.heap.size w0 w ∧ ∀ p ∈ bs, w.heap[p.1]? = some p.2
theorem Z5S {n : Nat} {w0 : World} {bs : List (Nat × Obj)} (w w' : World) (h : stdB n w0 bs w) (hb : Below w.heap.size w w') : stdB n w0 bs w' := ⟨h.1, Z0o h.2.1 hb, fun p hp => ZK (h.2.2 p hp) hb⟩
theorem Zc5 {w0 w : World} {g1 g2 g3 : Nat} {o1 o2 o3 : Obj} (h : Below w0.heap.size w0 w) (h1 : w.heap[g1]? = some o1) (h2 : w.heap[g2]? = some o2) (h3 : w.heap[g3]? = some o3) : stdB w0.heap.size w0 [(g1, o1), (g2, o2), (g3, o3)] w := ⟨rfl, h, fun p hp => by
 simp at hp
 rcases hp with rfl | rfl | rfl
 ·exact h1
 ·exact h2
 exact h3⟩
theorem stdB.blk {n : Nat} {w0 w : World} {bs : List (Nat × Obj)} (h : stdB n w0 bs w) (i : Nat) {g : Nat} {o : Obj} (e : bs[i]? = some (g, o) := by rfl) : w.heap[g]? = some o := h.2.2 (g, o) (List.mem_of_getElem? e)
abbrev Z3m := Value → World → Prop
def Zbd (G : Z3m) : Prop := ∀ v w w', G v w → Below w.heap.size w w' → G v w'
def Zc6 (G : Z3m) : Prop := ∀ v w, G v w → ∀ b, b ∈ ownV v → b < w.heap.size
def Zbe (n : Nat) (gs : List Nat) (cs : Array Value) (t : TypeId) : Z3m := fun v w => ∃ g, v = .pointer (some ⟨g, 0, none⟩) ∧ w.heap[g]? = some (.cells cs t (0, 0)) ∧ n ≤ g ∧ ∀ b ∈ gs, b < g
def Zbf (k : IntKind) (e : TypeId) (n : Nat) (f : Value → Value) (xs : List Int) : Z3m := fun v w => ∃ x, v = f x ∧ (Kd.int k).R e w n (fun _ => True) x xs
theorem Z9Y {k : IntKind} {e : TypeId} {w : World} {n : Nat} {ok ok' : Nat → Prop} {v : Value} {xs : List Int} (h : (Kd.int k).R e w n ok v xs) (h' : ∀ k, v.ownBlock = some k → ok' k) : (Kd.int k).R e w n ok' v xs := ⟨h', h.2.imp_ (fun _ _ hp => hp)⟩
theorem Zbg {k : IntKind} {e : TypeId} {w : World} {n : Nat} {ok : Nat → Prop} {v : Value} {xs : List Int} (h : (Kd.int k).R e w n ok v xs) : ∀ b, v.ownBlock = some b → b < w.heap.size := fun b hb => by
 obtain ⟨inner, ho⟩ := Kd.Z65 h
 exact Z6g ho b hb
def Z3n (G : Z3m) : Prop := Zbd G ∧ Zc6 G
theorem Zbh (n : Nat) (gs : List Nat) (cs : Array Value) (t : TypeId) : Z3n (Zbe n gs cs t) := ⟨fun v w w' ⟨g, e, hb, r⟩ h => ⟨g, e, ZK hb h, r⟩, fun v w ⟨g', e, hb, _⟩ b h => by
 subst e
 rw [List.mem_singleton.1 h]
 exact Z2C hb⟩
theorem Zbi (k : IntKind) (e : TypeId) (n : Nat) (f : Value → Value) (xs : List Int) (hf : ∀ x, ownV (f x) = (x.ownBlock).toList) : Z3n (Zbf k e n f xs) := ⟨fun v w w' ⟨x, e, h⟩ hb => ⟨x, e, Kd.Zw h hb⟩, fun v w ⟨x, e, h⟩ b hb => by
 subst e
 rw [hf, Option.mem_toList] at hb
 exact Zbg h b hb⟩
theorem Zc7 {a b c d : Z3m} (ha : Z3n a) (hb : Z3n b) (hc : Z3n c) (hd : Z3n d) : ∀ G ∈ [a, b, c, d], Z3n G := fun G h => by
 simp at h
 rcases h with rfl | rfl | rfl | rfl
 ·exact ha
 ·exact hb
 ·exact hc
 exact hd
def Z2X (Fs : List Z3m) (i : Nat) : Z3m := (Fs[i]?).getD fun _ _ => False
theorem Z3d {Fs : List Z3m} (h : ∀ G ∈ Fs, Z3n G) (i : Nat) : Z3n (Z2X Fs i) := by
 unfold Z2X
 cases e : Fs[i]? with
 | none => exact ⟨fun _ _ _ h _ => h, fun _ _ h => h.elim⟩
 | some G => exact h G (List.mem_of_getElem? e)
section
variable {P : Program} {ops : Array Oper} {Q : Exit → Act → World → Prop} {S : World → Prop} {ds : List Nat}
def Z6r (P : Program) (ops : Array Oper) (Q : Exit → Act → World → Prop) (op : List Nat) (ns : List Tmp) (a0 : Act) (I : List (Option Value) → World → Prop) (i : Nat) : Prop :=
 ∃ o n, ops[op.getD i 0]? = some o ∧ o.dst = some n ∧ ns[i]? = some n ∧ ∀ f w, f[i]? = some none → I f w → ∀ K : Act → World → Prop, (∀ v w', I (f.set i (some v)) w' → K ((Z1t ns f a0).put (some n) v) w') →
   if Region.wanted o (yielded ops (Z1t ns f a0).tmps) = true then Oper.wp P o (Z1t ns f a0) w K Q else K ((Z1t ns f a0).put (some n) undef) w
theorem Zc8 {n0 : Nat} {w0 w : World} {bs : List (Nat × Obj)} (hB0 : stdB n0 w0 bs w) {fuel : Nat} {T : Bool × List (List Nat × List Nat)} (hT : Z0I .any ops = T) (op : List Nat) (ns : List Tmp) (need : List (List Nat)) (Fs : List Z3m) (hG : ∀ G ∈ Fs, Z3n G) {l : Array Bool} {a0 : Act}
  (hck : (Zbc T.2 l.toList op need && Z67 need (op.map fun _ => false) && decide ns.Nodup) = true) (hS : ∀ w, stdB n0 w0 bs w → S w)
  (hstep : ∀ i, i < op.length → Z6r P ops Q op ns a0 (stdI (stdB n0 w0 bs) (Z2X Fs)) i)
  (hend : ∀ (vs : List Value) w, vs.length = op.length → stdB n0 w0 bs w → (∀ i v, vs[i]? = some v → Z2X Fs i v w) → (∀ (i j : Nat) (u v : Value), i ≠ j → vs[i]? = some u → vs[j]? = some v → ∀ b, b ∈ ownV u → b ∉ ownV v) → wpAnyLast P .any ops Q S ds fuel (Z3P l.toList op (vs.map fun _ => true)).toArray (Z1t ns (vs.map some) a0) w) :
  wpAnyLast P .any ops Q S ds (op.length + fuel) l a0 w := by
 simp only [Bool.and_eq_true, decide_eq_true_iff] at hck
 obtain ⟨⟨h1, h2⟩, h3⟩ := hck
 have key := Zc4 (fuel := fuel) hT op ns need l.toList h1 h3 a0 (stdI (stdB n0 w0 bs) (Z2X Fs)) (fun f w h => hS w h.1) hstep (fun f w hl hs hI => by
  obtain ⟨vs, rfl⟩ : ∃ vs : List Value, f = vs.map some := by
   clear hI hl
   induction f with
   | nil => exact ⟨[], rfl⟩
   | cons x f ih =>
    obtain ⟨vs, e⟩ := ih fun y hy => hs y (List.mem_cons_of_mem _ hy)
    have := hs x List.mem_cons_self
    cases x with
    | none => simp at this
    | some v => exact ⟨v :: vs, by rw [e]; rfl⟩
  have e : (vs.map some).map Option.isSome = vs.map fun _ => true := by rw [List.map_map]; rfl
  rw [e]
  refine hend vs w (by rw [List.length_map] at hl; exact hl) hI.1 (fun i v hv => hI.2.1 i v ?_) (fun i j u v hij hi hj => hI.2.2 i j u v hij ?_ ?_)
  ·rw [List.getElem?_map, hv]; rfl
  ·rw [List.getElem?_map, hi]; rfl
  rw [List.getElem?_map, hj]; rfl) op.length (op.map fun _ => none) w (List.length_map _) (by clear h1 h2 hstep hend; induction op with | nil => rfl | cons x op ih => simp [ih])
  (by rw [List.map_map]; exact h2) ⟨hB0, fun i v h => by rw [List.getElem?_map] at h; cases q : op[i]? <;> rw [q] at h <;> simp at h, fun i j u v hij hi hj => by rw [List.getElem?_map] at hi; cases q : op[i]? <;> rw [q] at hi <;> simp at hi⟩
 have e1 : ∀ (op : List Nat) (L : List Bool), Z3P L op ((op.map fun _ => (none : Option Value)).map Option.isSome) = L := by
  intro op
  induction op with
  | nil => intro L; rfl
  | cons x op ih => intro L; exact ih L
 have e2 : ∀ (op : List Nat) (ns : List Tmp) (a : Act), Z1t ns (op.map fun _ => (none : Option Value)) a = a := by
  intro op
  induction op with
  | nil => intro ns a; cases ns <;> rfl
  | cons x op ih => intro ns a; cases ns with
   | nil => rfl
   | cons n ns => exact ih ns a
 rw [e1, e2, Array.toArray_toList] at key
 exact key
theorem Z9Z {n0 : Nat} {w0 : World} {bs : List (Nat × Obj)} {Fs : List Z3m} (hG : ∀ G ∈ Fs, Z3n G) {op : List Nat} {ns : List Tmp} {a0 : Act} {i : Nat} {o : Oper} {n : Tmp} {fi : FuncId} {fn : Func} {as_ : Array Operand} {ts : Array TypeId} {args : Array Value} {R : World → Ending → World → Prop}
  (hf : P.funcs[fi]? = some fn) (hc : ∀ w, stdB n0 w0 bs w → Calls P fi args w (R w)) (hr : ∀ w, stdB n0 w0 bs w → ∀ e w', R w e w' → ∃ v, e = .returned v ∧ Below w.heap.size w w' ∧ Z2X Fs i v w' ∧ ∀ b, b ∈ ownV v → w.heap.size ≤ b)
  (ho : ops[op.getD i 0]? = some o := by rfl) (hop : o.op = .call { callee := .value (.func fi), args := as_, argTypes := ts } := by rfl) (hd : o.dst = some n := by rfl) (hn : ns[i]? = some n := by rfl) (hg : o.guard = none := by rfl)
  (hcl : Z6p ns as_ = true := by rfl) (hargs : as_.map a0.eval = args := by (try simp only [List.map_toArray, List.map_cons, List.map_nil]); first | done | rfl | (simp only [List.length_drop, List.length_take]; rfl))
  (hname : (fn.name == "runtime.NumGoroutine") = false := by kernel_rfl) (hb : fn.body.isSome = true := by rfl) :
  Z6r P ops Q op ns a0 (stdI (stdB n0 w0 bs) (Z2X Fs)) i :=
 ⟨o, n, ho, hd, hn, Z9i Z5S (fun j u w w' h hb => (Z3d hG j).1 u w w' h hb) (fun j u w h => (Z3d hG j).2 u w h) hd hg hf hop hcl hargs hname hb (fun w hB => (hc w hB).mono fun e w' r => hr w hB e w' r)⟩
theorem Zbj {n0 : Nat} {w0 : World} {bs : List (Nat × Obj)} {Fs : List Z3m} (hG : ∀ G ∈ Fs, Z3n G) {op : List Nat} {ns : List Tmp} {a0 : Act} {i : Nat} {o : Oper} {n : Tmp} {cs : Array Value} {t : TypeId} {gs : List Nat}
  (hF : Fs[i]? = some (Zbe n0 gs cs t)) (ho : ops[op.getD i 0]? = some o) (hrun : ∀ (a : Act) (W : World), (execOp a.eval o).run P W = .ok (.value (.pointer (some ⟨W.heap.size, 0, none⟩))) (W.alloc (.cells cs t (0, 0))))
  (hd : o.dst = some n := by rfl) (hn : ns[i]? = some n := by rfl) (hg : o.guard = none := by rfl) (hgs : gs = bs.map Prod.fst := by rfl) :
  Z6r P ops Q op ns a0 (stdI (stdB n0 w0 bs) (Z2X Fs)) i :=
 ⟨o, n, ho, hd, hn, Zam Z5S (fun j u w w' h hb => (Z3d hG j).1 u w w' h hb) (fun j u w h => (Z3d hG j).2 u w h) hd hg hrun (fun w w1 hB hb hbl => by
  unfold Z2X; rw [hF]
  exact ⟨_, rfl, hb, hB.1 ▸ Z7 hB.2.1, fun b hb => by
   rw [hgs] at hb
   obtain ⟨p, hp, rfl⟩ := List.mem_map.1 hb
   exact Z2C (hB.2.2 p hp)⟩)⟩
end
theorem Zbk (b : Bool) (x : Value) (k : IntKind) (n : Int) : ownV (.agg #[.bool b, x, .int k n]) = x.ownBlock.toList := by
 show [.bool b, x, .int k n].filterMap Value.ownBlock = _
 rw [List.filterMap_cons_none rfl]
 cases h : x.ownBlock with
 | none => rw [List.filterMap_cons_none h]; rfl
 | some b => rw [List.filterMap_cons_some h]; rfl
theorem Zbl {k : IntKind} {e : TypeId} {w1 w2 : World} {n : Nat} {ok : Nat → Prop} {f : Value → Value} {v : Value} {xs : List Int} (hf : ∀ x, ownV (f x) = x.ownBlock.toList) (ho : (Kd.int k).R e w2 w1.heap.size ok v xs) (hn : n ≤ w1.heap.size) : Zbf k e n f xs (f v) w2 ∧ ∀ b, b ∈ ownV (f v) → w1.heap.size ≤ b :=
 ⟨⟨v, rfl, Kd.ZH (Kd.ZC ho fun _ _ => trivial) hn⟩, fun b hb => by rw [hf, Option.mem_toList] at hb; exact Kd.ZA ho b hb⟩
theorem Zbm {g1 g2 : Nat} (h : ∀ b, b ∈ ownV (.pointer (some ⟨g1, 0, none⟩)) → b ∉ ownV (.pointer (some ⟨g2, 0, none⟩))) : g1 ≠ g2 := fun e => h g1 (List.mem_singleton.2 rfl) (List.mem_singleton.2 e)
theorem Z8p {f f' : Value → Value} {x y : Value} (hf : ∀ x, ownV (f x) = x.ownBlock.toList) (hf' : ∀ x, ownV (f' x) = x.ownBlock.toList) (h : ∀ b, b ∈ ownV (f x) → b ∉ ownV (f' y)) : ∀ k, x.ownBlock = some k → some k ≠ y.ownBlock := fun k hk e => h k (by rw [hf, Option.mem_toList]; exact hk) (by rw [hf', Option.mem_toList]; exact e.symm)
theorem stdB.size {n : Nat} {w0 w : World} {bs : List (Nat × Obj)} (h : stdB n w0 bs w) : n ≤ w.heap.size := h.1 ▸ Z7 h.2.1
end Go.Proofs.YtnjfckadjklmfaaDoor.PAll
