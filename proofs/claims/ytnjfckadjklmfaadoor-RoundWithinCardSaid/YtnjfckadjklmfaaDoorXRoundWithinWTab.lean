/- Words of the printed texts, cut down to what is used. -/
import Derived.Test.YtnjfckadjklmfaaDoorXRoundWithinWLast
import Derived.Test.YtnjfckadjklmfaaDoorXRoundWithinWWords
namespace Go.Proofs.YtnjfckadjklmfaaDoorW.PrintLast
open Go.Proofs.YtnjfckadjklmfaaDoorW.PrintWords (Aside0)
def Z3t (md : Region.Mode) (o : Oper) : List Nat := (o.after.toList.filter (fun e => Region.binds md e)).map (fun e => e.on)
def Z5z (md : Region.Mode) (ops : Array Oper) (i : Nat) (oi : Oper) : List Nat := (List.range ops.size).filter fun j => !(j == i) && match ops[j]? with
 | some oj => !(oj.after.any (fun e => Region.binds md e && e.on == i) || oi.apart ops oj)
 | none => false
def Z0I (md : Region.Mode) (ops : Array Oper) : Bool × List (List Nat × List Nat) := (Region.noSelect ops, (List.range ops.size).map fun i => match ops[i]? with
 | some o => (Z3t md o, Z5z md ops i o)
 | none => ([], []))
def Z2R (T : List (List Nat × List Nat)) (l : List Bool) (i : Nat) : Bool := !l.getD i true && match T[i]? with
 | some r => r.1.all (fun j => l.getD j false)
 | none => false
def Z3h (T : List (List Nat × List Nat)) (l : List Bool) : List Nat := (List.range T.length).filter (Z2R T l)
def Z55 (T : List (List Nat × List Nat)) (l : List Bool) (i : Nat) : Bool := match T[i]? with
 | some r => r.2.all (fun j => l.getD j true)
 | none => false
def Z4C (T : List (List Nat × List Nat)) (l : List Bool) : Bool := (List.range T.length).all fun j => !l.getD j false || match T[j]? with
 | some r => r.1.all (fun k => l.getD k false)
 | none => true
def Z3V (T : List (List Nat × List Nat)) (i : Nat) : Nat → Nat → Bool
 | 0, _ => false
 | fuel + 1, d => match T[d]? with
  | some r => r.1.any fun j => j == i || Z3V T i fuel j
  | none => false
def Z66 (T : List (List Nat × List Nat)) (l : List Bool) (ds : List Nat) (i : Nat) : Bool := ds.all fun d => l.getD d true || Z3V T i T.length d
section
variable {md : Region.Mode} {ops : Array Oper} {T : Bool × List (List Nat × List Nat)} {l l' li lj lk : Array Bool} {ds : List Nat} {i j k : Nat}
theorem gd (l : Array Bool) (j : Nat) (b : Bool) : l.getD j b = l.toList.getD j b := by simp [Array.getD_eq_getD_getElem?, List.getD_eq_getElem?_getD]
theorem Z5O (o : Oper) (p : Nat → Bool) : o.after.all (fun e => !Region.binds md e || p e.on) = (Z3t md o).all p := by
 unfold Z3t
 rw [← Array.all_toList]
 induction o.after.toList with
 | nil => rfl
 | cons e r ih =>
  rw [List.all_cons, ih, List.filter_cons]
  cases h : Region.binds md e <;> simp
theorem Z8k (o : Oper) (p : Nat → Bool) : o.after.any (fun e => Region.binds md e && p e.on) = (Z3t md o).any p := by
 unfold Z3t
 rw [← Array.any_toList]
 induction o.after.toList with
 | nil => rfl
 | cons e r ih =>
  rw [List.any_cons, ih, List.filter_cons]
  cases h : Region.binds md e <;> simp
theorem Z3b : (Z0I md ops).2.length = ops.size := by simp [Z0I]
theorem Z3I {o : Oper} (h : ops[i]? = some o) : (Z0I md ops).2[i]? = some (Z3t md o, Z5z md ops i o) := by
 have hi := (Array.getElem?_eq_some_iff.1 h).1
 unfold Z0I
 rw [List.getElem?_map, List.getElem?_range hi, Option.map_some, h]
theorem Z3J (h : ops[i]? = none) : (Z0I md ops).2[i]? = none := by
 have hi : ops.size ≤ i := Array.getElem?_eq_none_iff.1 h
 exact List.getElem?_eq_none (by rw [Z3b]; exact hi)
theorem Z7S : Z2R (Z0I md ops).2 l.toList i = (!l.getD i true && ((ops[i]?).map (·.after.all fun e => !Region.binds md e || l.getD e.on false)).getD false) := by
 unfold Z2R
 rw [gd]
 cases h : ops[i]? with
 | none => rw [Z3J h]; rfl
 | some o =>
  rw [Z3I h]
  simp only [Option.map_some, Option.getD_some]
  rw [← Z5O]
  simp only [gd]
theorem Z31 : Region.ready md ops l = Z3h (Z0I md ops).2 l.toList := by
 unfold Region.ready Z3h
 rw [Z3b]
 refine List.filter_congr (fun i _ => ?_)
 rw [Z7S]
theorem Z79 : Region.free md ops l i = Z55 (Z0I md ops).2 l.toList i := by
 unfold Region.free Z55
 cases h : ops[i]? with
 | none => rw [Z3J h]
 | some oi =>
  rw [Z3I h]
  simp only [Z5z]
  rw [List.all_filter]
  congr 1
  funext j
  rw [gd]
  cases hj : ops[j]? with
  | none => cases (j == i) <;> cases (l.toList.getD j true) <;> simp
  | some oj =>
   cases (j == i) <;> cases (l.toList.getD j true) <;> cases (oj.after.any (fun e => Region.binds md e && e.on == i) || oi.apart ops oj) <;> simp_all
theorem Z8l : Region.closedB md ops l = Z4C (Z0I md ops).2 l.toList := by
 unfold Region.closedB Z4C
 rw [Z3b]
 congr 1
 funext j
 rw [gd]
 cases h : ops[j]? with
 | none => rw [Z3J h]
 | some o =>
  rw [Z3I h]
  simp only
  rw [← Z5O]
  simp only [gd]
theorem Z6m : ∀ (fuel d : Nat), Region.reachB md ops i fuel d = Z3V (Z0I md ops).2 i fuel d
 | 0, _ => rfl
 | fuel + 1, d => by
  unfold Region.reachB Z3V
  cases h : ops[d]? with
  | none => rw [Z3J h]
  | some o =>
   rw [Z3I h]
   simp only
   rw [← Z8k]
   congr 1
   funext e
   rw [Z6m fuel]
theorem Z7a : Region.lastB md ops l ds i = Z66 (Z0I md ops).2 l.toList ds i := by
 unfold Region.lastB Z66
 rw [Z3b]
 congr 1
 funext d
 rw [gd, Z6m]
theorem Z4L (h : Z2R T.2 l.toList i = true) (hT : Z0I md ops = T) : (Region.ready md ops l).contains i = true := by
 subst hT
 rw [Z31]
 unfold Z3h
 rw [List.contains_iff_mem, List.mem_filter, List.mem_range]
 refine ⟨?_, h⟩
 unfold Z2R at h
 rw [Bool.and_eq_true] at h
 cases hq : (Z0I md ops).2[i]? with
 | none => rw [hq] at h; simp at h
 | some r => exact (List.getElem?_eq_some_iff.1 hq).1
theorem Z3i (h : (l.toList.set i true == l'.toList) = true) : (l.setIfInBounds i true == l') = true := by
 rw [beq_iff_eq] at h ⊢
 apply Array.ext'
 rw [Array.toList_setIfInBounds]
 exact h
def Z98 (T : Bool × List (List Nat × List Nat)) (l l' : List Bool) (i : Nat) : Bool := T.1 && Z55 T.2 l i && Z2R T.2 l i && (l.set i true == l')
theorem Zb9 (hT : Z0I md ops = T) (h : Z98 T l.toList l'.toList i = true) : Z7R md ops l l' i = true := by
 simp only [Z98, Bool.and_eq_true] at h
 obtain ⟨⟨⟨h1, h2⟩, h3⟩, h4⟩ := h
 have h5 := Z4L h3 hT
 have h6 := Z3i h4
 subst hT
 simp only [Z7R, Bool.and_eq_true]
 exact ⟨⟨⟨h1, by rw [Z79]; exact h2⟩, h5⟩, h6⟩
def Z7T (T : Bool × List (List Nat × List Nat)) (ds : List Nat) (l l' : List Bool) (i : Nat) : Bool := T.1 && Z55 T.2 l i && Z2R T.2 l i && Z4C T.2 l && Z66 T.2 l ds i && (l.set i true == l')
theorem Zad (hT : Z0I md ops = T) (h : Z7T T ds l.toList l'.toList i = true) : Z53 md ops ds l l' i = true := by
 simp only [Z7T, Bool.and_eq_true] at h
 obtain ⟨⟨⟨⟨⟨h1, h2⟩, h3⟩, h4⟩, h5⟩, h6⟩ := h
 have h7 := Z4L h3 hT
 have h8 := Z3i h6
 subst hT
 simp only [Z53, Bool.and_eq_true]
 exact ⟨⟨⟨⟨⟨h1, by rw [Z79]; exact h2⟩, h7⟩, by rw [Z8l]; exact h4⟩, by rw [Z7a]; exact h5⟩, h8⟩
theorem ZQ (hT : Z0I md ops = T) (h : (Z3h T.2 l.toList == [i] && l.toList.set i true == l'.toList) = true) : Z3U md ops l l' i = true := by
 simp only [Bool.and_eq_true] at h
 obtain ⟨h1, h2⟩ := h
 subst hT
 simp only [Z3U, Bool.and_eq_true]
 exact ⟨by rw [Z31]; exact h1, Z3i h2⟩
theorem Z1R (hT : Z0I md ops = T) (h : (Z3h T.2 l.toList == [i, j] && l.toList.set i true == li.toList && l.toList.set j true == lj.toList) = true) : (Region.ready md ops l == [i, j] && l.setIfInBounds i true == li && l.setIfInBounds j true == lj) = true := by
 simp only [Bool.and_eq_true] at h ⊢
 obtain ⟨⟨h1, h2⟩, h3⟩ := h
 subst hT
 exact ⟨⟨by rw [Z31]; exact h1, Z3i h2⟩, Z3i h3⟩
theorem Z43 (hT : Z0I md ops = T) (h : (Z3h T.2 l.toList == [i, j, k] && l.toList.set i true == li.toList && l.toList.set j true == lj.toList && l.toList.set k true == lk.toList) = true) :
  (Region.ready md ops l == [i, j, k] && l.setIfInBounds i true == li && l.setIfInBounds j true == lj && l.setIfInBounds k true == lk) = true := by
 simp only [Bool.and_eq_true] at h ⊢
 obtain ⟨⟨⟨h1, h2⟩, h3⟩, h4⟩ := h
 subst hT
 exact ⟨⟨⟨by rw [Z31]; exact h1, Z3i h2⟩, Z3i h3⟩, Z3i h4⟩
theorem Z0U (hT : Z0I md ops = T) (h : (Z3h T.2 l.toList == []) = true) : (Region.ready md ops l == []) = true := by
 subst hT
 rw [Z31]
 exact h
def upM (B : List Nat) (d : Nat) : List Nat → Nat
 | [] => 0
 | n :: r => (2 ^ n ||| (if n < d then B.getD n 0 else 0)) ||| upM B d r
def Z0S (T : List (List Nat × List Nat)) (B : List Nat) : Bool := (List.range T.length).all fun d => match T[d]? with
 | some r => (B.getD d 0 ||| upM B d r.1) == upM B d r.1
 | none => false
theorem Z7b {B : List Nat} {d i : Nat} : ∀ {ns : List Nat}, (upM B d ns).testBit i = true → ∃ n ∈ ns, n = i ∨ (n < d ∧ (B.getD n 0).testBit i = true)
 | [], h => by simp [upM] at h
 | n :: r, h => by
  unfold upM at h
  rw [Nat.testBit_or, Nat.testBit_or, Bool.or_eq_true, Bool.or_eq_true] at h
  rcases h with (h | h) | h
  ·rw [Nat.testBit_two_pow] at h
   exact ⟨n, List.mem_cons_self, .inl (by simpa using h)⟩
  ·by_cases hn : n < d
   ·rw [if_pos hn] at h
    exact ⟨n, List.mem_cons_self, .inr ⟨hn, h⟩⟩
   rw [if_neg hn] at h
   simp at h
  obtain ⟨m, hm, h2⟩ := Z7b h
  exact ⟨m, List.mem_cons_of_mem _ hm, h2⟩
theorem Z5P {T : List (List Nat × List Nat)} {B : List Nat} (hB : Z0S T B = true) : ∀ (fuel d : Nat), d < fuel → d < T.length → (B.getD d 0).testBit i = true → Z3V T i fuel d = true
 | 0, d, h, _, _ => by omega
 | fuel + 1, d, h, hd, hb => by
  have h1 := List.all_eq_true.1 hB d (List.mem_range.2 hd)
  cases hr : T[d]? with
  | none => rw [hr] at h1; simp at h1
  | some r =>
   rw [hr] at h1
   simp only [beq_iff_eq] at h1
   have h2 : (upM B d r.1).testBit i = true := by rw [← h1, Nat.testBit_or, hb, Bool.true_or]
   obtain ⟨n, hn, h3⟩ := Z7b h2
   unfold Z3V
   rw [hr]
   simp only
   rw [List.any_eq_true]
   refine ⟨n, hn, ?_⟩
   rcases h3 with rfl | ⟨h4, h5⟩
   ·simp
   rw [Z5P hB fuel n (by omega) (by omega) h5, Bool.or_true]
def Z9W (T : List (List Nat × List Nat)) (B : List Nat) (l : List Bool) (ds : List Nat) (i : Nat) : Bool := ds.all fun d => l.getD d true || (decide (d < T.length) && (B.getD d 0).testBit i)
def Z7U (T : Bool × List (List Nat × List Nat)) (B : List Nat) (ds : List Nat) (l l' : List Bool) (i : Nat) : Bool := T.1 && Z55 T.2 l i && Z2R T.2 l i && Z4C T.2 l && Z9W T.2 B l ds i && (l.set i true == l')
theorem Z99 {B : List Nat} (hT : Z0I md ops = T) (hB : Z0S T.2 B = true) (h : Z7U T B ds l.toList l'.toList i = true) : Z53 md ops ds l l' i = true := by
 refine Zad hT ?_
 simp only [Z7U, Z7T, Bool.and_eq_true] at h ⊢
 obtain ⟨⟨⟨⟨⟨h1, h2⟩, h3⟩, h4⟩, h5⟩, h6⟩ := h
 refine ⟨⟨⟨⟨⟨h1, h2⟩, h3⟩, h4⟩, ?_⟩, h6⟩
 unfold Z9W at h5
 unfold Z66
 rw [List.all_eq_true] at h5 ⊢
 intro d hd
 have h7 := h5 d hd
 rw [Bool.or_eq_true, Bool.and_eq_true, decide_eq_true_eq] at h7
 rcases h7 with h7 | ⟨h8, h9⟩
 ·rw [h7, Bool.true_or]
 rw [Z5P hB _ d h8 h8 h9, Bool.or_true]
theorem Z0r {P : Program} {Q : Exit → Act → World → Prop} {S : World → Prop} {n : Nat} {a : Act} {w : World} {B : List Nat} (hT : Z0I md ops = T) (hB : Z0S T.2 B = true) (h : Aside0 (Z0I md ops = T) → Aside0 (Z0S T.2 B = true) → wpAnyLast P md ops Q S ds n l a w) : wpAnyLast P md ops Q S ds n l a w := h ⟨hT⟩ ⟨hB⟩
end
def Z3c : Code → Nat → Option (Array Oper)
 | .region id ops _, k => if id == k then some ops else none
 | .seq a b, k => match Z3c a k with
  | some o => some o
  | none => Z3c b k
 | .cond _ a b, k => match Z3c a k with
  | some o => some o
  | none => Z3c b k
 | .block _ c, k => Z3c c k
 | .loop c, k => Z3c c k
 | .scope c, k => Z3c c k
 | .rangeFunc _ _ a b, k => match Z3c a k with
  | some o => some o
  | none => Z3c b k
 | _, _ => none
def Z1U (f : Func) (k : Nat) : Array Oper := ((f.body.bind fun c => Z3c c k)).getD #[]
end Go.Proofs.YtnjfckadjklmfaaDoorW.PrintLast
