/- Words of the printed texts, cut down to what is used. -/
import Derived.Test.YtjnfipkbgmdpaaaGreatDoorXAlgRisesWLast
import Derived.Test.YtjnfipkbgmdpaaaGreatDoorXAlgRisesWWords
namespace Go.Proofs.YtjnfipkbgmdpaaaGreatDoorW.PrintLast
open Go.Proofs.YtjnfipkbgmdpaaaGreatDoorW.PrintWords (Aside0)
def Z4g (md : Region.Mode) (o : Oper) : List Nat := (o.after.toList.filter (fun e => Region.binds md e)).map (fun e => e.on)
def Z77 (md : Region.Mode) (ops : Array Oper) (i : Nat) (oi : Oper) : List Nat := (List.range ops.size).filter fun j => !(j == i) && match ops[j]? with
 | some oj => !(oj.after.any (fun e => Region.binds md e && e.on == i) || oi.apart ops oj)
 | none => false
def Z1r (md : Region.Mode) (ops : Array Oper) : Bool × List (List Nat × List Nat) := (Region.noSelect ops, (List.range ops.size).map fun i => match ops[i]? with
 | some o => (Z4g md o, Z77 md ops i o)
 | none => ([], []))
def Z3w (T : List (List Nat × List Nat)) (l : List Bool) (i : Nat) : Bool := !l.getD i true && match T[i]? with
 | some r => r.1.all (fun j => l.getD j false)
 | none => false
def Z4Q (T : List (List Nat × List Nat)) (l : List Bool) : List Nat := (List.range T.length).filter (Z3w T l)
def Z6w (T : List (List Nat × List Nat)) (l : List Bool) (i : Nat) : Bool := match T[i]? with
 | some r => r.2.all (fun j => l.getD j true)
 | none => false
def Z5N (T : List (List Nat × List Nat)) (l : List Bool) : Bool := (List.range T.length).all fun j => !l.getD j false || match T[j]? with
 | some r => r.1.all (fun k => l.getD k false)
 | none => true
def Z4R (T : List (List Nat × List Nat)) (i : Nat) : Nat → Nat → Bool
 | 0, _ => false
 | fuel + 1, d => match T[d]? with
  | some r => r.1.any fun j => j == i || Z4R T i fuel j
  | none => false
def Z7W (T : List (List Nat × List Nat)) (l : List Bool) (ds : List Nat) (i : Nat) : Bool := ds.all fun d => l.getD d true || Z4R T i T.length d
section
variable {md : Region.Mode} {ops : Array Oper} {T : Bool × List (List Nat × List Nat)} {l l' li lj lk : Array Bool} {ds : List Nat} {i j k : Nat}
theorem gd (l : Array Bool) (j : Nat) (b : Bool) : l.getD j b = l.toList.getD j b := by simp [Array.getD_eq_getD_getElem?, List.getD_eq_getElem?_getD]
theorem Z7w (o : Oper) (p : Nat → Bool) : o.after.all (fun e => !Region.binds md e || p e.on) = (Z4g md o).all p := by
 unfold Z4g
 rw [← Array.all_toList]
 induction o.after.toList with
 | nil => rfl
 | cons e r ih =>
  rw [List.all_cons, ih, List.filter_cons]
  cases h : Region.binds md e <;> simp
theorem Zb6 (o : Oper) (p : Nat → Bool) : o.after.any (fun e => Region.binds md e && p e.on) = (Z4g md o).any p := by
 unfold Z4g
 rw [← Array.any_toList]
 induction o.after.toList with
 | nil => rfl
 | cons e r ih =>
  rw [List.any_cons, ih, List.filter_cons]
  cases h : Region.binds md e <;> simp
theorem Z3T : (Z1r md ops).2.length = ops.size := by simp [Z1r]
theorem Z4D {o : Oper} (h : ops[i]? = some o) : (Z1r md ops).2[i]? = some (Z4g md o, Z77 md ops i o) := by
 have hi := (Array.getElem?_eq_some_iff.1 h).1
 unfold Z1r
 rw [List.getElem?_map, List.getElem?_range hi, Option.map_some, h]
theorem Z4E (h : ops[i]? = none) : (Z1r md ops).2[i]? = none := by
 have hi : ops.size ≤ i := Array.getElem?_eq_none_iff.1 h
 exact List.getElem?_eq_none (by rw [Z3T]; exact hi)
theorem Zac : Z3w (Z1r md ops).2 l.toList i = (!l.getD i true && ((ops[i]?).map (·.after.all fun e => !Region.binds md e || l.getD e.on false)).getD false) := by
 unfold Z3w
 rw [gd]
 cases h : ops[i]? with
 | none => rw [Z4E h]; rfl
 | some o =>
  rw [Z4D h]
  simp only [Option.map_some, Option.getD_some]
  rw [← Z7w]
  simp only [gd]
theorem Z5a : Region.ready md ops l = Z4Q (Z1r md ops).2 l.toList := by
 unfold Region.ready Z4Q
 rw [Z3T]
 refine List.filter_congr (fun i _ => ?_)
 rw [Zac]
theorem Z9i : Region.free md ops l i = Z6w (Z1r md ops).2 l.toList i := by
 unfold Region.free Z6w
 cases h : ops[i]? with
 | none => rw [Z4E h]
 | some oi =>
  rw [Z4D h]
  simp only [Z77]
  rw [List.all_filter]
  congr 1
  funext j
  rw [gd]
  cases hj : ops[j]? with
  | none => cases (j == i) <;> cases (l.toList.getD j true) <;> simp
  | some oj =>
   cases (j == i) <;> cases (l.toList.getD j true) <;> cases (oj.after.any (fun e => Region.binds md e && e.on == i) || oi.apart ops oj) <;> simp_all
theorem Zb7 : Region.closedB md ops l = Z5N (Z1r md ops).2 l.toList := by
 unfold Region.closedB Z5N
 rw [Z3T]
 congr 1
 funext j
 rw [gd]
 cases h : ops[j]? with
 | none => rw [Z4E h]
 | some o =>
  rw [Z4D h]
  simp only
  rw [← Z7w]
  simp only [gd]
theorem Z8e : ∀ (fuel d : Nat), Region.reachB md ops i fuel d = Z4R (Z1r md ops).2 i fuel d
 | 0, _ => rfl
 | fuel + 1, d => by
  unfold Region.reachB Z4R
  cases h : ops[d]? with
  | none => rw [Z4E h]
  | some o =>
   rw [Z4D h]
   simp only
   rw [← Zb6]
   congr 1
   funext e
   rw [Z8e fuel]
theorem Z9j : Region.lastB md ops l ds i = Z7W (Z1r md ops).2 l.toList ds i := by
 unfold Region.lastB Z7W
 rw [Z3T]
 congr 1
 funext d
 rw [gd, Z8e]
theorem Z6a (h : Z3w T.2 l.toList i = true) (hT : Z1r md ops = T) : (Region.ready md ops l).contains i = true := by
 subst hT
 rw [Z5a]
 unfold Z4Q
 rw [List.contains_iff_mem, List.mem_filter, List.mem_range]
 refine ⟨?_, h⟩
 unfold Z3w at h
 rw [Bool.and_eq_true] at h
 cases hq : (Z1r md ops).2[i]? with
 | none => rw [hq] at h; simp at h
 | some r => exact (List.getElem?_eq_some_iff.1 hq).1
theorem Z8f (h : (l.toList.set i true == l'.toList) = true) : (l.setIfInBounds i true == l') = true := by
 rw [beq_iff_eq] at h ⊢
 apply Array.ext'
 rw [Array.toList_setIfInBounds]
 exact h
def Zcr (T : Bool × List (List Nat × List Nat)) (l l' : List Bool) (i : Nat) : Bool := T.1 && Z6w T.2 l i && Z3w T.2 l i && (l.set i true == l')
theorem Zf4 (hT : Z1r md ops = T) (h : Zcr T l.toList l'.toList i = true) : Zab md ops l l' i = true := by
 simp only [Zcr, Bool.and_eq_true] at h
 obtain ⟨⟨⟨h1, h2⟩, h3⟩, h4⟩ := h
 have h5 := Z6a h3 hT
 have h6 := Z8f h4
 subst hT
 simp only [Zab, Bool.and_eq_true]
 exact ⟨⟨⟨h1, by rw [Z9i]; exact h2⟩, h5⟩, h6⟩
def Zad (T : Bool × List (List Nat × List Nat)) (ds : List Nat) (l l' : List Bool) (i : Nat) : Bool := T.1 && Z6w T.2 l i && Z3w T.2 l i && Z5N T.2 l && Z7W T.2 l ds i && (l.set i true == l')
theorem ZdT (hT : Z1r md ops = T) (h : Zad T ds l.toList l'.toList i = true) : Z6u md ops ds l l' i = true := by
 simp only [Zad, Bool.and_eq_true] at h
 obtain ⟨⟨⟨⟨⟨h1, h2⟩, h3⟩, h4⟩, h5⟩, h6⟩ := h
 have h7 := Z6a h3 hT
 have h8 := Z8f h6
 subst hT
 simp only [Z6u, Bool.and_eq_true]
 exact ⟨⟨⟨⟨⟨h1, by rw [Z9i]; exact h2⟩, h7⟩, by rw [Zb7]; exact h4⟩, by rw [Z9j]; exact h5⟩, h8⟩
theorem Z0B (hT : Z1r md ops = T) (h : (Z4Q T.2 l.toList == [i] && l.toList.set i true == l'.toList) = true) : Z4P md ops l l' i = true := by
 simp only [Bool.and_eq_true] at h
 obtain ⟨h1, h2⟩ := h
 subst hT
 simp only [Z4P, Bool.and_eq_true]
 exact ⟨by rw [Z5a]; exact h1, Z8f h2⟩
theorem Z1F (hT : Z1r md ops = T) (h : (Z4Q T.2 l.toList == []) = true) : (Region.ready md ops l == []) = true := by
 subst hT
 rw [Z5a]
 exact h
def upM (B : List Nat) (d : Nat) : List Nat → Nat
 | [] => 0
 | n :: r => (2 ^ n ||| (if n < d then B.getD n 0 else 0)) ||| upM B d r
def Z1y (T : List (List Nat × List Nat)) (B : List Nat) : Bool := (List.range T.length).all fun d => match T[d]? with
 | some r => (B.getD d 0 ||| upM B d r.1) == upM B d r.1
 | none => false
theorem Z9k {B : List Nat} {d i : Nat} : ∀ {ns : List Nat}, (upM B d ns).testBit i = true → ∃ n ∈ ns, n = i ∨ (n < d ∧ (B.getD n 0).testBit i = true)
 | [], h => by simp [upM] at h
 | n :: r, h => by
  unfold upM at h
  rw [Nat.testBit_or, Nat.testBit_or, Bool.or_eq_true, Bool.or_eq_true] at h
  rcases h with (h | h) | h
  ·rw [Nat.testBit_two_pow] at h
   exact ⟨n, List.mem_cons_self, .inl (by simpa using h)⟩
  ·by_cases hn : n < d
   ·rw [if_pos hn] at h
    exact ⟨n, List.mem_cons_self, .inr ⟨hn, h⟩⟩
   rw [if_neg hn] at h
   simp at h
  obtain ⟨m, hm, h2⟩ := Z9k h
  exact ⟨m, List.mem_cons_of_mem _ hm, h2⟩
theorem Z7x {T : List (List Nat × List Nat)} {B : List Nat} (hB : Z1y T B = true) : ∀ (fuel d : Nat), d < fuel → d < T.length → (B.getD d 0).testBit i = true → Z4R T i fuel d = true
 | 0, d, h, _, _ => by omega
 | fuel + 1, d, h, hd, hb => by
  have h1 := List.all_eq_true.1 hB d (List.mem_range.2 hd)
  cases hr : T[d]? with
  | none => rw [hr] at h1; simp at h1
  | some r =>
   rw [hr] at h1
   simp only [beq_iff_eq] at h1
   have h2 : (upM B d r.1).testBit i = true := by rw [← h1, Nat.testBit_or, hb, Bool.true_or]
   obtain ⟨n, hn, h3⟩ := Z9k h2
   unfold Z4R
   rw [hr]
   simp only
   rw [List.any_eq_true]
   refine ⟨n, hn, ?_⟩
   rcases h3 with rfl | ⟨h4, h5⟩
   ·simp
   rw [Z7x hB fuel n (by omega) (by omega) h5, Bool.or_true]
def Zdw (T : List (List Nat × List Nat)) (B : List Nat) (l : List Bool) (ds : List Nat) (i : Nat) : Bool := ds.all fun d => l.getD d true || (decide (d < T.length) && (B.getD d 0).testBit i)
def Zae (T : Bool × List (List Nat × List Nat)) (B : List Nat) (ds : List Nat) (l l' : List Bool) (i : Nat) : Bool := T.1 && Z6w T.2 l i && Z3w T.2 l i && Z5N T.2 l && Zdw T.2 B l ds i && (l.set i true == l')
theorem Zcs {B : List Nat} (hT : Z1r md ops = T) (hB : Z1y T.2 B = true) (h : Zae T B ds l.toList l'.toList i = true) : Z6u md ops ds l l' i = true := by
 refine ZdT hT ?_
 simp only [Zae, Zad, Bool.and_eq_true] at h ⊢
 obtain ⟨⟨⟨⟨⟨h1, h2⟩, h3⟩, h4⟩, h5⟩, h6⟩ := h
 refine ⟨⟨⟨⟨⟨h1, h2⟩, h3⟩, h4⟩, ?_⟩, h6⟩
 unfold Zdw at h5
 unfold Z7W
 rw [List.all_eq_true] at h5 ⊢
 intro d hd
 have h7 := h5 d hd
 rw [Bool.or_eq_true, Bool.and_eq_true, decide_eq_true_eq] at h7
 rcases h7 with h7 | ⟨h8, h9⟩
 ·rw [h7, Bool.true_or]
 rw [Z7x hB _ d h8 h8 h9, Bool.or_true]
theorem Z15 {P : Program} {Q : Exit → Act → World → Prop} {S : World → Prop} {n : Nat} {a : Act} {w : World} {B : List Nat} (hT : Z1r md ops = T) (hB : Z1y T.2 B = true) (h : Aside0 (Z1r md ops = T) → Aside0 (Z1y T.2 B = true) → wpAnyLast P md ops Q S ds n l a w) : wpAnyLast P md ops Q S ds n l a w := h ⟨hT⟩ ⟨hB⟩
end
def Z3U : Code → Nat → Option (Array Oper)
 | .region id ops _, k => if id == k then some ops else none
 | .seq a b, k => match Z3U a k with
  | some o => some o
  | none => Z3U b k
 | .cond _ a b, k => match Z3U a k with
  | some o => some o
  | none => Z3U b k
 | .block _ c, k => Z3U c k
 | .loop c, k => Z3U c k
 | .scope c, k => Z3U c k
 | .rangeFunc _ _ a b, k => match Z3U a k with
  | some o => some o
  | none => Z3U b k
 | _, _ => none
def Z2T (f : Func) (k : Nat) : Array Oper := ((f.body.bind fun c => Z3U c k)).getD #[]
end Go.Proofs.YtjnfipkbgmdpaaaGreatDoorW.PrintLast
