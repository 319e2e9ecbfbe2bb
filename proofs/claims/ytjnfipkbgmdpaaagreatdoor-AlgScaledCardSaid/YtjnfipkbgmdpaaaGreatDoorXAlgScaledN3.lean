/- Plain part. -/
import Derived.Test.YtjnfipkbgmdpaaaGreatDoorXAlgScaledN2
namespace Go.Proofs.YtjnfipkbgmdpaaaGreatDoor.Nf
open Go.RowKit Go.Proofs.YtjnfipkbgmdpaaaGreatDoor.PAll Go.Proofs.YtjnfipkbgmdpaaaGreatDoorW.PrintWords Go.Proofs.YtjnfipkbgmdpaaaGreatDoorW.PrintLast Go.Proofs.YtjnfipkbgmdpaaaGreatDoorW.PrintMore Go.Proofs.YtjnfipkbgmdpaaaGreatDoor.Nm
set_option linter.unusedVariables false
set_option linter.unusedSimpArgs false
open Classical in
noncomputable def flA (A : Nat) : Int := if lsA KK A then (if mbA KK A = INn then 20 else if A ≠ 0 ∧ tyA KK A then 24 else 16) else 0
def nbZ (Z : Int) : Int := ((mbA KK Z.natAbs : Nat) : Int) + sX (decide (Z < 0))
theorem Z7L (K A : Nat) : mbA K A ≤ INn := Nat.min_le_left _ _
theorem Z6V (s : Bool) (l : List Int) (e : Int) : vl s l e = sg s (am (val l) e) := by unfold vl; rw [Z40]
theorem ZaB (s : Bool) (l : List Int) (e : Int) : decide (vl s l e < 0) = (s && decide (val l ≠ 0)) := by
 rw [Z6V]
 by_cases z : val l = 0
 ·rw [z, Z2h, Z1X]; cases s <;> rfl
 rw [Z3X s (Z3b z e), decide_eq_true z, Bool.and_true]
theorem Z7M (s : Bool) (l : List Int) (e : Int) : nbZ (vl s l e) = ((mbA KK (am (val l) e) : Nat) : Int) + sX (s && decide (val l ≠ 0)) := by
 unfold nbZ; rw [ZaB, Z3c]
theorem Z8R {m : Nat} (h : m ≤ INn) : Nb.ng (m : Int) = (m : Int) + 9223372036854775808 := by
 unfold Nb.ng; exact if_pos (by unfold INn at h; omega)
theorem Za1 (k : Nat) (s : Bool) (l : List Int) (e e' : Int) (v m : Nat) (fl : Int) (hm : m ≤ INn) : Z08.j0 (k + 1) s l e (ofN v) e' (m : Int) fl = some ((m : Int) + sX (s && decide (v ≠ 0)), fl) := by
 show (if s = true then _ else _) = _
 cases s with
 | false => rw [if_neg (by decide), Bool.false_and]; show _ = some ((m : Int) + 0, fl); rw [Int.add_zero]
 | true =>
  rw [if_pos rfl, Z4o, Z0, Bool.true_and]
  by_cases z : v = 0
  ·rw [if_pos (decide_eq_true z), decide_eq_false (not_not_intro z)]; show _ = some ((m : Int) + 0, fl); rw [Int.add_zero]
  rw [if_neg (by rw [decide_eq_true_iff]; exact z), Nb.Zai ⟨by omega, by unfold INn at hm; omega⟩, Z0, Z8R hm, decide_eq_true z]; rfl
theorem Zb3 (s : Bool) (l : List Int) (e : Int) (k : Nat) (w : Wl l) (h : Z0K (val l) e = true) (hk : 100000000000000000 ≤ k) : Z1J.f k s l e = some (ofN (val l), e) := by
 have f := Z0X.1 h
 have wl := w.2
 unfold Z1J.f
 rw [Z9G l k w.1 w.2 (by omega), if_pos f.1, Z0]
theorem Z7N {e : Int} (h : -300000 ≤ e) : lowE ≤ e := by unfold lowE; omega
theorem Z7O {v : Nat} {e : Int} (h : lowE ≤ e) : mbI v e = 9218868437227405312 ↔ mbA KK (am v e) = INn := by
 rw [Z4O v h]; show _ = ((INn : Nat) : Int) ↔ _; omega
theorem Za2 (s : Bool) (l : List Int) (e : Int) (k : Nat) (w : Wl l) (h : Z0K (val l) e = true) (hk : 100000000000000000 ≤ k) : Z08.f k s l e = some (nbZ (vl s l e), flA (vl s l e).natAbs) := by
 have f := Z0X.1 h
 obtain ⟨k, rfl⟩ : ∃ j, k = j + 1 := ⟨k - 1, by omega⟩
 unfold Z08.f
 rw [Zb3 s l e (k + 1) w h hk, Z0]
 show (Zg.f (k + 1) (ofN (val l)) e).bind _ = _
 have le := Z7N (e := e) (by omega)
 rw [Z6S (val l) e (k + 1) f.1 (by omega) (by omega) (by omega), Z0]
 show (if lsI (val l) e = true then (if mbI (val l) e = 9218868437227405312 then Z08.j0 (k + 1) s l e (ofN (val l)) e (mbI (val l) e) 20 else _) else Z08.j0 (k + 1) s l e (ofN (val l)) e (mbI (val l) e) 0) = _
 rw [Z9Y (val l) e (k + 1) f.1 (by omega) (by omega) (by omega), Z0, Z7M, Z3c]
 have ls := Z9d (val l) le
 have ty := Z9e (val l) le
 have mi := Z7O (v := val l) le
 have mb := Z4O (val l) le
 have am0 : val l ≠ 0 ↔ am (val l) e ≠ 0 := ⟨fun z => Z3b z e, fun z c => z (by rw [c, Z2h])⟩
 have J := fun fl => Za1 k s l e e (val l) (mbA KK (am (val l) e)) fl (Z7L _ _)
 unfold flA
 by_cases c1 : lsA KK (am (val l) e)
 ·rw [if_pos (ls.2 c1), if_pos c1]
  by_cases c2 : mbA KK (am (val l) e) = INn
  ·rw [if_pos (mi.2 c2), if_pos c2, mb, J]
  rw [if_neg (fun c => c2 (mi.1 c)), if_neg c2, mb]
  by_cases c3 : am (val l) e ≠ 0 ∧ tyA KK (am (val l) e)
  ·rw [if_pos (ty.2 ⟨am0.2 c3.1, c3.2⟩), if_pos c3, show Go.bits .or .u8 16 8 = 24 by decide, J]
  rw [if_neg (fun c => c3 ⟨am0.1 (ty.1 c).1, (ty.1 c).2⟩), if_neg c3, J]
 rw [if_neg (fun c => c1 (ls.1 c)), if_neg c1, mb, J]
noncomputable def Z4P (s : Bool) (l : List Int) (e : Int) : Int × Int × Int := if Z0K (val l) e = true then (nbZ (vl s l e), flA (vl s l e).natAbs, 0) else (0, 0, 2)
theorem Z8S (s : Bool) (l : List Int) (e : Int) (k : Nat) (w : Wl l) (hk : 100000000000000000 ≤ k) : Z1o.f k s l e = some (if Z0K (val l) e = true then 0 else 2) := by
 unfold Z1o.f
 rw [Z1Y s l e k w.1 w.2 hk, Z0]
 by_cases h : Z0K (val l) e = true
 ·rw [h]; rfl
 rw [Bool.eq_false_iff.2 h]; rfl
theorem Z6c (s : Bool) (l : List Int) (e : Int) (k : Nat) (w : Wl l) (hk : 100000000000000000 ≤ k) : Z0n.f k s l e = some (Z4P s l e) := by
 unfold Z0n.f Z4P
 rw [Z8S s l e k w hk, Z0]
 by_cases h : Z0K (val l) e = true
 ·rw [if_pos h, if_pos rfl, Za2 s l e k w h hk, Z0, if_pos h]
 rw [if_neg h, if_neg (by decide), if_neg h]
theorem Zbf (Z : Int) : Nb.W64 (nbZ Z) := by
 have := Z7L KK Z.natAbs
 unfold INn at this
 unfold Nb.W64 nbZ sX
 split <;> omega
theorem Z9f (v : Nat) {e : Int} (h : lowE ≤ e) : flA (am v e) = if lsI v e = true then (if mbI v e = Z1D then 20 else if Z1s v e = true then 24 else 16) else 0 := by
 have ls := Z9d v h
 have ty := Z9e v h
 have mi : mbI v e = Z1D ↔ mbA KK (am v e) = INn := Z7O h
 have am0 : v ≠ 0 ↔ am v e ≠ 0 := ⟨fun z => Z3b z e, fun z c => z (by rw [c, Z2h])⟩
 unfold flA
 by_cases c1 : lsI v e = true
 ·rw [if_pos c1, if_pos (ls.1 c1)]
  by_cases c2 : mbI v e = Z1D
  ·rw [if_pos c2, if_pos (mi.1 c2)]
  rw [if_neg c2, if_neg (fun c => c2 (mi.2 c))]
  by_cases c3 : Z1s v e = true
  ·rw [if_pos c3, if_pos ⟨am0.1 (ty.1 c3).1, (ty.1 c3).2⟩]
  rw [if_neg c3, if_neg (fun c => c3 (ty.2 ⟨am0.2 c.1, c.2⟩))]
 rw [if_neg c1, if_neg (fun c => c1 (ls.2 c))]
theorem ZaC {v : Int} (h0 : 0 ≤ v) (h1 : v < 18446744073709551616) : Wl [v] := ⟨Z5t h0 h1, Z4n v⟩
theorem Z2Y (v : Nat) (e : Int) (k : Nat) (hv : v < 18446744073709551616) (e0 : -32768 ≤ e) (e1 : e ≤ 32768) (hk : 100000000000000000 ≤ k) : Z0n.f k false [(v : Int)] e = some (mbI v e, (if lsI v e = true then (if mbI v e = Z1D then 20 else if Z1s v e = true then 24 else 16) else 0), 0) := by
 have le := Z7N (e := e) (by omega)
 have val1 : val [(v : Int)] = v := by rw [Z4m, Int.toNat_natCast]
 rw [Z6c false [(v : Int)] e k (ZaC (by omega) (by omega)) hk]
 unfold Z4P
 rw [val1, if_pos (Z0X.2 ⟨Z1Z hv, e0, e1⟩), Z7M, Z3c, val1, Z9f v le, Z4O v le, Bool.false_and]
 show some (((mbA KK (am v e) : Nat) : Int) + 0, _, _) = _
 rw [Int.add_zero]
theorem Z1S : bl 1 = 1 := Z0O (m := 0) (by decide) (by decide)
theorem Zbg : bl 3 = 2 := Z0O (m := 1) (by decide) (by decide)
theorem l1 (k : Nat) (hk : 100000000000000000 ≤ k) : Z0n.f k false [1] (-1075) = some (0, 24, 0) := by
 have := Z2Y 1 (-1075) k (by decide) (by decide) (by decide) hk
 refine this.trans ?_
 unfold lsI Z1s mbI Z1v Z0f Z0j
 rw [Z1S]
 decide
theorem l2 (k : Nat) (hk : 100000000000000000 ≤ k) : Z0n.f k false [1] 1024 = some (9218868437227405312, 20, 0) := by
 have := Z2Y 1 1024 k (by decide) (by decide) (by decide) hk
 refine this.trans ?_
 unfold lsI Z1s mbI Z1v Z0f Z0j
 rw [Z1S]
 decide
theorem l3 (k : Nat) (hk : 100000000000000000 ≤ k) : Z0n.f k false [3] (-1) = some (4609434218613702656, 0, 0) := by
 have := Z2Y 3 (-1) k (by decide) (by decide) (by decide) hk
 refine this.trans ?_
 unfold lsI Z1s mbI Z1v Z0f Z0j
 rw [Zbg]
 decide
theorem Z8T (Z : Int) : (Z < 0 ∧ nbZ Z = ((mbA KK Z.natAbs : Nat) : Int) + 9223372036854775808) ∨ (0 ≤ Z ∧ nbZ Z = ((mbA KK Z.natAbs : Nat) : Int)) := by
 unfold nbZ sX
 by_cases h : Z < 0
 ·rw [if_pos (decide_eq_true h)]; exact .inl ⟨h, rfl⟩
 rw [if_neg (by rw [decide_eq_true_iff]; exact h), Int.add_zero]; exact .inr ⟨by omega, rfl⟩
theorem ZaD {x : Int} (hx : Nb.W64 x) : am (Nb.ZH x).toNat (Nb.Z0i x) = amc KK (x % 9223372036854775808).toNat := by
 obtain ⟨a1, a2, a3, a4, a5, a6⟩ := Z1C hx
 have k := Z1H
 unfold Nb.ZH Nb.Z0i am amc
 by_cases q : Nb.ex x = 0
 ·rw [if_pos q, if_pos q]
  have h1 : mC (x % 9223372036854775808).toNat = (Nb.fr x).toNat := by unfold mC; rw [if_pos (by omega)]; omega
  have h2 : tC (x % 9223372036854775808).toNat = 0 := by unfold tC; omega
  rw [h1, h2, show (-1074 - lowE).toNat = KK from rfl, Nat.add_zero]
 rw [if_neg q, if_neg q]
 have h1 : mC (x % 9223372036854775808).toNat = (Nb.fr x + 4503599627370496).toNat := by unfold mC; rw [if_neg (by omega)]; omega
 have h2 : tC (x % 9223372036854775808).toNat = (Nb.ex x - 1).toNat := by unfold tC; omega
 rw [h1, h2, show (Nb.ex x - 1075 - lowE).toNat = KK + (Nb.ex x - 1).toNat by unfold lowE at *; omega]
theorem K1 : 1 ≤ KK := by have := Z6T; omega
theorem Z7P {v n m : Nat} (h : bl v + n ≤ m) : bl (v * 2 ^ n) ≤ m := by
 rw [ZO]; exact Z2X h
theorem Z3u {x : Int} (h : Nb.Z04 x) : (ZP x).2.2.2 = 0 := by unfold ZP; rw [if_pos h]
theorem Z4p {x : Int} (h : ¬ Nb.Z04 x) : ZP x = (false, [], 0, 5) := by unfold ZP; rw [if_neg h]
theorem Za3 {x : Int} (hx : Nb.W64 x) (h : Nb.Z04 x) : Rs (ZP x).2.1 (ZP x).2.2.1 := by
 have f := Z4F hx h
 refine Z2f ?_ ?_ f
 ·unfold ZP; rw [if_pos h]
  exact (Z6O (ZU x) (Nb.Z0i x) (by have := Nb.Z2b hx; have := Z0Y (v := (Nb.ZH x).toNat) (by omega); omega)).1
 unfold ZP; rw [if_pos h]
 exact (Z6O (ZU x) (Nb.Z0i x) (by have := Nb.Z2b hx; have := Z0Y (v := (Nb.ZH x).toNat) (by omega); omega)).2
def hC (c : Nat) : Nat := 2 ^ (KK + tC c - 1)
theorem Z6W {V e : Int} {n : Nat} (h : bl V.natAbs ≤ n) (hn : n ≤ 5000) (h0 : -5000 ≤ e) (h1 : e ≤ 5000) : Z0K (val (cz V e).2.1) (cz V e).2.2 = true ∧ Wl (cz V e).2.1 := by
 have b : V.natAbs < big := ZT.2 (by omega)
 have lb := Z05 b
 refine ⟨?_, Z6P e (by omega)⟩
 unfold cz
 by_cases z : V.natAbs = 0
 ·rw [z, Z0J]; exact Z0X.2 ⟨by rw [Z1l]; exact ZT.2 (by rw [Z0z]; omega), by show (-32768 : Int) ≤ 0; decide, by show (0 : Int) ≤ 32768; decide⟩
 have t := Z3V z
 rw [Z19 z]
 refine Z0X.2 ⟨?_, ?_, ?_⟩
 ·show val (ofN (od V.natAbs)) < big
  rw [Z1]; exact Nat.lt_of_le_of_lt (Z3n _) b
 ·show -32768 ≤ e + (tz V.natAbs : Int); omega
 show e + (tz V.natAbs : Int) ≤ 32768; omega
noncomputable def stS (s : Bool) (r : Nat) (e : Int) (more : Bool) : Int × Int := (nbZ (sg s (am (2 * r + if more = true then 1 else 0) (e - 1))), flA (am (2 * r + if more = true then 1 else 0) (e - 1)))
theorem Za4 {r : Nat} (h : bl r ≤ 60000) : (Z2m r 1).1 = ofN (2 * r) := by
 unfold Z2m
 rw [if_pos (ZT.2 (by omega)), if_neg (by decide)]
 by_cases z : r = 0
 ·rw [if_pos z, z, Nat.mul_zero, Zv]
 rw [if_neg z, if_pos (by show bl r + 1 ≤ 65536; omega)]
 show ofN (r * 2) = _
 rw [Nat.mul_comm]
theorem ZaE {r n : Nat} (h : bl r ≤ n) : 2 * r + 1 < 2 ^ (n + 1) := by
 rw [ZO] at h
 rw [Nat.pow_succ]; omega
theorem Za5 {r n : Nat} (h : bl r ≤ n) : bl (2 * r + 1) ≤ n + 1 := ZO.2 (ZaE h)
theorem Z6d (s : Bool) (n : Nat) (e : Int) (k : Nat) (h : n < big) (e0 : -30000 ≤ e) (e1 : e ≤ 30000) (hk : 100000000000000000 ≤ k) : Z0n.f k s (ofN n) e = some (nbZ (sg s (am n e)), flA (am n e), 0) := by
 have len := Z05 h
 rw [Z6c s (ofN n) e k (Z2p (by omega)) hk]
 unfold Z4P
 have f : Z0K (val (ofN n)) e = true := by rw [Z1]; exact Z0X.2 ⟨h, by omega, by omega⟩
 rw [if_pos f, Z6V, Z1, Z1z]
theorem Z24 (s : Bool) (r : Nat) (e : Int) (more : Bool) (k : Nat) (h : bl r ≤ 60000) (e0 : -20000 ≤ e) (e1 : e ≤ 20000) (hk : 100000000000000000 ≤ k) : ZS.f k s (ofN r) e more = some (stS s r e more) := by
 have hb : 2 * r + 1 < big := ZT.2 (Nat.le_trans (Za5 h) (by decide))
 have hr : r < big := ZT.2 (by omega)
 have lr := Z05 hr
 have l2 := Z05 (show 2 * r < big by omega)
 have l1 : (ofN 1).length ≤ 1 := Z0Y (by omega)
 have w : wrap64 (e - 1) = e - 1 := by unfold wrap64; omega
 unfold ZS.f stS
 rw [Z37 (ofN r) 1 k (Zf r) (by omega) (by omega), Z1, Z0, Za4 h, w]
 cases more with
 | false =>
  rw [if_neg (by decide), Z6d s (2 * r) (e - 1) k (by omega) (by omega) (by omega) hk, Z0, if_neg (by decide), Nat.add_zero]
 | true =>
  rw [if_pos rfl]
  show (Z1i.f k ((1 : Nat) : Int)).bind _ = _
  rw [Z5k 1 k (by decide) (by omega), Z0, Zal (ofN (2 * r)) (ofN 1) k (Zf _) (Zf _) (by omega) (by omega) (by omega), Z1, Z1, if_pos ⟨by omega, Z1Z (by decide)⟩, if_pos hb, Z0]
  show (Z0n.f k s (ofN (2 * r + 1)) (e - 1)).bind _ = _
  rw [Z6d s (2 * r + 1) (e - 1) k hb (by omega) (by omega) hk, Z0, if_pos rfl]
def scI (e s0 kk : Int) : Int := s0 + (e - s0) % kk
def scS (v : Nat) (e s kk : Int) : List Int × Int × Bool := if 0 ≤ s then (ofN (v * 2 ^ s.toNat), (e - s) / kk, false) else (ofN (v / 2 ^ (-s).toNat), (e - s) / kk, decide (v % 2 ^ (-s).toNat ≠ 0))
theorem Za6 {a kk : Int} (hk : 0 < kk) (h : a % kk = 0) : Int.tdiv a kk = a / kk := by
 obtain ⟨c, rfl⟩ := Int.dvd_of_emod_eq_zero h
 rw [Int.mul_tdiv_cancel_left _ (by omega), Int.mul_ediv_cancel_left _ (by omega)]
theorem Z2w {a kk : Int} : Int.tmod a kk = 0 ↔ a % kk = 0 := by
 rw [← Int.dvd_iff_tmod_eq_zero, ← Int.dvd_iff_emod_eq_zero]
theorem Z5J (b : Bool) (l : List Int) (e kk : Int) (w : Wl l) (hv : val l < big) (v0 : val l ≠ 0) (hkk : kk = 2 ∨ kk = 3) (e0 : -20000 ≤ e) (e1 : e ≤ 20000) :
  ∀ (d k : Nat) (s : Int), ((e - s) % kk).toNat = d → -70000 ≤ s → (bl (val l) : Int) + s + d ≤ 1000 → 100000000000000 + d ≤ k → ZW.l0 k kk s b l e = some (scS (val l) e (scI e s kk) kk) := by
 have wl := w.2
 have lb := ZT.1 hv
 intro d
 induction d with
 | zero =>
  intro k s hd s0 s1 hk
  obtain ⟨k, rfl⟩ : ∃ j, k = j + 1 := ⟨k - 1, by omega⟩
  have z : (e - s) % kk = 0 := by rcases hkk with rfl | rfl <;> omega
  have we : wrap64 (e - s) = e - s := by unfold wrap64; omega
  rw [ZW.l0, we, if_neg (by omega), if_pos (Z2w.2 z), Za6 (by omega) z]
  have wd : wrap64 ((e - s) / kk) = (e - s) / kk := by unfold wrap64; rcases hkk with rfl | rfl <;> omega
  unfold scS scI
  rw [z, Int.add_zero, wd]
  by_cases c : 0 ≤ s
  ·rw [if_pos c, if_pos c, Z37 l s k w.1 wl (by omega), Z0]
   unfold Z2m
   rw [if_pos hv, if_neg (by omega), if_neg v0, if_pos (by omega)]
  have wn : wrap64 (-s) = (((-s).toNat : Nat) : Int) := by unfold wrap64; omega
  rw [if_neg c, if_neg c, wn, Z7h l _ k w.1 (by omega) wl (by omega), Z0]
  unfold Z5b
  rw [if_pos hv, if_neg (by omega), Int.toNat_natCast]
 | succ d ih =>
  intro k s hd s0 s1 hk
  obtain ⟨k, rfl⟩ : ∃ j, k = j + 1 := ⟨k - 1, by omega⟩
  have z : ¬ (e - s) % kk = 0 := by intro c; rw [c] at hd; cases hd
  have we : wrap64 (e - s) = e - s := by unfold wrap64; omega
  have ws : wrap64 (s + 1) = s + 1 := by unfold wrap64; omega
  have dd : ((e - (s + 1)) % kk).toNat = d ∧ scI e (s + 1) kk = scI e s kk ∧ (bl (val l) : Int) + (s + 1) + d ≤ 1000 := by
   unfold scI
   rcases hkk with rfl | rfl <;> omega
  rw [ZW.l0, we, if_neg (by omega), if_neg (fun c => z (Z2w.1 c)), ws, ih k (s + 1) dd.1 (by omega) dd.2.2 (by omega), dd.2.1]
theorem Z4H (b : Bool) (l : List Int) (e kk bits : Int) (k : Nat) (w : Wl l) (hv : val l < big) (v0 : val l ≠ 0) (hkk : kk = 2 ∨ kk = 3) (e0 : -20000 ≤ e) (e1 : e ≤ 20000) (b0 : 0 ≤ bits) (b1 : bits ≤ 900) (hk : 100000000000000000 ≤ k) :
  ZW.f k b l e kk bits = some (scS (val l) e (scI e (bits - (bl (val l) : Int)) kk) kk) := by
 have lb := ZT.1 hv
 have wl := w.2
 unfold ZW.f
 rw [Z3S l k w.1 wl (by omega), if_pos hv, Z0]
 show ZW.l0 k kk (wrap64 (bits - (bl (val l) : Int))) b l e = _
 rw [show wrap64 (bits - (bl (val l) : Int)) = bits - (bl (val l) : Int) by unfold wrap64; omega]
 exact Z5J b l e kk w hv v0 hkk e0 e1 _ k _ rfl (by omega) (by rcases hkk with rfl | rfl <;> omega) (by rcases hkk with rfl | rfl <;> omega)
def scN (v : Nat) (s : Int) : Nat := if 0 ≤ s then v * 2 ^ s.toNat else v / 2 ^ (-s).toNat
def scL (v : Nat) (s : Int) : Bool := if 0 ≤ s then false else decide (v % 2 ^ (-s).toNat ≠ 0)
theorem Z7Q (v : Nat) (e s kk : Int) : scS v e s kk = (ofN (scN v s), (e - s) / kk, scL v s) := by
 unfold scS scN scL
 by_cases c : 0 ≤ s
 ·rw [if_pos c, if_pos c, if_pos c]
 rw [if_neg c, if_neg c, if_neg c]
theorem Z7R {v : Nat} {s : Int} {m : Nat} (v0 : v ≠ 0) (h : (bl v : Int) + s ≤ m) : bl (scN v s) ≤ m := by
 unfold scN
 by_cases c : 0 ≤ s
 ·rw [if_pos c, Z2j v0]; omega
 rw [if_neg c, ZO]
 exact Z4G (by omega)
theorem Z2q (e s0 : Int) {kk : Int} (hkk : kk = 2 ∨ kk = 3) : s0 ≤ scI e s0 kk ∧ scI e s0 kk ≤ s0 + 2 ∧ (e - scI e s0 kk) % kk = 0 := by
 unfold scI
 rcases hkk with rfl | rfl <;> omega
theorem Z2A (v : Nat) : decide (((ofN v).length : Int) > 0) = decide (v ≠ 0) := by
 have := @Z0e v
 rw [Bool.eq_iff_iff, decide_eq_true_iff, decide_eq_true_iff]
 constructor
 ·intro h c; have := this.2 c; omega
 intro h
 have : (ofN v).length ≠ 0 := fun c => h (this.1 c)
 omega
def rtE (v : Nat) (e kk : Int) : Int := (e - scI e (kk * 64 - (bl v : Int)) kk) / kk
def rtN (v : Nat) (e kk : Int) : Nat := scN v (scI e (kk * 64 - (bl v : Int)) kk)
def rtL (v : Nat) (e kk : Int) : Bool := scL v (scI e (kk * 64 - (bl v : Int)) kk)
theorem Z41 {v : Nat} {e kk : Int} (hkk : kk = 2 ∨ kk = 3) (hb : bl v ≤ 9000) (e0 : -9000 ≤ e) (e1 : e ≤ 9000) : -20000 ≤ rtE v e kk ∧ rtE v e kk ≤ 20000 := by
 have := Z2q e (kk * 64 - (bl v : Int)) hkk
 unfold rtE
 rcases hkk with rfl | rfl <;> omega
theorem Z42 (s : Bool) (r d : Nat) (e : Int) (lo : Bool) (k : Nat) (h : bl r ≤ 60000) (e0 : -20000 ≤ e) (e1 : e ≤ 20000) (hk : 100000000000000000 ≤ k) :
  (if lo = true then ((ZS.f k s (ofN r) e true).bind fun bt => (some (bt.1, bt.2))) else ((ZS.f k s (ofN r) e (decide (((ofN d).length : Int) > 0))).bind fun bt => (some (bt.1, bt.2)))) = some (stS s r e (lo || decide (d ≠ 0))) := by
 rw [Z2A, Z24 s r e true k h e0 e1 hk, Z24 s r e _ k h e0 e1 hk, Z0, Z0]
 cases lo <;> rfl
theorem Z43 (l : List Int) (e : Int) (k : Nat) (w : Wl l) (v0 : val l ≠ 0) (hb : bl (val l) ≤ 9000) (e0 : -9000 ≤ e) (e1 : e ≤ 9000) (hk : 2000000000000000000000 ≤ k) :
  ∃ r, IsR (fun r => r * r * r) (rtN (val l) e 3) r ∧ ∀ s, Z0c.f k s l e 3 37 = some (stS s r (rtE (val l) e 3) (rtL (val l) e 3 || decide (rtN (val l) e 3 - r * r * r ≠ 0))) := by
 have hv : val l < big := ZT.2 (by omega)
 have sb := Z2q e (3 * 64 - (bl (val l) : Int)) (.inr rfl)
 have nb : bl (rtN (val l) e 3) ≤ 194 := Z7R v0 (by omega)
 have nl : rtN (val l) e 3 < big := ZT.2 (by omega)
 have len := Z05 nl
 have pw : 2 ^ ((bl (rtN (val l) e 3) + 2) / 3) ≤ 2 ^ 65 := Nat.pow_le_pow_right (by decide) (by omega)
 have p65 : (2 : Nat) ^ 65 = 36893488147419103232 := by decide
 obtain ⟨r, hr, hi, hl⟩ := (Z9L (ofN (rtN (val l) e 3)) k (Zf _) (by omega) (by rw [Z1]; omega)).1 (by rw [Z1]; exact nl)
 rw [Z1] at hr hi
 have br : bl r ≤ 60000 := Nat.le_trans (Z3a hl) (by decide)
 have eb := Z41 (v := val l) (e := e) (.inr rfl) hb e0 e1
 refine ⟨r, hi, fun s => ?_⟩
 unfold Z0c.f
 rw [show wrap64 (3 * 64) = 3 * 64 by unfold wrap64; omega, Z4H s l e 3 (3 * 64) k w hv v0 (.inr rfl) (by omega) (by omega) (by decide) (by decide) (by omega), Z7Q, Z0, if_pos rfl]
 show ((Z1d.f k (ofN (rtN (val l) e 3))).bind _) = _
 rw [hr, Z0]
 exact Z42 s r _ (rtE (val l) e 3) (rtL (val l) e 3) k br eb.1 eb.2 (by omega)
theorem Z2Z (l : List Int) (e : Int) (k : Nat) (w : Wl l) (v0 : val l ≠ 0) (hb : bl (val l) ≤ 9000) (e0 : -9000 ≤ e) (e1 : e ≤ 9000) (hk : 2000000000000000000000 ≤ k) :
  ∃ r, IsR (fun r => r * r) (rtN (val l) e 2) r ∧ ∀ s, Z0c.f k s l e 2 40 = some (stS s r (rtE (val l) e 2) (rtL (val l) e 2 || decide (rtN (val l) e 2 - r * r ≠ 0))) := by
 have hv : val l < big := ZT.2 (by omega)
 have sb := Z2q e (2 * 64 - (bl (val l) : Int)) (.inl rfl)
 have nb : bl (rtN (val l) e 2) ≤ 130 := Z7R v0 (by omega)
 have nl : rtN (val l) e 2 < big := ZT.2 (by omega)
 have len := Z05 nl
 have pw : 2 ^ ((bl (rtN (val l) e 2) + 1) / 2) ≤ 2 ^ 65 := Nat.pow_le_pow_right (by decide) (by omega)
 have p65 : (2 : Nat) ^ 65 = 36893488147419103232 := by decide
 obtain ⟨r, hr, hi⟩ := (Z4j (ofN (rtN (val l) e 2)) k (Zf _) (by omega) (by rw [Z1]; omega)).1 (by rw [Z1]; exact nl)
 rw [Z1] at hr hi
 have r1 : r ≤ rtN (val l) e 2 := by
  have : r * r ≤ rtN (val l) e 2 := hi.1
  rcases Nat.eq_zero_or_pos r with z | z
  ·omega
  exact Nat.le_trans (Nat.le_mul_of_pos_left r z) this
 have br : bl r ≤ 60000 := Nat.le_trans (Z2B r1) (by omega)
 have eb := Z41 (v := val l) (e := e) (.inl rfl) hb e0 e1
 refine ⟨r, hi, fun s => ?_⟩
 unfold Z0c.f
 rw [show wrap64 (2 * 64) = 2 * 64 by unfold wrap64; omega, Z4H s l e 2 (2 * 64) k w hv v0 (.inl rfl) (by omega) (by omega) (by decide) (by decide) (by omega), Z7Q, Z0, if_neg (by decide)]
 show ((Z0F.f k (ofN (rtN (val l) e 2))).bind _) = _
 rw [hr, Z0]
 exact Z42 s r _ (rtE (val l) e 2) (rtL (val l) e 2) k br eb.1 eb.2 (by omega)
theorem Z10 (x : Int) (k : Nat) (hx : Nb.W64 x) (hk : 100000000000000000 ≤ k) : ZV.f k x = some (ZP x) := by
 unfold ZV.f
 rw [Z8L x k hx hk, Z0]
theorem Z1Q {x : Int} (hx : Nb.W64 x) (f : Nb.Z04 x) (z : x % 9223372036854775808 ≠ 0) : ZP x = (ZU x, ofN (od (Nb.ZH x).toNat), Nb.Z0i x + (tz (Nb.ZH x).toNat : Int), 0) := by
 have m := Nb.Z2b hx
 have mz : (Nb.ZH x).toNat ≠ 0 := fun c => z ((Z3d hx).1 (by omega))
 unfold ZP
 rw [if_pos f, Z19 mz]
def JJ : Nat := (-2148 - lowE).toNat
theorem Z9g : (JJ : Int) = -2148 - lowE := by unfold JJ lowE; omega
theorem Z7S {a b n : Nat} (ha : bl a ≤ n) (hb : bl b ≤ n) : bl (a + b) ≤ n + 1 := by
 rw [ZO] at *
 rw [Nat.pow_succ]
 generalize 2 ^ n = P at *
 omega
noncomputable def sqV (x : Int) : Int := Z2o (ZP x).1 (ZP x).2.1 (ZP x).2.2.1 (ZP x).1 (ZP x).2.1 (ZP x).2.2.1
theorem Z4Q (s : Bool) (n : Nat) : sg s n * sg s n = ((n * n : Nat) : Int) := by
 cases s
 ·show (n : Int) * (n : Int) = _; rw [Int.natCast_mul]
 show -(n : Int) * -(n : Int) = _; rw [Int.neg_mul_neg, Int.natCast_mul]
theorem Za7 {x : Int} (hx : Nb.W64 x) (f : Nb.Z04 x) : (val (ZP x).2.1 ≠ 0 → (bl (val (ZP x).2.1) : Int) + (ZP x).2.2.1 ≤ 1024 ∧ -1074 ≤ (ZP x).2.2.1) := by
 have m := Nb.Z2b hx
 have eb := Nb.Z3j hx f
 by_cases z : (Nb.ZH x).toNat = 0
 ·intro h
  exfalso
  unfold ZP at h
  rw [if_pos f, z, Z0J] at h
  exact h Z1l
 intro _
 have bm : bl (Nb.ZH x).toNat ≤ 53 := by rw [ZO, P53]; omega
 have bo := Z98 (Nb.ZH x).toNat
 unfold ZP
 rw [if_pos f, Z19 z]
 show (bl (val (ofN (od (Nb.ZH x).toNat))) : Int) + (Nb.Z0i x + (tz (Nb.ZH x).toNat : Int)) ≤ 1024 ∧ -1074 ≤ Nb.Z0i x + (tz (Nb.ZH x).toNat : Int)
 rw [Z1]
 omega
theorem Z2L {x : Int} (hx : Nb.W64 x) (f : Nb.Z04 x) : ∃ U : Nat, bl U ≤ 4200 ∧ sqV x = (U : Int) * 2 ^ JJ := by
 unfold sqV Z2o
 rw [Z4Q]
 by_cases z : val (ZP x).2.1 = 0
 ·refine ⟨0, by rw [Z0z]; omega, ?_⟩
  rw [z]
  show Vz 0 _ = 0 * _
  rw [Z2e, Int.zero_mul]
 obtain ⟨b1, b2⟩ := Za7 hx f z
 generalize val (ZP x).2.1 = n at *
 generalize (ZP x).2.2.1 = e at *
 have j := Z9g
 refine ⟨n * n * 2 ^ (e + e + 2148).toNat, ?_, ?_⟩
 ·refine Z7P ?_
  have : bl (n * n) ≤ bl n + bl n := by
   rw [ZO, Nat.pow_add]
   exact Nat.mul_lt_mul'' (Z17 n) (Z17 n)
  omega
 unfold Vz
 have q : ((n * n * 2 ^ (e + e + 2148).toNat : Nat) : Int) = ((n * n : Nat) : Int) * 2 ^ (e + e + 2148).toNat := by rw [Int.natCast_mul, Z2J]
 rw [q, Int.mul_assoc, ← Int.pow_add, show (e + e - lowE).toNat = (e + e + 2148).toNat + JJ by unfold lowE at *; omega]
theorem Z6e {Z : Int} {U : Int} (h : Z = U * 2 ^ JJ) : cz Z lowE = cz U (-2148) := by
 rw [h, Z7B, show lowE + (JJ : Int) = -2148 by have := Z9g; omega]
theorem Z25 {Z U : Int} (h : Z = U * 2 ^ JJ) (hb : bl U.natAbs ≤ 4300) : Z0K (val (cz Z lowE).2.1) (cz Z lowE).2.2 = true ∧ Wl (cz Z lowE).2.1 ∧ Z3r (cz Z lowE) = ((cz Z lowE).1, (cz Z lowE).2.1, (cz Z lowE).2.2, 0) := by
 obtain ⟨a, b⟩ := Z6W (V := U) (e := -2148) hb (by decide) (by decide) (by decide)
 rw [← Z6e h] at a b
 exact ⟨a, b, Z7E a⟩
theorem Z7T {x : Int} (k : Nat) (hx : Nb.W64 x) (f : Nb.Z04 x) (hk : 200000000000000000 ≤ k) : Z16.f k (ZP x).1 (ZP x).2.1 (ZP x).2.2.1 (ZP x).1 (ZP x).2.1 (ZP x).2.2.1 = some ((cz (sqV x) lowE).1, (cz (sqV x) lowE).2.1, (cz (sqV x) lowE).2.2, 0) := by
 obtain ⟨U, hb, hU⟩ := Z2L hx f
 have w := (Za3 hx f).wl
 have ff := Z4F hx f
 rw [Z9V _ _ _ _ _ _ k w w hk]
 unfold Z4l
 rw [if_pos ⟨ff, ff⟩]
 exact congrArg some (Z25 hU (by rw [Int.natAbs_natCast]; omega)).2.2
noncomputable def hyC (k : Nat) (Z : Int) : Option (Int × Int × Int) := (Z11.f k (cz Z lowE).1 (cz Z lowE).2.1 (cz Z lowE).2.2).bind fun t => if t = true then some (0, 0, 0) else (Z0c.f k (cz Z lowE).1 (cz Z lowE).2.1 (cz Z lowE).2.2 2 40).bind fun b => some (b.1, b.2, 0)
theorem Z4I {x y : Int} (k : Nat) (hx : Nb.W64 x) (hy : Nb.W64 y) (fx : Nb.Z04 x) (fy : Nb.Z04 y) (hk : 200000000000000000 ≤ k) : ZE.f (k + 1) x y = hyC k (sqV x + sqV y) := by
 obtain ⟨U, ub, hU⟩ := Z2L hx fx
 obtain ⟨V, vb, hV⟩ := Z2L hy fy
 have r1 := Z25 hU (by rw [Int.natAbs_natCast]; omega)
 have r2 := Z25 hV (by rw [Int.natAbs_natCast]; omega)
 have hs : sqV x + sqV y = ((U + V : Nat) : Int) * 2 ^ JJ := by rw [hU, hV, ← Int.add_mul, Int.natCast_add]
 have sb : bl (U + V) ≤ 4201 := Z7S ub vb
 have r3 := Z25 hs (by rw [Int.natAbs_natCast]; omega)
 unfold ZE.f
 rw [Z10 x (k + 1) hx (by omega), Z0, Z10 y (k + 1) hy (by omega), Z0, if_pos (Z3u fx), Z3u fy]
 show ZE.j0 (k + 1) false _ _ _ _ _ _ = _
 rw [ZE.j0, if_neg (by decide), Z7T k hx fx hk, Z0, Z7T k hy fy hk, Z0]
 show (Z1q.f k (cz (sqV x) lowE).1 (cz (sqV x) lowE).2.1 (cz (sqV x) lowE).2.2 (cz (sqV y) lowE).1 (cz (sqV y) lowE).2.1 (cz (sqV y) lowE).2.2).bind _ = _
 rw [Z9U _ _ _ _ _ _ k r1.2.1 r2.2.1 hk, Z6L, Z6L]
 unfold Z4l
 rw [if_pos ⟨r1.1, r2.1⟩, r3.2.2, Z0]
 rfl
theorem Z5A (s : Bool) (l : List Int) (e : Int) (k : Nat) (w : Wl l) (hk : 100000000000000000 ≤ k) : Z11.f k s l e = some (if Z0K (val l) e = true then decide (val l = 0) else false) := by
 unfold Z11.f
 rw [Z1Y s l e k w.ws w.len hk, Z0, Z2K s l e k w.ws w.len hk, Z0]
 split <;> rfl
theorem Z8U {x y : Int} (k : Nat) (hx : Nb.W64 x) (hy : Nb.W64 y) (h : ¬ (Nb.Z04 x ∧ Nb.Z04 y)) (hk : 200000000000000000 ≤ k) : ZE.f (k + 1) x y = some (0, 0, 5) := by
 have jt : ∀ a b c d e f, ZE.j0 (k + 1) true a b c d e f = some (0, 0, 5) := fun a b c d e f => by rw [ZE.j0]; exact if_pos rfl
 unfold ZE.f
 rw [Z10 x (k + 1) hx (by omega), Z0, Z10 y (k + 1) hy (by omega), Z0]
 by_cases fx : Nb.Z04 x
 ·rw [if_pos (Z3u fx), Z4p (fun c => h ⟨fx, c⟩)]
  exact jt _ _ _ _ _ _
 rw [Z4p fx, if_neg (by decide)]
 exact jt _ _ _ _ _ _
def flI (v : Nat) (e : Int) : Int := if lsI v e = true then (if mbI v e = Z1D then 20 else if Z1s v e = true then 24 else 16) else 0
theorem Z3v (r : Nat) (e : Int) (more : Bool) (n : Nat) (hn : 2 * r + (if more = true then 1 else 0) = n) (h : lowE ≤ e - 1) : stS false r e more = (mbI n (e - 1), flI n (e - 1)) := by
 unfold stS flI
 rw [hn, Z9f n h]
 have : nbZ (sg false (am n (e - 1))) = mbI n (e - 1) := by
  rw [Z4O n h]
  rcases Z8T (sg false (am n (e - 1))) with ⟨a, b⟩ | ⟨a, b⟩
  ·exact absurd a (by show ¬ ((am n (e - 1) : Nat) : Int) < 0; omega)
  rw [b, Z1z]
 rw [this]
theorem Z8V {a r q : Nat} (hi : IsR (fun r => r * r * r) a r) (h1 : q * q * q ≤ a) (h2 : a < (q + 1) * (q + 1) * (q + 1)) : r = q := by
 refine Nat.le_antisymm (Nat.not_lt.1 fun c => ?_) (hi.2 q h1)
 have h3 : r * r * r ≤ a := hi.1
 have h4 := Nat.mul_le_mul (Nat.mul_le_mul (show q + 1 ≤ r from c) (show q + 1 ≤ r from c)) (show q + 1 ≤ r from c)
 omega
theorem Z3I {a r q : Nat} (hi : IsR (fun r => r * r) a r) (h1 : q * q ≤ a) (h2 : a < (q + 1) * (q + 1)) : r = q := by
 refine Nat.le_antisymm (Nat.not_lt.1 fun c => ?_) (hi.2 q h1)
 have h3 : r * r ≤ a := hi.1
 have h4 := Nat.mul_le_mul (show q + 1 ≤ r from c) (show q + 1 ≤ r from c)
 omega
theorem Z3w : od 4503599627370496 = 1 ∧ tz 4503599627370496 = 52 := ⟨Z21 (t := 52) (m := 0) (by decide), Z1u (t := 52) (m := 0) (by decide)⟩
theorem Z9h : bl 36893488147419103232 = 66 := Z0O (m := 65) (by decide) (by decide)
theorem ZaF : ZP 4620693217682128896 = (false, ofN 1, 3, 0) := by
 rw [Z1Q ⟨by decide, by decide⟩ (by decide) (by decide)]
 have m : (Nb.ZH 4620693217682128896).toNat = 4503599627370496 := by decide
 have e : Nb.Z0i 4620693217682128896 = -49 := by decide
 rw [m, e, Z3w.1, Z3w.2]; rfl
theorem ZaG (k : Nat) (hk : 2000000000000000000000 ≤ k) : Z0G.f k 4620693217682128896 = some (4611686018427387904, 0, 0) := by
 have w1 : Wl (ofN 1) := Z2p (by have := Z0Y (v := 1) (by decide); omega)
 obtain ⟨r, hi, hr⟩ := Z43 (ofN 1) 3 k w1 (by rw [Z1]; decide) (by rw [Z1, Z1S]; decide) (by decide) (by decide) hk
 rw [Z1] at hi hr
 have N : rtN 1 3 3 = 2 ^ 192 := by unfold rtN scI scN; rw [Z1S]; decide
 have E : rtE 1 3 3 = -63 := by unfold rtE scI; rw [Z1S]; decide
 have L : rtL 1 3 3 = false := by unfold rtL scI scL; rw [Z1S]; decide
 rw [N] at hi hr
 have r0 : r = 18446744073709551616 := Z8V hi (by decide) (by decide)
 rw [r0, E, L] at hr
 unfold Z0G.f
 rw [Z10 _ k ⟨by decide, by decide⟩ (by omega), Z0, ZaF, if_pos rfl, Nb.Z31 ⟨by decide, by decide⟩, Z0, if_neg (by decide), hr, Z0, show (false || decide (2 ^ 192 - 18446744073709551616 * 18446744073709551616 * 18446744073709551616 ≠ 0)) = false by decide, Z3v _ _ _ 36893488147419103232 (by decide) (by decide)]
 unfold flI lsI mbI Z1s Z1v Z0f Z0j
 rw [Z9h]
 decide
theorem ZaH : ZP 4611686018427387904 = (false, ofN 1, 1, 0) := by
 rw [Z1Q ⟨by decide, by decide⟩ (by decide) (by decide)]
 have m : (Nb.ZH 4611686018427387904).toNat = 4503599627370496 := by decide
 have e : Nb.Z0i 4611686018427387904 = -51 := by decide
 rw [m, e, Z3w.1, Z3w.2]; rfl
theorem Zb4 : bl 26087635650665564425 = 65 := Z0O (m := 64) (by decide) (by decide)
theorem ZaI (k : Nat) (hk : 2000000000000000000000 ≤ k) : Z1L.f k 4611686018427387904 = some (4609047870845172685, 16, 0) := by
 have w1 : Wl (ofN 1) := Z2p (by have := Z0Y (v := 1) (by decide); omega)
 obtain ⟨r, hi, hr⟩ := Z2Z (ofN 1) 1 k w1 (by rw [Z1]; decide) (by rw [Z1, Z1S]; decide) (by decide) (by decide) hk
 rw [Z1] at hi hr
 have N : rtN 1 1 2 = 2 ^ 127 := by unfold rtN scI scN; rw [Z1S]; decide
 have E : rtE 1 1 2 = -63 := by unfold rtE scI; rw [Z1S]; decide
 have L : rtL 1 1 2 = false := by unfold rtL scI scL; rw [Z1S]; decide
 rw [N] at hi hr
 have r0 : r = 13043817825332782212 := Z3I hi (by decide) (by decide)
 rw [r0, E, L] at hr
 unfold Z1L.f
 rw [Z10 _ k ⟨by decide, by decide⟩ (by omega), Z0, ZaH, if_pos rfl, Nb.Z31 ⟨by decide, by decide⟩, Z0, if_neg (by decide), if_neg (by decide), hr, Z0, show (false || decide (2 ^ 127 - 13043817825332782212 * 13043817825332782212 ≠ 0)) = true by decide, Z3v _ _ _ 26087635650665564425 (by decide) (by decide)]
 unfold flI lsI mbI Z1s Z1v Z0f Z0j
 rw [Zb4]
 decide
theorem ZaJ : ZP 4613937818241073152 = (false, ofN 3, 0, 0) := by
 rw [Z1Q ⟨by decide, by decide⟩ (by decide) (by decide)]
 have m : (Nb.ZH 4613937818241073152).toNat = 6755399441055744 := by decide
 have e : Nb.Z0i 4613937818241073152 = -51 := by decide
 have o : od 6755399441055744 = 3 := Z21 (t := 51) (m := 1) (by decide)
 have t : tz 6755399441055744 = 51 := Z1u (t := 51) (m := 1) (by decide)
 rw [m, e, o, t]; rfl
theorem ZaK : ZP 4616189618054758400 = (false, ofN 1, 2, 0) := by
 rw [Z1Q ⟨by decide, by decide⟩ (by decide) (by decide)]
 have m : (Nb.ZH 4616189618054758400).toNat = 4503599627370496 := by decide
 have e : Nb.Z0i 4616189618054758400 = -50 := by decide
 rw [m, e, Z3w.1, Z3w.2]; rfl
theorem Z4R : bl 25 = 5 := Z0O (m := 4) (by decide) (by decide)
theorem Zbh : bl 46116860184273879040 = 66 := Z0O (m := 65) (by decide) (by decide)
theorem Zb5 : cz (sqV 4613937818241073152 + sqV 4616189618054758400) lowE = (false, ofN 25, 0) := by
 have h3 : sqV 4613937818241073152 = Vz 9 0 := by
  unfold sqV Z2o
  rw [ZaJ, Z4Q]
  show Vz ((val (ofN 3) * val (ofN 3) : Nat) : Int) (0 + 0) = _
  rw [Z1]; rfl
 have h4 : sqV 4616189618054758400 = Vz 16 0 := by
  unfold sqV Z2o
  rw [ZaK, Z4Q]
  show Vz ((val (ofN 1) * val (ofN 1) : Nat) : Int) (2 + 2) = _
  rw [Z1]
  exact (Z3Y (e := 0) (by decide) 1 4).symm
 rw [h3, h4, ← Z3Z, ← Z3p (by decide)]
 show cf false 25 0 = _
 have o : od 25 = 25 := Z21 (t := 0) (m := 12) (by decide)
 have t : tz 25 = 0 := Z1u (t := 0) (m := 12) (by decide)
 rw [Z19 (by decide), o, t]; rfl
theorem Z8W (k : Nat) (hk : 2000000000000000000000 ≤ k) : ZE.f (k + 1) 4613937818241073152 4616189618054758400 = some (4617315517961601024, 0, 0) := by
 have w1 : Wl (ofN 25) := Z2p (by have := Z0Y (v := 25) (by decide); omega)
 obtain ⟨r, hi, hr⟩ := Z2Z (ofN 25) 0 k w1 (by rw [Z1]; decide) (by rw [Z1, Z4R]; decide) (by decide) (by decide) hk
 rw [Z1] at hi hr
 have N : rtN 25 0 2 = 25 * 2 ^ 124 := by unfold rtN scI scN; rw [Z4R]; decide
 have E : rtE 25 0 2 = -62 := by unfold rtE scI; rw [Z4R]; decide
 have L : rtL 25 0 2 = false := by unfold rtL scI scL; rw [Z4R]; decide
 rw [N] at hi hr
 have r0 : r = 23058430092136939520 := Z3I hi (by decide) (by decide)
 rw [r0, E, L] at hr
 rw [Z4I k ⟨by decide, by decide⟩ ⟨by decide, by decide⟩ (by decide) (by decide) (by omega)]
 unfold hyC
 rw [Zb5]
 show (Z11.f k false (ofN 25) 0).bind _ = _
 rw [Z5A false (ofN 25) 0 k w1 (by omega), Z0, Z1, if_pos (Z0X.2 ⟨Z1Z (by decide), by decide, by decide⟩), if_neg (by decide)]
 show (Z0c.f k false (ofN 25) 0 2 40).bind _ = _
 rw [hr, Z0, show (false || decide (25 * 2 ^ 124 - 23058430092136939520 * 23058430092136939520 ≠ 0)) = false by decide, Z3v _ _ _ 46116860184273879040 (by decide) (by decide)]
 unfold flI lsI mbI Z1s Z1v Z0f Z0j
 rw [Zbh]
 decide
theorem ZaL : ZP 1 = (false, ofN 1, -1074, 0) := by
 rw [Z1Q ⟨by decide, by decide⟩ (by decide) (by decide)]
 have m : (Nb.ZH 1).toNat = 1 := by decide
 have e : Nb.Z0i 1 = -1074 := by decide
 have o : od 1 = 1 := Z21 (t := 0) (m := 0) (by decide)
 have t : tz 1 = 0 := Z1u (t := 0) (m := 0) (by decide)
 rw [m, e, o, t]; rfl
theorem Z7U : bl (2 ^ 130) = 131 := Z0O (m := 130) (by decide) (by decide)
theorem Zb6 : bl 73786976294838206464 = 67 := Z0O (m := 66) (by decide) (by decide)
theorem Za8 (k : Nat) (hk : 2000000000000000000000 ≤ k) : ZL.f (k + 1) 1 = some (7025615418697973760, 0, 0) := by
 have l1 : (ofN 1).length ≤ 1 := Z0Y (v := 1) (by decide)
 have w1 : Wl (ofN 1) := Z2p (by omega)
 have b130 : 2 ^ 130 < big := ZT.2 (by rw [Z7U]; decide)
 have l130 := Z05 b130
 have b1 : (1 : Nat) < big := Z1Z (by decide)
 unfold ZL.f
 rw [Z10 _ (k + 1) ⟨by decide, by decide⟩ (by omega), Z0, ZaL, if_pos rfl, Nb.Z31 ⟨by decide, by decide⟩, Z0, if_neg (by decide), if_neg (by decide)]
 show ((Z0Q.f (k + 1) (ofN 1)).bind _) = _
 rw [Z3S (ofN 1) (k + 1) (Zf _) (by omega) (by omega), Z1, if_pos b1, Z0, Z1S]
 have e1 : wrap64 (128 + ((1 : Nat) : Int)) = 129 := by unfold wrap64; omega
 have e2 : wrap64 (-1074 + 129) = -945 := by unfold wrap64; omega
 have e3 : wrap64 (129 + 1) = ((130 : Nat) : Int) := by unfold wrap64; omega
 show (if Int.tmod (wrap64 (-1074 + wrap64 (128 + ((1 : Nat) : Int)))) 2 = 0 then _ else ZL.j0 (k + 1) (wrap64 (wrap64 (128 + ((1 : Nat) : Int)) + 1)) false (ofN 1) (-1074)) = _
 rw [e1, e2, e3, if_neg (by decide), ZL.j0]
 show (Z1i.f k ((1 : Nat) : Int)).bind _ = _
 rw [Z5k 1 k (by decide) (by omega), Z0, Z37 (ofN 1) _ k (Zf _) (by omega) (by omega), Z1, Z0]
 have s1 : (Z2m 1 ((130 : Nat) : Int)).1 = ofN (2 ^ 130) := by
  unfold Z2m
  rw [if_pos b1, if_neg (by decide), if_neg (by decide), Int.toNat_natCast, Z1S, if_pos (by decide), Nat.one_mul]
 rw [s1, Z7m (ofN (2 ^ 130)) (ofN 1) k (Zf _) (Zf _) (by omega) (by omega) (by omega), Z1, Z1, Z0]
 have q1 : Z4h (2 ^ 130) 1 = (ofN (2 ^ 130), ofN 0, 0) := by
  unfold Z4h
  rw [if_pos ⟨b130, b1⟩, if_neg (by decide), Nat.div_one, Nat.mod_one]
 rw [q1]
 obtain ⟨r, hr, hi⟩ := (Z4j (ofN (2 ^ 130)) k (Zf _) (by omega) (by rw [Z1, Z7U, show (2 : Nat) ^ ((131 + 1) / 2) = 73786976294838206464 by decide]; omega)).1 (by rw [Z1]; exact b130)
 rw [Z1] at hr hi
 have r0 : r = 36893488147419103232 := Z3I hi (by decide) (by decide)
 show ((Z0F.f k (ofN (2 ^ 130))).bind _) = _
 rw [hr, Z0, Zv, if_neg (by decide)]
 have d0 : (2 : Nat) ^ 130 - r * r = 0 := by rw [r0]
 have e4 : wrap64 (Int.tdiv (wrap64 (wrap64 (- -1074) - ((130 : Nat) : Int))) 2) = 472 := by
  have : wrap64 (- -1074) = 1074 := by unfold wrap64; omega
  rw [this, show wrap64 (1074 - ((130 : Nat) : Int)) = 944 by unfold wrap64; omega, show Int.tdiv 944 2 = 472 by decide]
  unfold wrap64; omega
 rw [d0, Zv, e4, r0, Z24 false _ 472 _ k (by rw [Z9h]; decide) (by decide) (by decide) (by omega), Z0, show decide ((([] : List Int).length : Int) > 0) = false by decide, Z3v _ _ _ 73786976294838206464 (by decide) (by decide)]
 unfold flI lsI mbI Z1s Z1v Z0f Z0j
 rw [Zb6]
 decide
theorem Z8X (k : Nat) (hk : 2000000000000000000000 ≤ k) : Z0S.f (k + 1) = some true := by
 unfold Z0S.f
 rw [ZaG (k + 1) (by omega), Z0, Za8 k hk, Z0, Z8W k hk, Z0, ZaI (k + 1) (by omega), Z0]
 rfl
end Go.Proofs.YtjnfipkbgmdpaaaGreatDoor.Nf

namespace Go.Proofs.YtjnfipkbgmdpaaaGreatDoor.Nm
def Eqv (t A B : Nat) : Prop := A = B ∨ (A / 2 ^ t = B / 2 ^ t ∧ A % 2 ^ t ≠ 0 ∧ B % 2 ^ t ≠ 0)
theorem Eqv.symm {t A B : Nat} (h : Eqv t A B) : Eqv t B A := h.elim (fun e => .inl e.symm) fun e => .inr ⟨e.1.symm, e.2.2, e.2.1⟩
theorem Z22 (A : Nat) {t n : Nat} (h : t ≤ n) : A / 2 ^ n = A / 2 ^ t / 2 ^ (n - t) := by
 rw [Nat.div_div_eq_div_mul, ← Nat.pow_add, show t + (n - t) = n by omega]
theorem Z29 {A t n : Nat} (h : t ≤ n) (z : A % 2 ^ t ≠ 0) : A % 2 ^ n ≠ 0 := fun c => z (Nat.mod_eq_zero_of_dvd (Nat.dvd_trans (Nat.pow_dvd_pow 2 h) (Nat.dvd_of_mod_eq_zero c)))
theorem Z6f {t A B n : Nat} (h : Eqv t A B) (hn : t < n) : rnd A n = rnd B n ∧ (A % 2 ^ n ≠ 0 ↔ B % 2 ^ n ≠ 0) := by
 rcases h with rfl | ⟨d, a, b⟩
 ·exact ⟨rfl, Iff.rfl⟩
 have a1 := Z29 (n := n - 1) (by omega) a
 have b1 := Z29 (n := n - 1) (by omega) b
 refine ⟨?_, iff_of_true (Z29 (by omega) a) (Z29 (by omega) b)⟩
 unfold rnd
 rw [Z22 A (t := t) (n := n) (by omega), Z22 B (t := t) (n := n) (by omega), Z22 A (t := t) (n := n - 1) (by omega), Z22 B (t := t) (n := n - 1) (by omega), d]
 simp only [ne_eq, a1, b1, not_false_eq_true, true_or]
theorem Z7V {t A B n : Nat} (h : Eqv t A B) (ha : 2 ^ t ≤ A) : A < 2 ^ n ↔ B < 2 ^ n := by
 rcases h with rfl | ⟨d, a, b⟩
 ·exact Iff.rfl
 have p := Zq t
 have hb : 2 ^ t ≤ B := by
  have : 1 ≤ A / 2 ^ t := (Nat.le_div_iff_mul_le p).2 (by omega)
  rw [d] at this
  have := (Nat.le_div_iff_mul_le p).1 this
  omega
 by_cases c : t ≤ n
 ·rw [show 2 ^ n = 2 ^ (n - t) * 2 ^ t by rw [← Nat.pow_add]; congr 1; omega, ← Nat.div_lt_iff_lt_mul p, ← Nat.div_lt_iff_lt_mul p, d]
 have : 2 ^ n ≤ 2 ^ t := Nat.pow_le_pow_right (by decide) (by omega)
 omega
theorem ZaM {t A B : Nat} (h : Eqv t A B) (ha : 2 ^ t ≤ A) : bl A = bl B := by
 have e : ∀ n, bl A ≤ n ↔ bl B ≤ n := fun n => by rw [ZO, ZO]; exact Z7V h ha
 have := (e (bl A)).1 (Nat.le_refl _)
 have := (e (bl B)).2 (Nat.le_refl _)
 omega
theorem Z7W {K A t : Nat} (hK : K ≤ t + 1) (h : 2 ^ (t + 53) ≤ A) : ¬ tyA K A := by
 unfold tyA
 have : 9007199254740992 ≤ rnd A (K - 1) := Z30 (Nat.le_trans (by rw [← P53, ← Nat.pow_add]; exact Nat.pow_le_pow_right (by decide) (by omega)) h)
 omega
theorem Za9 {K t A B : Nat} (h : Eqv t A B) (ha : 2 ^ (t + 54) ≤ A) : cdA K A = cdA K B ∧ (lsA K A ↔ lsA K B) ∧ (tyA K A ↔ tyA K B) := by
 have p : 2 ^ t ≤ A := Nat.le_trans (Nat.pow_le_pow_right (by decide) (by omega)) ha
 have e := ZaM h p
 have lo : t + 54 < bl A := Nat.not_le.1 fun c => by have := ZO.1 c; omega
 have es : shA K A = shA K B := by unfold shA; rw [e]
 have ts : t < shA K A := by unfold shA; omega
 obtain ⟨r, m⟩ := Z6f h ts
 have c : cdA K A = cdA K B := by unfold cdA; rw [← es, r]
 refine ⟨c, by unfold lsA; rw [c, ← es, m], ?_⟩
 by_cases q : t < K - 1
 ·unfold tyA; rw [(Z6f h q).1]
 have hb : 2 ^ (t + 53) ≤ B := by
  have := (Z7V h p (n := t + 53)).2
  have x : 2 ^ (t + 53) ≤ A := Nat.le_trans (Nat.pow_le_pow_right (by decide) (by omega)) ha
  omega
 exact iff_of_false (Z7W (t := t) (by omega) (Nat.le_trans (Nat.pow_le_pow_right (by decide) (by omega)) ha)) (Z7W (t := t) (by omega) hb)
def pw (c k r : Nat) : Nat := c * r ^ k
theorem Z6g {c k r s : Nat} (h : r ≤ s) : pw c k r ≤ pw c k s := Nat.mul_le_mul_left c (Nat.pow_le_pow_left h k)
theorem Z6X {c k W r s : Nat} (h : pw c k r ≤ W) (g : W < pw c k s) : r < s := Nat.not_le.1 fun x => by have := Z6g (c := c) (k := k) x; omega
theorem Zb7 {c k r s : Nat} (hc : 0 < c) (hk : 0 < k) (h : r < s) : pw c k r < pw c k s := Nat.mul_lt_mul_of_pos_left (Nat.pow_lt_pow_left h (by omega)) hc
def Rk (c k W r : Nat) : Prop := pw c k r ≤ W ∧ W < pw c k (r + 1)
theorem Z4S {c k W r s : Nat} (h : Rk c k W r) : pw c k s ≤ W ↔ s ≤ r := ⟨fun x => Nat.lt_succ_iff.1 (Z6X x h.2), fun x => Nat.le_trans (Z6g x) h.1⟩
theorem Z1A (c k W : Nat) (hc : 0 < c) (hk : 0 < k) : ∃ r, Rk c k W r := by
 have : ∀ n, W < pw c k (n + 1) → ∃ r, Rk c k W r := fun n => by
  induction n with
  | zero => exact fun h => ⟨0, by unfold pw; rw [Nat.zero_pow hk, Nat.mul_zero]; exact Nat.zero_le _, h⟩
  | succ n ih =>
   intro h
   by_cases x : W < pw c k (n + 1)
   ·exact ih x
   exact ⟨n + 1, by omega, h⟩
 refine this W ?_
 have : W + 1 ≤ (W + 1) ^ k := by
  have := Nat.pow_le_pow_right (n := W + 1) (by omega) hk
  rw [Nat.pow_one] at this; exact this
 unfold pw
 exact Nat.lt_of_lt_of_le this (Nat.le_mul_of_pos_left _ hc)
theorem Z6h {c k W r s : Nat} (h : Rk c k W r) (g : Rk c k W s) : r = s := by
 have := (Z4S h).1 g.1
 have := (Z4S g).1 h.1
 omega
noncomputable def stA (c k W : Nat) : Nat := if h : 0 < c ∧ 0 < k then 2 * (Z1A c k W h.1 h.2).choose + (if pw c k (Z1A c k W h.1 h.2).choose = W then 0 else 1) else 0
theorem Z44 {c k W r : Nat} (hc : 0 < c) (hk : 0 < k) (h : Rk c k W r) : stA c k W = 2 * r + if pw c k r = W then 0 else 1 := by
 unfold stA
 rw [dif_pos ⟨hc, hk⟩, Z6h (Z1A c k W hc hk).choose_spec h]
theorem Z4J {c k W r t : Nat} {more : Bool} (hc : 0 < c) (hk : 0 < k) (h1 : pw c k (r * 2 ^ t) ≤ W) (h2 : W < pw c k ((r + 1) * 2 ^ t)) (hm : more = true ↔ pw c k (r * 2 ^ t) ≠ W) :
  Eqv (t + 1) ((2 * r + if more = true then 1 else 0) * 2 ^ t) (stA c k W) := by
 obtain ⟨q, hq⟩ := Z1A c k W hc hk
 rw [Z44 hc hk hq]
 have p := Zq t
 by_cases m : pw c k (r * 2 ^ t) = W
 ·left
  have e : q = r * 2 ^ t := Z6h hq ⟨h1, by rw [← m]; exact Zb7 hc hk (by omega)⟩
  rw [if_neg (fun x => hm.1 x m), e, if_pos m, Nat.add_zero, Nat.add_zero, Nat.mul_assoc]
 right
 rw [if_pos (hm.2 m)]
 have a : r * 2 ^ t ≤ q := (Z4S hq).1 h1
 have b : q < (r + 1) * 2 ^ t := Z6X hq.1 h2
 have x : r * 2 ^ t = q → pw c k q ≠ W := fun e => by rw [← e]; exact m
 rw [Nat.succ_mul] at b
 rw [Nat.pow_succ]
 obtain ⟨d, rfl⟩ : ∃ d, q = r * 2 ^ t + d := ⟨q - r * 2 ^ t, by omega⟩
 have y : (if pw c k (r * 2 ^ t + d) = W then 0 else 1 : Nat) ≤ 1 ∧ (d = 0 → (if pw c k (r * 2 ^ t + d) = W then 0 else 1 : Nat) = 1) := by
  refine ⟨by split <;> omega, fun z => ?_⟩
  rw [if_neg (x (by omega))]
 generalize (if pw c k (r * 2 ^ t + d) = W then 0 else 1 : Nat) = i at *
 generalize 2 ^ t = P at *
 have e1 : (2 * r + 1) * P = (P * 2) * r + P := by rw [Nat.add_mul, Nat.one_mul, Nat.mul_assoc, Nat.mul_comm P 2, Nat.mul_assoc, Nat.mul_comm P r]
 have e2 : 2 * (r * P + d) + i = (P * 2) * r + (2 * d + i) := by rw [Nat.mul_add, Nat.mul_comm P 2, Nat.mul_assoc, Nat.mul_comm P r]; omega
 rw [e1, e2, Nat.mul_add_div (by omega), Nat.mul_add_div (by omega), Nat.div_eq_of_lt (by omega : P < P * 2), Nat.div_eq_of_lt (by omega : 2 * d + i < P * 2), Nat.mul_add_mod, Nat.mul_add_mod, Nat.mod_eq_of_lt (by omega : P < P * 2), Nat.mod_eq_of_lt (by omega : 2 * d + i < P * 2)]
 omega
theorem Z2r (c k r t : Nat) : pw c k (r * 2 ^ t) = pw c k r * 2 ^ (k * t) := by
 unfold pw
 rw [Nat.mul_pow, ← Nat.pow_mul, Nat.mul_comm t k, Nat.mul_assoc]
theorem Zaa {c k W j : Nat} (hc : 0 < c) (hk : 0 < k) : Eqv (j + 1) (stA c k W * 2 ^ j) (stA c k (W * 2 ^ (k * j))) := by
 obtain ⟨r, hr⟩ := Z1A c k W hc hk
 have p := Zq (k * j)
 have := Z4J (c := c) (k := k) (W := W * 2 ^ (k * j)) (r := r) (t := j) (more := decide (pw c k r ≠ W)) hc hk (by rw [Z2r]; exact Nat.mul_le_mul_right _ hr.1) (by rw [Z2r]; exact Nat.mul_lt_mul_of_pos_right hr.2 p) (by rw [Z2r, decide_eq_true_iff]; exact not_congr ⟨fun e => by rw [e], fun e => Nat.eq_of_mul_eq_mul_right p e⟩)
 rw [Z44 hc hk hr]
 have q : (if decide (pw c k r ≠ W) = true then 1 else 0 : Nat) = if pw c k r = W then 0 else 1 := by
  by_cases e : pw c k r = W
  ·rw [if_pos e, if_neg (by rw [decide_eq_true_iff]; exact fun x => x e)]
  rw [if_neg e, if_pos (decide_eq_true e)]
 rw [q] at this
 exact this
theorem ZaN {A : Nat} (h : A ≠ 0) : bl (A * 2) = bl A + 1 := by
 have e : ∀ n, bl (A * 2) ≤ n + 1 ↔ bl A ≤ n := fun n => by rw [ZO, ZO, Nat.pow_succ]; omega
 have a := (e (bl A)).2 (Nat.le_refl _)
 have p : bl (A * 2) ≠ 0 := Z1G (by omega)
 have b := (e (bl (A * 2) - 1)).1 (by omega)
 omega
theorem Z6i (A : Nat) {n : Nat} (hn : 1 ≤ n) : rnd (A * 2) (n + 1) = rnd A n ∧ (A * 2 % 2 ^ (n + 1) ≠ 0 ↔ A % 2 ^ n ≠ 0) := by
 have p := Zq n
 have d : ∀ m, A * 2 / 2 ^ (m + 1) = A / 2 ^ m := fun m => by rw [Nat.pow_succ, Nat.mul_div_mul_right _ _ (by decide)]
 have e : ∀ m, A * 2 % 2 ^ (m + 1) = A % 2 ^ m * 2 := fun m => by rw [Nat.pow_succ, Nat.mul_mod_mul_right]
 obtain ⟨m, rfl⟩ : ∃ m, n = m + 1 := ⟨n - 1, by omega⟩
 refine ⟨?_, by rw [e]; omega⟩
 unfold rnd
 rw [Nat.add_sub_cancel, Nat.add_sub_cancel, d, d, e]
 have : A % 2 ^ m * 2 ≠ 0 ↔ A % 2 ^ m ≠ 0 := by omega
 simp only [this]
theorem Z7X {K A : Nat} (h : K + 53 ≤ bl A) : shA K A = bl A - 53 ∧ shA K (A * 2) = shA K A + 1 := by
 have z : A ≠ 0 := by rintro rfl; rw [Z0z] at h; omega
 unfold shA
 rw [ZaN z]; omega
theorem Z7Y {K A : Nat} (hK : 1 ≤ K) (h : K + 53 ≤ bl A) : cdA K (A * 2) = cdA K A + 4503599627370496 ∧ 4503599627370496 ≤ cdA K A := by
 obtain ⟨a, b⟩ := Z7X h
 have g := Z4W K A
 have r := (Z6i A (n := shA K A) (by omega)).1
 have l : 4503599627370496 ≤ rnd A (shA K A) := by
  refine Z30 ?_
  have z : A ≠ 0 := by rintro rfl; rw [Z0z] at h; omega
  have := Z1R z
  rw [show bl A = 53 + shA K A by omega, Nat.pow_add, P53] at this
  omega
 unfold cdA
 rw [b, r]
 omega
theorem ZaO {K A : Nat} (hK : 2 ≤ K) (h : K + 53 ≤ bl A) (hc : cdA K A + 4503599627370496 < INn) : (lsA K (A * 2) ↔ lsA K A) ∧ ¬ tyA K A ∧ ¬ tyA K (A * 2) := by
 obtain ⟨a, b⟩ := Z7X h
 have g := Z4W K A
 have c := Z7Y (by omega) h
 have m := (Z6i A (n := shA K A) (by omega)).2
 have t : ∀ B, A ≤ B → ¬ tyA K B := fun B hB x => by
  have z : A ≠ 0 := by rintro rfl; rw [Z0z] at h; omega
  have q := Z1R z
  have : 9007199254740992 ≤ rnd B (K - 1) := by
   refine Z30 (Nat.le_trans ?_ hB)
   rw [← P53, ← Nat.pow_add]
   have y : 2 ^ (53 + (K - 1) + 1) ≤ 2 ^ bl A := Nat.pow_le_pow_right (by decide) (by omega)
   rw [Nat.pow_succ] at y
   omega
  unfold tyA at x
  omega
 refine ⟨?_, t A (Nat.le_refl _), t _ (by omega)⟩
 unfold lsA
 rw [b, m, c.1]
 constructor
 ·rintro (x | x)
  ·omega
  exact .inr x
 rintro (x | x)
 ·omega
 exact .inr x
theorem ZaP {K A n : Nat} (hK : 1 ≤ K) (h : bl A ≤ 53 + K + n) : cdA K A ≤ (n + 2) * 4503599627370496 := by
 have t := Z9n (K := K) (A := A) hK
 have : shA K A ≤ K + n := by unfold shA; omega
 unfold cdA
 omega
theorem Zab (K : Nat) {c n : Nat} (h : 4503599627370496 ≤ c) : amc K (c + n * 4503599627370496) = amc K c * 2 ^ n := by
 have a : tC (c + n * 4503599627370496) = tC c + n := by unfold tC; omega
 have b : mC (c + n * 4503599627370496) = mC c := by unfold mC; rw [if_neg (by omega), if_neg (by omega)]; omega
 unfold amc
 rw [a, b, ← Nat.add_assoc, Nat.pow_add, Nat.mul_assoc]
end Go.Proofs.YtjnfipkbgmdpaaaGreatDoor.Nm

namespace Go.Proofs.YtjnfipkbgmdpaaaGreatDoor.Nf
open Go.RowKit Go.Proofs.YtjnfipkbgmdpaaaGreatDoor.PAll Go.Proofs.YtjnfipkbgmdpaaaGreatDoorW.PrintWords Go.Proofs.YtjnfipkbgmdpaaaGreatDoorW.PrintLast Go.Proofs.YtjnfipkbgmdpaaaGreatDoorW.PrintMore Go.Proofs.YtjnfipkbgmdpaaaGreatDoor.Nm
set_option linter.unusedVariables false
set_option linter.unusedSimpArgs false
theorem Z6Y (s : Bool) {A : Nat} (h : A ≠ 0) : decide (sg s A < 0) = s := by
 cases s
 ·exact decide_eq_false (show ¬ (A : Int) < 0 by omega)
 exact decide_eq_true (show -(A : Int) < 0 by omega)
theorem Z7Z (s : Bool) {t A B : Nat} (h : Eqv t A B) (ha : 2 ^ (t + 54) ≤ A) : nbZ (sg s A) = nbZ (sg s B) ∧ flA A = flA B := by
 have p := Zq (t + 54)
 have q := Zq t
 have b0 : B ≠ 0 := by
  rcases h with e | ⟨_, _, e⟩
  ·omega
  rintro rfl; exact e (Nat.zero_mod _)
 have a0 : A ≠ 0 := by omega
 obtain ⟨c, l, y⟩ := Za9 (K := KK) h ha
 have m : mbA KK A = mbA KK B := by unfold mbA; rw [c]
 refine ⟨?_, ?_⟩
 ·unfold nbZ
  rw [Z1z, Z1z, Z6Y s a0, Z6Y s b0, m]
 unfold flA
 rw [m]
 by_cases u : lsA KK B
 ·rw [if_pos (l.2 u), if_pos u]
  by_cases v : tyA KK B
  ·rw [if_pos (⟨a0, y.2 v⟩ : A ≠ 0 ∧ tyA KK A), if_pos (⟨b0, v⟩ : B ≠ 0 ∧ tyA KK B)]
  rw [if_neg (fun c => v (y.1 c.2) : ¬ (A ≠ 0 ∧ tyA KK A)), if_neg (fun c => v c.2 : ¬ (B ≠ 0 ∧ tyA KK B))]
 rw [if_neg (fun c => u (l.1 c)), if_neg u]
noncomputable def stR (s : Bool) (c k W : Nat) : Int × Int := (nbZ (sg s (stA c k W)), flA (stA c k W))
def uL : Int := lowE + 1
theorem Z6Z (s : Bool) {c k W r : Nat} {e : Int} {more : Bool} (hc : 0 < c) (hk : 0 < k) (he : uL ≤ e) (hr : 2 ^ 55 ≤ r) (h1 : pw c k (r * 2 ^ (e - uL).toNat) ≤ W) (h2 : W < pw c k ((r + 1) * 2 ^ (e - uL).toNat)) (hm : more = true ↔ pw c k (r * 2 ^ (e - uL).toNat) ≠ W) : stS s r e more = stR s c k W := by
 have E := Z4J hc hk h1 h2 hm
 have a : am (2 * r + if more = true then 1 else 0) (e - 1) = (2 * r + if more = true then 1 else 0) * 2 ^ (e - uL).toNat := by
  unfold am uL
  rw [show e - 1 - lowE = e - (lowE + 1) by omega]
 unfold stS stR
 rw [a]
 generalize (e - uL).toNat = t at *
 have big : 2 ^ (t + 1 + 54) ≤ (2 * r + if more = true then 1 else 0) * 2 ^ t := by
  rw [show t + 1 + 54 = 55 + t by omega, Nat.pow_add]
  exact Nat.mul_le_mul_right _ (by omega)
 obtain ⟨x, y⟩ := Z7Z s E big
 rw [x, y]
def WK (k v : Nat) (e : Int) : Nat := v * 2 ^ (e - k * uL).toNat
theorem Z2M (k r : Nat) : pw 1 k r = r ^ k := Nat.one_mul _
theorem ZaQ (u : Int) {k v n r : Nat} {e s E : Int} {lost : Bool} (hk : 0 < k) (hE : u ≤ E) (hs : e - s = k * E) (hn : n = scN v s) (hl : lost = scL v s) (hR : Rk 1 k n r) (hm : -s ≤ (k * (E - u).toNat : Nat)) :
  pw 1 k (r * 2 ^ (E - u).toNat) ≤ v * 2 ^ (e - k * u).toNat ∧ v * 2 ^ (e - k * u).toNat < pw 1 k ((r + 1) * 2 ^ (E - u).toNat) ∧ ((lost || decide (n ≠ pw 1 k r)) = true ↔ pw 1 k (r * 2 ^ (E - u).toNat) ≠ v * 2 ^ (e - k * u).toNat) := by
 obtain ⟨t, ht⟩ : ∃ t : Nat, (E - u).toNat = t := ⟨_, rfl⟩
 have eE : E = u + t := by omega
 have x : e - k * u = s + (k * t : Nat) := by
  have : (k : Int) * E = k * u + (k * t : Nat) := by rw [eE, Int.mul_add, Int.natCast_mul]
  omega
 rw [ht] at hm ⊢
 rw [Z2r, Z2r]
 obtain ⟨h1, h2⟩ := hR
 rw [x]
 by_cases c : 0 ≤ s
 ·have : v * 2 ^ (s + (k * t : Nat)).toNat = n * 2 ^ (k * t) := by
   rw [hn]; unfold scN; rw [if_pos c, Nat.mul_assoc, ← Nat.pow_add]; congr 2; omega
  have p := Zq (k * t)
  rw [this]
  refine ⟨Nat.mul_le_mul_right _ h1, Nat.mul_lt_mul_of_pos_right h2 p, ?_⟩
  rw [hl]
  unfold scL
  rw [if_pos c, Bool.false_or, decide_eq_true_iff]
  exact not_congr ⟨fun e => by rw [e], fun e => (Nat.eq_of_mul_eq_mul_right p e).symm⟩
 obtain ⟨m, em⟩ : ∃ m : Nat, -s = m := ⟨(-s).toNat, by omega⟩
 have em' : (-s).toNat = m := by omega
 obtain ⟨j, ej⟩ : ∃ j, k * t = m + j := ⟨k * t - m, by omega⟩
 have p := Zq m
 have q := Zq j
 have nd : n = v / 2 ^ m := by rw [hn]; unfold scN; rw [if_neg c, em']
 have ld : lost = decide (v % 2 ^ m ≠ 0) := by rw [hl]; unfold scL; rw [if_neg c, em']
 rw [show (s + (k * t : Nat)).toNat = j by omega, ej, Nat.pow_add, ← Nat.mul_assoc, ← Nat.mul_assoc]
 have dm := Nat.div_add_mod v (2 ^ m)
 have lm := Nat.mod_lt v p
 rw [← nd] at dm
 have l1 : pw 1 k r * 2 ^ m ≤ v := by
  have := Nat.mul_le_mul_right (2 ^ m) h1
  rw [Nat.mul_comm (2 ^ m) n] at dm
  omega
 have l2 : v < pw 1 k (r + 1) * 2 ^ m := by
  have := Nat.mul_le_mul_right (2 ^ m) (show n + 1 ≤ pw 1 k (r + 1) from h2)
  rw [Nat.succ_mul] at this
  rw [Nat.mul_comm (2 ^ m) n] at dm
  omega
 refine ⟨Nat.mul_le_mul_right _ l1, Nat.mul_lt_mul_of_pos_right l2 q, ?_⟩
 rw [ld, Bool.or_eq_true, decide_eq_true_iff, decide_eq_true_iff]
 have key : pw 1 k r * 2 ^ m = v ↔ v % 2 ^ m = 0 ∧ n = pw 1 k r := by
  rw [Nat.mul_comm (2 ^ m) n] at dm
  constructor
  ·intro h
   have : v % 2 ^ m = 0 := by rw [← h]; exact Nat.mul_mod_left _ _
   refine ⟨this, ?_⟩
   rw [this, Nat.add_zero, ← h] at dm
   exact Nat.eq_of_mul_eq_mul_right p dm
  rintro ⟨z, y⟩
  rw [z, y] at dm
  exact dm
 constructor
 ·intro h c
  have := key.1 (Nat.eq_of_mul_eq_mul_right q c)
  rcases h with h | h
  ·exact h this.1
  exact h this.2
 intro h
 by_cases z : v % 2 ^ m = 0
 ·right; exact fun y => h (by rw [key.2 ⟨z, y⟩])
 exact .inl z
theorem Z80 {k v n r : Nat} {e s E : Int} {lost : Bool} (hk : 0 < k) (hE : uL ≤ E) (hs : e - s = k * E) (hn : n = scN v s) (hl : lost = scL v s) (hR : Rk 1 k n r) (hm : -s ≤ (k * (E - uL).toNat : Nat)) :
  pw 1 k (r * 2 ^ (E - uL).toNat) ≤ WK k v e ∧ WK k v e < pw 1 k ((r + 1) * 2 ^ (E - uL).toNat) ∧ ((lost || decide (n ≠ pw 1 k r)) = true ↔ pw 1 k (r * 2 ^ (E - uL).toNat) ≠ WK k v e) := ZaQ uL hk hE hs hn hl hR hm
theorem Z3e {P : Nat → Nat} {k a r : Nat} (hP : ∀ x, P x = pw 1 k x) (h : IsR P a r) : Rk 1 k a r := by
 refine ⟨by rw [← hP]; exact h.1, Nat.not_le.1 fun c => ?_⟩
 have := h.2 (r + 1) (by rw [hP]; exact c)
 omega
theorem pw3 (x : Nat) : x * x * x = pw 1 3 x := by rw [Z2M, Nat.pow_succ, Nat.pow_two]
theorem pw2 (x : Nat) : x * x = pw 1 2 x := by rw [Z2M, Nat.pow_two]
theorem Z45 {c k n r b : Nat} (hc : 0 < c) (hk : 0 < k) (h : Rk c k n r) (hb : pw c k (2 ^ b) ≤ n) : 2 ^ b ≤ r := (Z4S h).1 hb
theorem Z6j {v : Nat} {e kk : Int} (hkk : kk = 2 ∨ kk = 3) : e - scI e (kk * 64 - (bl v : Int)) kk = kk * rtE v e kk := by
 have := Z2q e (kk * 64 - (bl v : Int)) hkk
 unfold rtE
 rcases hkk with rfl | rfl <;> omega
theorem Z6k {v : Nat} {e kk : Int} {m : Nat} (v0 : v ≠ 0) (hkk : kk = 2 ∨ kk = 3) (hm : (m : Int) + 1 = kk * 64) : 2 ^ m ≤ rtN v e kk := by
 have s := Z2q e (kk * 64 - (bl v : Int)) hkk
 have b := Z1M v0
 unfold rtN scN
 generalize scI e (kk * 64 - (bl v : Int)) kk = i at *
 by_cases c : 0 ≤ i
 ·rw [if_pos c]
  refine Nat.le_trans ?_ (Nat.mul_le_mul_right _ b.1)
  rw [← Nat.pow_add]
  exact Nat.pow_le_pow_right (by decide) (by omega)
 rw [if_neg c, Nat.le_div_iff_mul_le (Zq _), ← Nat.pow_add]
 exact Nat.le_trans (Nat.pow_le_pow_right (by decide) (by omega)) b.1
theorem Z70 {e : Int} (h : -20000 ≤ e) : uL ≤ e ∧ 10000 ≤ (e - uL).toNat := by unfold uL lowE; omega
theorem Z81 (l : List Int) (e : Int) (k : Nat) (w : Wl l) (v0 : val l ≠ 0) (hb : bl (val l) ≤ 9000) (e0 : -9000 ≤ e) (e1 : e ≤ 9000) (hk : 2000000000000000000000 ≤ k) (s : Bool) : Z0c.f k s l e 3 37 = some (stR s 1 3 (WK 3 (val l) e)) := by
 obtain ⟨r, hi, hr⟩ := Z43 l e k w v0 hb e0 e1 hk
 have eb := Z41 (v := val l) (e := e) (.inr rfl) hb e0 e1
 obtain ⟨u1, u2⟩ := Z70 eb.1
 have hR : Rk 1 3 (rtN (val l) e 3) r := Z3e pw3 hi
 have sb := Z2q e (3 * 64 - (bl (val l) : Int)) (.inr rfl)
 obtain ⟨a, b, c⟩ := Z80 (k := 3) (v := val l) (e := e) (by decide) u1 (Z6j (.inr rfl)) rfl rfl hR (by show -(scI e (3 * 64 - (bl (val l) : Int)) 3) ≤ _; omega)
 have rb : 2 ^ 55 ≤ r := Z45 (by decide) (by decide) hR (Nat.le_trans (by rw [Z2M, ← Nat.pow_mul]; exact Nat.pow_le_pow_right (by decide) (by decide)) (Z6k (m := 191) v0 (.inr rfl) (by decide)))
 have d : decide (rtN (val l) e 3 - r * r * r ≠ 0) = decide (rtN (val l) e 3 ≠ pw 1 3 r) := by
  have := hR.1
  rw [pw3, Bool.eq_iff_iff, decide_eq_true_iff, decide_eq_true_iff]; omega
 rw [hr, d]
 exact congrArg some (Z6Z s (by decide) (by decide) u1 rb a b c)
theorem Z82 (l : List Int) (e : Int) (k : Nat) (w : Wl l) (v0 : val l ≠ 0) (hb : bl (val l) ≤ 9000) (e0 : -9000 ≤ e) (e1 : e ≤ 9000) (hk : 2000000000000000000000 ≤ k) (s : Bool) : Z0c.f k s l e 2 40 = some (stR s 1 2 (WK 2 (val l) e)) := by
 obtain ⟨r, hi, hr⟩ := Z2Z l e k w v0 hb e0 e1 hk
 have eb := Z41 (v := val l) (e := e) (.inl rfl) hb e0 e1
 obtain ⟨u1, u2⟩ := Z70 eb.1
 have hR : Rk 1 2 (rtN (val l) e 2) r := Z3e pw2 hi
 have sb := Z2q e (2 * 64 - (bl (val l) : Int)) (.inl rfl)
 obtain ⟨a, b, c⟩ := Z80 (k := 2) (v := val l) (e := e) (by decide) u1 (Z6j (.inl rfl)) rfl rfl hR (by show -(scI e (2 * 64 - (bl (val l) : Int)) 2) ≤ _; omega)
 have rb : 2 ^ 55 ≤ r := Z45 (by decide) (by decide) hR (Nat.le_trans (by rw [Z2M, ← Nat.pow_mul]; exact Nat.pow_le_pow_right (by decide) (by decide)) (Z6k (m := 127) v0 (.inl rfl) (by decide)))
 have d : decide (rtN (val l) e 2 - r * r ≠ 0) = decide (rtN (val l) e 2 ≠ pw 1 2 r) := by
  have := hR.1
  rw [pw2, Bool.eq_iff_iff, decide_eq_true_iff, decide_eq_true_iff]; omega
 rw [hr, d]
 exact congrArg some (Z6Z s (by decide) (by decide) u1 rb a b c)
def aX (x : Int) : Nat := amc KK (x % 9223372036854775808).toNat
noncomputable def vX (x : Int) : Nat := od (Nb.ZH x).toNat
noncomputable def xX (x : Int) : Int := Nb.Z0i x + (tz (Nb.ZH x).toNat : Int)
theorem Z9i (k : Nat) : ∃ n : Nat, n = (lowE - k * uL).toNat := ⟨_, rfl⟩
noncomputable def CC (k : Nat) : Nat := (Z9i k).choose
theorem Z71 (k : Nat) (h : 2 ≤ k) : (CC k : Int) = lowE - k * uL := by
 have : (k : Int) * uL ≤ 2 * uL := Int.mul_le_mul_of_nonpos_right (by omega) (by unfold uL lowE; omega)
 have : 2 * uL ≤ lowE := by unfold uL lowE; omega
 have := (Z9i k).choose_spec
 unfold CC; omega
theorem Z9j (k v : Nat) {e : Int} (hk : 2 ≤ k) (h : lowE ≤ e) : WK k v e = am v e * 2 ^ CC k := by
 have c := Z71 k hk
 unfold WK am
 rw [Nat.mul_assoc, ← Nat.pow_add]
 congr 2
 omega
theorem Z9k {x : Int} (hx : Nb.W64 x) (f : Nb.Z04 x) : am (vX x) (xX x) = aX x := by
 have eb := Nb.Z3j hx f
 unfold vX xX aX
 rw [Z8H (by unfold lowE; omega), ZaD hx]
theorem Z46 {x : Int} (hx : Nb.W64 x) (f : Nb.Z04 x) (z : x % 9223372036854775808 ≠ 0) : vX x ≠ 0 ∧ bl (vX x) ≤ 53 ∧ -1074 ≤ xX x ∧ xX x ≤ 1100 ∧ Wl (ofN (vX x)) := by
 have m := Nb.Z2b hx
 have eb := Nb.Z3j hx f
 have mz : (Nb.ZH x).toNat ≠ 0 := fun c => z ((Z3d hx).1 (by omega))
 have tl := Z3V mz
 have bm : bl (Nb.ZH x).toNat ≤ 53 := by rw [ZO, P53]; omega
 have bo : bl (od (Nb.ZH x).toNat) ≤ 53 := Nat.le_trans (Z2B (Z3n _)) bm
 have lo : (ofN (od (Nb.ZH x).toNat)).length ≤ 1 := Z0Y (Nat.lt_of_le_of_lt (Z3n _) (by omega))
 unfold vX xX
 exact ⟨Z3U mz, bo, by omega, by omega, Z2p (by omega)⟩
theorem Z47 {x : Int} (hx : Nb.W64 x) (f : Nb.Z04 x) (z : x % 9223372036854775808 ≠ 0) : ZP x = (ZU x, ofN (vX x), xX x, 0) := Z1Q hx f z
theorem Z83 {x : Int} (k : Nat) (hx : Nb.W64 x) (f : Nb.Z04 x) (z : x % 9223372036854775808 ≠ 0) (hk : 2000000000000000000000 ≤ k) : Z0G.f k x = some ((stR (ZU x) 1 3 (aX x * 2 ^ CC 3)).1, (stR (ZU x) 1 3 (aX x * 2 ^ CC 3)).2, 0) := by
 obtain ⟨v0, vb, e0, e1, w⟩ := Z46 hx f z
 have r := Z81 (ofN (vX x)) (xX x) k w (by rw [Z1]; exact v0) (by rw [Z1]; omega) (by omega) (by omega) hk (ZU x)
 rw [Z1, Z9j 3 _ (by decide) (by unfold lowE; omega), Z9k hx f] at r
 unfold Z0G.f
 rw [Z10 x k hx (by omega), Z0, Z47 hx f z, if_pos rfl, Nb.Z31 hx, Z0, if_neg (show ¬ Nb.am x = 0 from z), r, Z0]
noncomputable def RW (x : Int) : Nat := 2 ^ (-xX x - 2 * uL).toNat
theorem Z84 (u : Int) {v K r : Nat} {e E : Int} (v0 : v ≠ 0) (hE : u ≤ E) (h2 : -e - (K : Int) = 2 * E) (hR : Rk 1 2 (2 ^ K / v) r) :
  pw v 2 (r * 2 ^ (E - u).toNat) ≤ 2 ^ (-e - 2 * u).toNat ∧ 2 ^ (-e - 2 * u).toNat < pw v 2 ((r + 1) * 2 ^ (E - u).toNat) ∧
   ((decide (2 ^ K % v ≠ 0) || decide (2 ^ K / v ≠ pw 1 2 r)) = true ↔ pw v 2 (r * 2 ^ (E - u).toNat) ≠ 2 ^ (-e - 2 * u).toNat) := by
 have x : (-e - 2 * u).toNat = K + 2 * (E - u).toNat := by omega
 obtain ⟨h1, h2⟩ := hR
 rw [x, Nat.pow_add, Z2r, Z2r]
 have p := Zq (2 * (E - u).toNat)
 generalize 2 ^ (2 * (E - u).toNat) = P at *
 have dm := Nat.div_add_mod (2 ^ K) v
 have lm := Nat.mod_lt (2 ^ K) (Nat.pos_of_ne_zero v0)
 have c : ∀ s, pw v 2 s = v * pw 1 2 s := fun s => by rw [Z2M]; rfl
 rw [c, c]
 generalize 2 ^ K = T at *
 generalize T / v = q at *
 generalize T % v = m at *
 have l1 : v * pw 1 2 r ≤ T := by
  have := Nat.mul_le_mul_left v h1; omega
 have l2 : T < v * pw 1 2 (r + 1) := by
  have := Nat.mul_le_mul_left v (show q + 1 ≤ pw 1 2 (r + 1) from h2)
  rw [Nat.mul_add, Nat.mul_one] at this; omega
 refine ⟨Nat.mul_le_mul_right _ l1, Nat.mul_lt_mul_of_pos_right l2 p, ?_⟩
 rw [Bool.or_eq_true, decide_eq_true_iff, decide_eq_true_iff]
 constructor
 ·intro h cc
  have e := Nat.eq_of_mul_eq_mul_right p cc
  have g : v * pw 1 2 r ≤ v * q := Nat.mul_le_mul_left v h1
  rcases h with h | h
  ·omega
  have : v * q = v * pw 1 2 r := by omega
  exact h (Nat.eq_of_mul_eq_mul_left (Nat.pos_of_ne_zero v0) this)
 intro h
 by_cases y : m = 0
 ·right; intro cc; apply h; rw [← cc, ← dm, y, Nat.add_zero]
 exact .inl y
theorem Zac {a b k : Nat} (h : 2 ^ a ≤ 2 ^ 92) (hk : 100000000000000000000000000000 ≤ k) (hb : b ≤ 1024) : 5 * 2 ^ a + b + 6000000 < k := by
 have : (2 : Nat) ^ 92 = 4951760157141521099596496896 := by decide
 omega
theorem Z6l {x : Int} (k : Nat) (hx : Nb.W64 x) (f : Nb.Z04 x) (z : x % 9223372036854775808 ≠ 0) (s : ZU x = false) (hk : 100000000000000000000000000000 ≤ k) : ZL.f (k + 1) x = some ((stR false (vX x) 2 (RW x)).1, (stR false (vX x) 2 (RW x)).2, 0) := by
 obtain ⟨v0, vb, e0, e1, w⟩ := Z46 hx f z
 unfold ZL.f
 rw [Z10 x (k + 1) hx (by omega), Z0, Z47 hx f z, if_pos rfl, Nb.Z31 hx, Z0, if_neg (show ¬ Nb.am x = 0 from z), s, if_neg (show ¬ (false = true) by decide)]
 unfold RW
 generalize vX x = v at *
 generalize xX x = e at *
 have vbig : v < big := ZT.2 (by omega)
 have lv := Z05 vbig
 show ((Z0Q.f (k + 1) (ofN v)).bind _) = _
 rw [Z3S (ofN v) (k + 1) (Zf _) (by omega) (by omega), Z1, if_pos vbig, Z0]
 show (if Int.tmod (wrap64 (e + wrap64 (128 + ((bl v : Nat) : Int)))) 2 = 0 then ZL.j0 (k + 1) (wrap64 (128 + ((bl v : Nat) : Int))) false (ofN v) e else ZL.j0 (k + 1) (wrap64 (wrap64 (128 + ((bl v : Nat) : Int)) + 1)) false (ofN v) e) = _
 have w1 : wrap64 (128 + ((bl v : Nat) : Int)) = 128 + ((bl v : Nat) : Int) := by unfold wrap64; omega
 have w2 : wrap64 (e + (128 + ((bl v : Nat) : Int))) = e + (128 + ((bl v : Nat) : Int)) := by unfold wrap64; omega
 have w3 : wrap64 (128 + ((bl v : Nat) : Int) + 1) = ((129 + bl v : Nat) : Int) := by unfold wrap64; omega
 rw [w1, w2, w3]
 -- from the exponent on
 have J : ∀ K : Nat, 128 + bl v ≤ K → K ≤ 129 + bl v → (e + (K : Int)) % 2 = 0 → ZL.j0 (k + 1) (K : Int) false (ofN v) e = some ((stR false v 2 (2 ^ (-e - 2 * uL).toNat)).1, (stR false v 2 (2 ^ (-e - 2 * uL).toNat)).2, 0) := fun K k0 k1 ev => by
  obtain ⟨E, hE⟩ : ∃ E : Int, -e - (K : Int) = 2 * E := ⟨(-e - K) / 2, by omega⟩
  have l1 : (ofN 1).length ≤ 1 := Z0Y (v := 1) (by decide)
  have b1 : (1 : Nat) < big := Z1Z (by decide)
  have bT : bl (2 ^ K) = K + 1 := by
   have := Z2j (n := 1) (m := K) (by decide)
   rw [Nat.one_mul, Z1S] at this; omega
  have T : 2 ^ K < big := ZT.2 (by omega)
  have lT := Z05 T
  have bq : bl (2 ^ K / v) ≤ K + 1 := Nat.le_trans (Z2B (Nat.div_le_self _ _)) (by omega)
  have qbig : 2 ^ K / v < big := ZT.2 (by omega)
  have lq := Z05 qbig
  have pq : 2 ^ ((bl (2 ^ K / v) + 1) / 2) ≤ 2 ^ 92 := Nat.pow_le_pow_right (by decide) (by omega)
  rw [ZL.j0]
  show (Z1i.f k ((1 : Nat) : Int)).bind _ = _
  rw [Z5k 1 k (by decide) (by omega), Z0, Z37 (ofN 1) _ k (Zf _) (by omega) (by omega), Z1, Z0]
  have s1 : (Z2m 1 (K : Int)).1 = ofN (2 ^ K) := by
   unfold Z2m
   rw [if_pos b1, if_neg (by omega), if_neg (by decide), Int.toNat_natCast, Z1S, if_pos (by omega), Nat.one_mul]
  rw [s1, Z7m (ofN (2 ^ K)) (ofN v) k (Zf _) (Zf _) (by omega) (by omega) (by omega), Z1, Z1, Z0]
  have q1 : Z4h (2 ^ K) v = (ofN (2 ^ K / v), ofN (2 ^ K % v), 0) := by
   unfold Z4h
   rw [if_pos ⟨T, vbig⟩, if_neg v0]
  rw [q1]
  obtain ⟨r, hr, hi⟩ := (Z4j (ofN (2 ^ K / v)) k (Zf _) (by omega) (by rw [Z1]; exact Zac pq hk lq)).1 (by rw [Z1]; exact qbig)
  rw [Z1] at hr hi
  have hR : Rk 1 2 (2 ^ K / v) r := Z3e pw2 hi
  have rq : r ≤ 2 ^ K / v := by
   have : r * r ≤ 2 ^ K / v := hi.1
   rcases Nat.eq_zero_or_pos r with y | y
   ·omega
   exact Nat.le_trans (Nat.le_mul_of_pos_left r y) this
  have rb : bl r ≤ 60000 := Nat.le_trans (Z2B rq) (by omega)
  have rbig : 2 ^ 55 ≤ r := Z45 (by decide) (by decide) hR (by
   rw [Z2M, ← Nat.pow_mul, Nat.le_div_iff_mul_le (Nat.pos_of_ne_zero v0)]
   have lv2 := Z17 v
   refine Nat.le_trans (Nat.mul_le_mul_left _ (Nat.le_of_lt lv2)) ?_
   rw [← Nat.pow_add]
   exact Nat.pow_le_pow_right (by decide) (by omega))
  obtain ⟨u1, u2⟩ := Z70 (e := E) (by omega)
  obtain ⟨a, b, c⟩ := Z84 uL v0 u1 hE hR
  show ((Z0F.f k (ofN (2 ^ K / v))).bind _) = _
  rw [hr, Z0]
  have e4 : wrap64 (Int.tdiv (wrap64 (wrap64 (-e) - (K : Int))) 2) = E := by
   rw [show wrap64 (-e) = -e by unfold wrap64; omega, show wrap64 (-e - (K : Int)) = 2 * E by unfold wrap64; omega, Int.mul_tdiv_cancel_left _ (by decide)]
   unfold wrap64; omega
  have d : decide (2 ^ K / v - r * r ≠ 0) = decide (2 ^ K / v ≠ pw 1 2 r) := by
   have := hR.1
   rw [pw2, Bool.eq_iff_iff, decide_eq_true_iff, decide_eq_true_iff]; omega
  rw [← d] at c
  show (if ((ofN (2 ^ K % v)).length : Int) > 0 then ((ZS.f k false (ofN r) (wrap64 (Int.tdiv (wrap64 (wrap64 (-e) - (K : Int))) 2)) true).bind fun bt => some (bt.1, bt.2, 0)) else ((ZS.f k false (ofN r) (wrap64 (Int.tdiv (wrap64 (wrap64 (-e) - (K : Int))) 2)) (decide (((ofN (2 ^ K / v - r * r)).length : Int) > 0))).bind fun bt => some (bt.1, bt.2, 0))) = _
  rw [e4, Z2A, Z24 false r E true k rb (by omega) (by omega) (by omega), Z24 false r E _ k rb (by omega) (by omega) (by omega), Z0, Z0, ← Z6Z false (Nat.pos_of_ne_zero v0) (by decide) u1 rbig a b c]
  have g := Z2A (2 ^ K % v)
  by_cases y : 2 ^ K % v = 0
  ·rw [y] at g ⊢
   rw [if_neg (by rw [decide_eq_decide] at g; rw [g]; exact fun h => h rfl), show decide ((0 : Nat) ≠ 0) = false by decide, Bool.false_or]
  rw [if_pos (by rw [decide_eq_decide] at g; rw [g]; exact y), show decide (2 ^ K % v ≠ 0) = true from decide_eq_true y, Bool.true_or]
 by_cases ev : Int.tmod (e + (128 + ((bl v : Nat) : Int))) 2 = 0
 ·rw [if_pos ev]
  have := J (128 + bl v) (by omega) (by omega) (by have := Z2w.1 ev; omega)
  rw [← this]; congr 1
 rw [if_neg ev]
 have h : ¬ (e + (128 + ((bl v : Nat) : Int))) % 2 = 0 := fun c => ev (Z2w.2 c)
 exact J (129 + bl v) (by omega) (by omega) (by omega)
noncomputable def HW (x y : Int) : Nat := (sqV x + sqV y).natAbs * 2 ^ CC 2
theorem Z4q {x y : Int} (k : Nat) (hx : Nb.W64 x) (hy : Nb.W64 y) (fx : Nb.Z04 x) (fy : Nb.Z04 y) (hk : 2000000000000000000000 ≤ k) :
  ZE.f (k + 1) x y = if sqV x + sqV y = 0 then some (0, 0, 0) else some ((stR false 1 2 (HW x y)).1, (stR false 1 2 (HW x y)).2, 0) := by
 obtain ⟨U, ub, hU⟩ := Z2L hx fx
 obtain ⟨V, vb, hV⟩ := Z2L hy fy
 have hs : sqV x + sqV y = ((U + V : Nat) : Int) * 2 ^ JJ := by rw [hU, hV, ← Int.add_mul, Int.natCast_add]
 have sb : bl (U + V) ≤ 4201 := Z7S ub vb
 rw [Z4I k hx hy fx fy (by omega)]
 unfold HW
 generalize sqV x + sqV y = Z at *
 generalize U + V = M at *
 obtain ⟨r1, r2, r3⟩ := Z25 hs (by rw [Int.natAbs_natCast]; omega)
 have e : cz Z lowE = cf false M (-2148) := by rw [Z6e hs, Z3o]; rfl
 have cv := Z6L Z
 rw [Z6V] at cv
 unfold hyC
 rw [Z5A _ _ _ k r2 (by omega), Z0, if_pos r1]
 by_cases z : val (cz Z lowE).2.1 = 0
 ·have : Z = 0 := by rw [← cv, z, Z2h, Z1X]
  rw [if_pos (decide_eq_true z), if_pos this]
 have z2 : M ≠ 0 := by
  intro c
  apply z
  rw [e, c, Z0J]
  exact Z1l
 have t := Z3V z2
 have v : val (cz Z lowE).2.1 = od M := by rw [e, Z7F]
 have ex : (cz Z lowE).2.2 = -2148 + (tz M : Int) := by rw [e, Z19 z2]
 have ab : am (val (cz Z lowE).2.1) (cz Z lowE).2.2 = Z.natAbs := by
  have := congrArg Int.natAbs cv
  rw [Z1z] at this; exact this
 have r := Z82 (cz Z lowE).2.1 (cz Z lowE).2.2 k r2 z (by rw [v]; exact Nat.le_trans (Z2B (Z3n _)) (by omega)) (by rw [ex]; omega) (by rw [ex]; omega) hk (cz Z lowE).1
 have sgn : (cz Z lowE).1 = false := by rw [e, Z19 z2]
 rw [Z9j 2 _ (by decide) (by rw [ex]; unfold lowE; omega), ab] at r
 have z0 : Z ≠ 0 := fun c => Z3b z (cz Z lowE).2.2 (by rw [ab, c]; rfl)
 rw [if_neg (by rw [decide_eq_true_iff]; exact z), if_neg z0, r, Z0, sgn]
end Go.Proofs.YtjnfipkbgmdpaaaGreatDoor.Nf

namespace Go.Proofs.YtjnfipkbgmdpaaaGreatDoor.Nb
open Go.RowKit Go.Proofs.YtjnfipkbgmdpaaaGreatDoor.PAll Go.Proofs.YtjnfipkbgmdpaaaGreatDoorW.PrintWords Go.Proofs.YtjnfipkbgmdpaaaGreatDoorW.PrintLast Go.Proofs.YtjnfipkbgmdpaaaGreatDoorW.PrintMore
set_option linter.unusedVariables false
set_option linter.unusedSimpArgs false
theorem Z3f {k : Nat} {x : Int} (hk : 1 ≤ k) (hx : W64 x) : ZB.f k x = some (cls x) := by
 obtain ⟨k, rfl⟩ : ∃ m, k = m + 1 := ⟨k - 1, by omega⟩
 have h0 := hx.1; have h1 := hx.2
 have b := Z3i hx; have c := Z4L hx
 have e1 : Int.tmod (IntKind.u64.wrap (Int.tdiv x 4503599627370496)) 2048 = ex x := by
  unfold ex; rw [Z92 hx.1, Z18 (by omega) (by omega), Z3J (by omega)]
 have e2 : Int.tmod x 4503599627370496 = fr x := by unfold fr; rw [Z3J h0]
 unfold ZB.f cls; simp only [ZB.j0]; rw [e1, e2]
 by_cases z : ex x = 0
 ·rw [if_pos z, if_pos z]
  by_cases f : fr x = 0
  ·simp [f, z]
  rw [if_neg (by simpa using f), if_pos z, if_neg f]
 rw [if_neg z, if_neg z]; simp only [Bool.false_eq_true, if_false, z]
 (repeat' split) <;> rfl
end Go.Proofs.YtjnfipkbgmdpaaaGreatDoor.Nb
namespace Go.Proofs.YtjnfipkbgmdpaaaGreatDoor.Nf
open Go.RowKit Go.Proofs.YtjnfipkbgmdpaaaGreatDoor.PAll Go.Proofs.YtjnfipkbgmdpaaaGreatDoorW.PrintWords Go.Proofs.YtjnfipkbgmdpaaaGreatDoorW.PrintLast Go.Proofs.YtjnfipkbgmdpaaaGreatDoorW.PrintMore Go.Proofs.YtjnfipkbgmdpaaaGreatDoor.Nm
set_option linter.unusedVariables false
set_option linter.unusedSimpArgs false
def nor (x : Int) : Prop := 1 ≤ Nb.ex x ∧ Nb.ex x ≤ 2046
theorem Z3x (x : Int) (hx : Nb.W64 x) : Nb.cls x = 3 ↔ nor x := by
 have b := Nb.Z3i hx
 unfold Nb.cls nor
 by_cases a : Nb.ex x = 0
 ·rw [if_pos a]
  split <;> omega
 rw [if_neg a]
 by_cases c : Nb.ex x < 2047
 ·rw [if_pos c]; omega
 rw [if_neg c]
 split
 ·omega
 split <;> omega
theorem Z1b {x : Int} (hx : Nb.W64 x) (h : nor x) : Nb.Z04 x ∧ x % 9223372036854775808 ≠ 0 ∧ 4503599627370496 ≤ (x % 9223372036854775808).toNat ∧ (x % 9223372036854775808).toNat < 9218868437227405312 := by
 obtain ⟨a1, a2, a3, a4, a5, a6⟩ := Z1C hx
 unfold nor at h
 unfold Nb.Z04
 omega
theorem Z1n {x : Int} {n : Int} (hx : Nb.W64 x) (h : nor x) (h0 : 1 ≤ Nb.ex x + n) (h1 : Nb.ex x + n ≤ 2046) :
  Nb.W64 (x + n * 4503599627370496) ∧ Nb.ex (x + n * 4503599627370496) = Nb.ex x + n ∧ Nb.fr (x + n * 4503599627370496) = Nb.fr x ∧ ZU (x + n * 4503599627370496) = ZU x ∧ (x + n * 4503599627370496) % 9223372036854775808 = x % 9223372036854775808 + n * 4503599627370496 := by
 obtain ⟨a1, a2, a3, a4, a5, a6⟩ := Z1C hx
 obtain ⟨w0, w1⟩ := hx
 have s : sX (ZU x) = if 9223372036854775808 ≤ x then 9223372036854775808 else 0 := by
  unfold sX ZU
  by_cases h : 9223372036854775808 ≤ x
  ·rw [if_pos (decide_eq_true h), if_pos h]
  rw [if_neg (by rw [decide_eq_true_iff]; exact h), if_neg h]
 rw [s] at a6
 unfold nor at h
 have d : ZU (x + n * 4503599627370496) = ZU x := by
  unfold ZU
  rw [Bool.eq_iff_iff, decide_eq_true_iff, decide_eq_true_iff]
  split at a6 <;> omega
 refine ⟨?_, ?_, ?_, d, ?_⟩
 ·unfold Nb.W64; split at a6 <;> omega
 ·unfold Nb.ex at *; omega
 ·unfold Nb.fr at *; omega
 split at a6 <;> omega
theorem Z2N {x : Int} {n : Int} (hx : Nb.W64 x) (h : nor x) (h0 : 1 ≤ Nb.ex x + n) (h1 : Nb.ex x + n ≤ 2046) :
  nor (x + n * 4503599627370496) ∧ vX (x + n * 4503599627370496) = vX x ∧ xX (x + n * 4503599627370496) = xX x + n := by
 obtain ⟨a, b, c, d, e⟩ := Z1n hx h h0 h1
 have m : Nb.ZH (x + n * 4503599627370496) = Nb.ZH x := by
  unfold nor at h
  unfold Nb.ZH; rw [b, c, if_neg (by omega), if_neg (by omega)]
 unfold vX xX
 rw [m]
 refine ⟨by unfold nor; omega, rfl, ?_⟩
 unfold nor at h
 unfold Nb.Z0i; rw [b, if_neg (by omega), if_neg (by omega)]; omega
theorem Z5B {x : Int} {n : Nat} (hx : Nb.W64 x) (h : nor x) (h1 : Nb.ex x + (n : Int) ≤ 2046) : aX (x + (n : Int) * 4503599627370496) = aX x * 2 ^ n := by
 obtain ⟨a, b, c, d, e⟩ := Z1n (n := (n : Int)) hx h (by unfold nor at h; omega) h1
 obtain ⟨_, _, l, _⟩ := Z1b hx h
 unfold aX
 rw [e, ← Zab KK l]
 congr 1
 omega
theorem Z6m {x : Int} (hx : Nb.W64 x) (h : nor x) : xX x + (bl (vX x) : Int) = Nb.ex x - 1022 ∧ vX x * 2 ^ (53 - bl (vX x)) = (Nb.ZH x).toNat ∧ (Nb.ZH x).toNat = (Nb.fr x + 4503599627370496).toNat ∧ bl (vX x) ≤ 53 := by
 unfold nor at h
 obtain ⟨a1, a2, a3, a4, a5, a6⟩ := Z1C hx
 have m : Nb.ZH x = Nb.fr x + 4503599627370496 := by unfold Nb.ZH; rw [if_neg (by omega)]
 have e : Nb.Z0i x = Nb.ex x - 1075 := by unfold Nb.Z0i; rw [if_neg (by omega)]
 have b53 : bl (Nb.ZH x).toNat = 53 := by
  have l1 : bl (Nb.ZH x).toNat ≤ 53 := by rw [ZO, P53]; omega
  have l2 : ¬ bl (Nb.ZH x).toNat ≤ 52 := by rw [ZO, P52]; omega
  omega
 have bo := Z98 (Nb.ZH x).toNat
 unfold vX xX
 refine ⟨by omega, ?_, by rw [m], by omega⟩
 rw [show 53 - bl (od (Nb.ZH x).toNat) = tz (Nb.ZH x).toNat by omega, Z39]
theorem Z1N {x n : Int} (k : Nat) (hx : Nb.W64 x) (n0 : -4 ≤ n) (n1 : n ≤ 4) (hk : 300000000000000000 ≤ k) : ∃ y b, Z8.f (k + 1) x n = some (y, b) ∧ Nb.W64 y ∧
  (b = true → nor x ∧ 1 ≤ Nb.ex x + n ∧ Nb.ex x + n ≤ 2046 ∧ y = x + n * 4503599627370496) ∧ (nor x → 1 ≤ Nb.ex x + n → Nb.ex x + n ≤ 2046 → b = true) := by
 have W0 : Nb.W64 0 := ⟨by decide, by decide⟩
 have no : ∀ (a : Bool) (b : List Int) (d : Int), Z8.j0 (k + 1) n true a b d = some (0, false) := fun a b d => by rw [Z8.j0]; exact if_pos rfl
 unfold Z8.f
 rw [Z8M x (k + 1) hx (by omega), Z0]
 by_cases f : Nb.Z04 x
 ·rw [if_pos (Z3u f), Nb.Z3f (by omega) hx, Z0]
  by_cases h : nor x
  ·obtain ⟨_, z, _, _⟩ := Z1b hx h
   obtain ⟨v0, vb, e0, e1, w⟩ := Z46 hx f z
   obtain ⟨t1, t2, t3, t4⟩ := Z6m hx h
   have c3 : (Nb.cls x != 3) = false := by rw [(Z3x x hx).2 h]; rfl
   have lv : (ofN (vX x)).length < 17592186044000 := w.2
   have cfv : cf (ZU x) (vX x) (xX x + n) = (ZU x, ofN (vX x), xX x + n) := by
    have mz : (Nb.ZH x).toNat ≠ 0 := fun c => v0 (by unfold vX; rw [c, Z2g])
    rw [Z19 v0]
    unfold vX
    rw [Z99, Z9a mz]; simp
   have wn : wrap64 (xX x + n) = xX x + n := by unfold wrap64; omega
   have J : Z8.j0 (k + 1) n false (ZU x) (ofN (vX x)) (xX x) = if (toS (ZU x) (vX x) (xX x + n)).2 = true then (ZB.f k (toS (ZU x) (vX x) (xX x + n)).1).bind fun t => some ((toS (ZU x) (vX x) (xX x + n)).1, t == 3) else some ((toS (ZU x) (vX x) (xX x + n)).1, false) := by
    rw [Z8.j0, if_neg (show ¬ (false = true) by decide)]
    unfold Z13.f
    rw [wn, Z2W _ _ _ k (Zf _) lv (by omega) (by omega) (by omega), Z0, Z1, cfv, Z0]
    show (Zj.f k (ZU x) (ofN (vX x)) (xX x + n)).bind _ = _
    rw [Zaz _ _ _ k w (by omega), Z1, Z0]
   have fit : Z0K (vX x) (xX x + n) = true := Z0X.2 ⟨ZT.2 (by omega), by omega, by omega⟩
   have mz : (Nb.ZH x).toNat ≠ 0 := fun c => v0 (by unfold vX; rw [c, Z2g])
   have ov : od (vX x) = vX x := Z99 _
   have tv : tz (vX x) = 0 := Z9a mz
   have T : toS (ZU x) (vX x) (xX x + n) = if (bl (vX x) : Int) > 53 ∨ xX x + n + (bl (vX x) : Int) - 1 > 1023 ∨ xX x + n < -1074 then (0, false) else ((toX (vX x) (xX x + n) : Int) + sX (ZU x), true) := by
    unfold toS
    rw [if_pos fit, if_neg v0, ov, tv, show xX x + n + ((0 : Nat) : Int) = xX x + n by omega]
   rw [c3, Z47 hx f z]
   show ∃ y b, Z8.j0 (k + 1) n false (ZU x) (ofN (vX x)) (xX x) = some (y, b) ∧ _
   rw [J]
   obtain ⟨a1, a2, a3, a4, a5, a6⟩ := Z1C hx
   have nx := h
   unfold nor at nx
   by_cases r : Nb.ex x + n ≤ 2046
   ·by_cases q : 1 ≤ Nb.ex x + n
    ·obtain ⟨o1, o2, o3, o4, o5⟩ := Z1n hx h q r
     have ge : -1074 ≤ xX x + n := by omega
     have val : (toX (vX x) (xX x + n) : Int) + sX (ZU x) = x + n * 4503599627370496 := by
      unfold toX
      rw [if_neg (by omega), t2, t3]
      omega
     rw [show toS (ZU x) (vX x) (xX x + n) = (x + n * 4503599627370496, true) by rw [T, if_neg (by omega), val], if_pos rfl]
     show ∃ y b, ((ZB.f k (x + n * 4503599627370496)).bind _) = some (y, b) ∧ _
     rw [Nb.Z3f (by omega) o1, Z0]
     refine ⟨_, _, rfl, o1, fun _ => ⟨h, q, r, rfl⟩, fun _ _ _ => ?_⟩
     rw [(Z3x _ o1).2 (Z2N hx h q r).1]; rfl
    by_cases c : xX x + n < -1074
    ·rw [show toS (ZU x) (vX x) (xX x + n) = (0, false) by rw [T, if_pos (by omega)], if_neg (show ¬ (false = true) by decide)]
     exact ⟨0, false, rfl, W0, fun c => absurd c (by decide), fun _ c => absurd c q⟩
    have sm := Z5v (o := vX x) (E := xX x + n) v0 (by omega) (by omega)
    have tx : toX (vX x) (xX x + n) < 4503599627370496 := by unfold toX; rw [if_pos (by omega)]; exact sm
    rw [show toS (ZU x) (vX x) (xX x + n) = ((toX (vX x) (xX x + n) : Int) + sX (ZU x), true) by rw [T, if_neg (by omega)], if_pos rfl]
    show ∃ y b, ((ZB.f k ((toX (vX x) (xX x + n) : Int) + sX (ZU x))).bind _) = some (y, b) ∧ _
    generalize toX (vX x) (xX x + n) = o at *
    have wo : Nb.W64 ((o : Int) + sX (ZU x)) := by unfold Nb.W64 sX; split <;> omega
    have ne : ¬ nor ((o : Int) + sX (ZU x)) := by unfold nor Nb.ex sX; split <;> omega
    rw [Nb.Z3f (by omega) wo, Z0]
    refine ⟨_, _, rfl, wo, fun c => absurd ((Z3x _ wo).1 (by simpa using c)) ne, fun _ c => absurd c q⟩
   rw [show toS (ZU x) (vX x) (xX x + n) = (0, false) by rw [T, if_pos (by omega)], if_neg (show ¬ (false = true) by decide)]
   exact ⟨0, false, rfl, W0, fun c => absurd c (by decide), fun _ _ c => absurd c r⟩
  have c3 : (Nb.cls x != 3) = true := by
   rw [bne_iff_ne]; exact fun c => h ((Z3x x hx).1 c)
  rw [c3]
  exact ⟨0, false, no _ _ _, W0, fun c => absurd c (by decide), fun c => absurd c h⟩
 rw [Z4p f, if_neg (by decide)]
 refine ⟨0, false, no _ _ _, W0, fun c => absurd c (by decide), fun h => absurd (Z1b hx h).1 f⟩
theorem Z72 (s : Bool) {A : Nat} (h : A ≠ 0) : nbZ (sg s A) = ((mbA KK A : Nat) : Int) + sX s := by
 unfold nbZ
 rw [Z1z, Z6Y s h]
theorem Z8Y {c : Nat} (s : Bool) (h0 : 4503599627370496 ≤ c) (h1 : c < INn) : Nb.W64 ((c : Int) + sX s) ∧ nor ((c : Int) + sX s) ∧ Nb.ex ((c : Int) + sX s) = ((c / 4503599627370496 : Nat) : Int) := by
 unfold INn at h1
 unfold Nb.W64 nor Nb.ex sX
 split <;> omega
theorem Z6n (s : Bool) {A : Nat} (h : KK + 53 ≤ bl A) (hc : cdA KK A + 4503599627370496 < INn) :
  Nb.W64 (nbZ (sg s A)) ∧ nor (nbZ (sg s A)) ∧ Nb.ex (nbZ (sg s A)) + 1 ≤ 2046 ∧ nbZ (sg s (A * 2)) = nbZ (sg s A) + 4503599627370496 ∧ flA (A * 2) = flA A := by
 have z : A ≠ 0 := by rintro rfl; rw [Z0z] at h; omega
 obtain ⟨d1, d2⟩ := Z7Y K1 h
 obtain ⟨f1, f2, f3⟩ := ZaO Z6T h hc
 have m1 : mbA KK A = cdA KK A := by unfold mbA; omega
 have m2 : mbA KK (A * 2) = cdA KK A + 4503599627370496 := by unfold mbA; omega
 rw [Z72 s z, Z72 s (show A * 2 ≠ 0 by omega), m1, m2]
 obtain ⟨c1, c2, c3⟩ := Z8Y s d2 (show cdA KK A < INn by omega)
 refine ⟨c1, c2, by rw [c3]; unfold INn at hc; omega, by omega, ?_⟩
 unfold flA
 rw [m1, m2, if_neg (show ¬ cdA KK A = INn by omega), if_neg (show ¬ cdA KK A + 4503599627370496 = INn by omega), if_neg (fun c => f2 c.2 : ¬ (A ≠ 0 ∧ tyA KK A)), if_neg (fun c => f3 c.2 : ¬ (A * 2 ≠ 0 ∧ tyA KK (A * 2)))]
 by_cases u : lsA KK A
 ·rw [if_pos (f1.2 u), if_pos u]
 rw [if_neg (fun c => u (f1.1 c)), if_neg u]
theorem Z73 {x : Int} (hx : Nb.W64 x) (h : nor x) : 2 ^ (52 + KK) ≤ aX x ∧ aX x < 2 ^ (KK + 2098) := by
 obtain ⟨f, z, l, u⟩ := Z1b hx h
 unfold aX
 generalize (x % 9223372036854775808).toNat = c at *
 constructor
 ·have := Z8a (K := KK) l
  have e := Z76 KK (t := 0) (m := 4503599627370496) (by decide) (.inl (by decide))
  rw [Nat.zero_mul, Nat.zero_add, Nat.add_zero] at e
  rw [e] at this
  rw [Nat.pow_add, P52]; exact this
 obtain ⟨p, q, s⟩ := Z5N c
 unfold amc
 refine Nat.lt_of_lt_of_le (Nat.mul_lt_mul_of_pos_right q (Zq _)) ?_
 rw [← P53, ← Nat.pow_add]
 exact Nat.pow_le_pow_right (by decide) (by omega)
theorem Zb8 : 60 ≤ KK := by have := Z1H; unfold lowE at this; omega
theorem Z3g (c k b : Nat) : pw c k (2 ^ b) = c * 2 ^ (b * k) := by unfold pw; rw [Nat.pow_mul]
theorem Zb9 {v n a m : Nat} (h : v < 2 ^ n) (g : n + a ≤ m) : v * 2 ^ a ≤ 2 ^ m := by
 refine Nat.le_trans (Nat.mul_le_mul_right _ (Nat.le_of_lt h)) ?_
 rw [← Nat.pow_add]
 exact Nat.pow_le_pow_right (by decide) g
theorem Zba {v n a m : Nat} (h : 2 ^ n ≤ v) (g : m < n + a) : 2 ^ m < v * 2 ^ a := by
 refine Nat.lt_of_lt_of_le ?_ (Nat.mul_le_mul_right _ h)
 rw [← Nat.pow_add]
 exact Nat.pow_lt_pow_right (by decide) g
theorem ZaR {v n a m : Nat} (h : 2 ^ n ≤ v) (g : m ≤ n + a) : 1 * 2 ^ m ≤ v * 2 ^ a := by
 refine Nat.le_trans ?_ (Nat.mul_le_mul_right _ h)
 rw [Nat.one_mul, ← Nat.pow_add]
 exact Nat.pow_le_pow_right (by decide) g
theorem ZaS {v n a m : Nat} (h : v < 2 ^ n) (g : n + a ≤ m) : v * 2 ^ a < 1 * 2 ^ m := by
 refine Nat.lt_of_lt_of_le (Nat.mul_lt_mul_of_pos_right h (Zq a)) ?_
 rw [Nat.one_mul, ← Nat.pow_add]
 exact Nat.pow_le_pow_right (by decide) g
theorem Zbb {m c : Nat} (hm : m = min INn c) (n1 : nor (m : Int)) (n2 : Nb.ex (m : Int) + 1 ≤ 2046) : c + 4503599627370496 < INn := by
 unfold nor at n1
 unfold Nb.ex at n1 n2
 unfold INn at *
 omega
theorem g3 : (KK + 53) * 3 ≤ 52 + KK + CC 3 ∧ KK + 2098 + CC 3 ≤ (KK + 1415) * 3 := by
 have c := Z71 3 (by decide)
 have k := Z1H
 have u : uL = lowE + 1 := rfl
 generalize CC 3 = C at *
 generalize KK = K at *
 generalize uL = U at *
 generalize lowE = L at *
 omega
theorem gR {b m : Nat} {e : Int} (h0 : 1 ≤ b) (h1 : e + (b : Int) ≤ 1024) (h2 : -1021 ≤ e + (b : Int)) (hm : m = (-(e + 2) - 2 * uL).toNat) : b + (KK + 53) * 2 ≤ m ∧ m < b - 1 + (KK + 1600) * 2 := by
 have k := Z1H
 have u : uL = lowE + 1 := rfl
 have s : lowE ≤ -100000 := by unfold lowE; omega
 generalize KK = K at *
 generalize uL = U at *
 generalize lowE = L at *
 omega
theorem ZaT {n m : Nat} (h : n + 2 ≤ m) : n ≤ m := by omega
theorem Zbc {n m : Nat} (h : n + 51 + 2 ≤ m) : n + 53 ≤ m := by omega
theorem Zbi {n m : Nat} (h : m ≤ n + 1415 + 1) : m ≤ 53 + n + 1363 := by omega
theorem Zbj {n m : Nat} (h : m ≤ n + 1600 + 1) : m ≤ 53 + n + 1548 := by omega
theorem Z5C {c k W b : Nat} (hc : 0 < c) (hk : 0 < k) (h : pw c k (2 ^ b) ≤ W) : b + 2 ≤ bl (stA c k W) := by
 obtain ⟨r, hr⟩ := Z1A c k W hc hk
 have := Z45 hc hk hr h
 rw [Z44 hc hk hr]
 have q : ¬ bl (2 * r + if pw c k r = W then 0 else 1) ≤ b + 1 := by
  rw [ZO, Nat.pow_succ]; omega
 omega
theorem Z85 {c k W b : Nat} (hc : 0 < c) (hk : 0 < k) (h : W < pw c k (2 ^ b)) : bl (stA c k W) ≤ b + 1 := by
 obtain ⟨r, hr⟩ := Z1A c k W hc hk
 have := Z6X hr.1 h
 rw [Z44 hc hk hr, ZO, Nat.pow_succ]
 split <;> omega
theorem Z6o {A n : Nat} (h : bl A ≤ 53 + KK + n) (hn : n ≤ 2000) : cdA KK A + 4503599627370496 < INn := by
 have := ZaP K1 h
 unfold INn; omega
theorem ZaU {A n : Nat} (h : n + 56 ≤ bl A) : 2 ^ (n + 54) ≤ A * 2 := by
 have z : A ≠ 0 := by rintro rfl; rw [Z0z] at h; omega
 exact Nat.le_trans (Nat.pow_le_pow_right (by decide) (show n + 54 ≤ bl A by omega)) (Nat.le_trans (Z1R z) (by omega))
theorem Z4r (s : Bool) {c k W : Nat} (hc : 0 < c) (hk : 0 < k) (h : KK + 53 ≤ bl (stA c k W)) (ht : cdA KK (stA c k W) + 4503599627370496 < INn) : stR s c k (W * 2 ^ k) = ((stR s c k W).1 + 4503599627370496, (stR s c k W).2) := by
 have E := Zaa (c := c) (k := k) (W := W) (j := 1) hc hk
 rw [Nat.pow_one, Nat.mul_one] at E
 have k2 := Zb8
 obtain ⟨a, b⟩ := Z7Z s E (ZaU (by omega))
 obtain ⟨n1, n2, n3, n4, n5⟩ := Z6n s h ht
 unfold stR
 rw [← a, ← b, n4, n5]
theorem Z5D (s : Bool) {c k W : Nat} (h : KK + 53 ≤ bl (stA c k W)) (ht : cdA KK (stA c k W) + 4503599627370496 < INn) : Nb.W64 (stR s c k W).1 ∧ nor (stR s c k W).1 ∧ Nb.ex (stR s c k W).1 + 1 ≤ 2046 := by
 obtain ⟨n1, n2, n3, n4, n5⟩ := Z6n s h ht
 exact ⟨n1, n2, n3⟩
theorem Z8Z {x : Int} (k : Nat) (hx : Nb.W64 x) (h : nor x) (q : Nb.ex x + 3 ≤ 2046) (hk : 2000000000000000000000 ≤ k) :
  ∃ a f, Z0G.f k x = some (a, f, 0) ∧ Z0G.f k (x + 3 * 4503599627370496) = some (a + 4503599627370496, f, 0) ∧ Nb.W64 a ∧ nor a ∧ Nb.ex a + 1 ≤ 2046 := by
 have nx := h
 unfold nor at nx
 obtain ⟨o1, o2, o3, o4, o5⟩ := Z1n (n := 3) hx h (by omega) q
 obtain ⟨p1, p2, p3⟩ := Z2N (n := 3) hx h (by omega) q
 have ao := Z5B (n := 3) hx h q
 obtain ⟨fx, zx, _, _⟩ := Z1b hx h
 obtain ⟨fz, zz, _, _⟩ := Z1b o1 p1
 obtain ⟨g1, g2⟩ := g3
 have lo : KK + 53 ≤ bl (stA 1 3 (aX x * 2 ^ CC 3)) := by
  have := Z5C (c := 1) (k := 3) (W := aX x * 2 ^ CC 3) (b := KK + 53) (by decide) (by decide) (by rw [Z3g]; exact ZaR (Z73 hx h).1 g1)
  exact ZaT this
 have hi : bl (stA 1 3 (aX x * 2 ^ CC 3)) ≤ 53 + KK + 1363 := by
  have := Z85 (c := 1) (k := 3) (W := aX x * 2 ^ CC 3) (b := KK + 1415) (by decide) (by decide) (by rw [Z3g]; exact ZaS (Z73 hx h).2 g2)
  exact Zbi this
 have ht := Z6o hi (by decide)
 have C1 := Z83 k hx fx zx hk
 have C2 := Z83 k o1 fz zz hk
 obtain ⟨n1, n2, n3⟩ := Z5D (ZU x) lo ht
 rw [o4, show aX (x + 3 * 4503599627370496) = aX x * 2 ^ 3 from ao, Nat.mul_right_comm, Z4r _ (by decide) (by decide) lo ht] at C2
 generalize stR (ZU x) 1 3 (aX x * 2 ^ CC 3) = S at *
 exact ⟨S.1, S.2, C1, C2, n1, n2, n3⟩
theorem Z90 {x : Int} (k : Nat) (hx : Nb.W64 x) (h : nor x) (q : Nb.ex x + 2 ≤ 2046) (s : x < 9223372036854775808) (hk : 100000000000000000000000000000 ≤ k) :
  ∃ a f, ZL.f (k + 1) x = some (a, f, 0) ∧ ZL.f (k + 1) (x + 2 * 4503599627370496) = some (a + -1 * 4503599627370496, f, 0) ∧ Nb.W64 a ∧ nor a ∧ 1 ≤ Nb.ex a + -1 := by
 have nx := h
 unfold nor at nx
 obtain ⟨o1, o2, o3, o4, o5⟩ := Z1n (n := 2) hx h (by omega) q
 obtain ⟨p1, p2, p3⟩ := Z2N (n := 2) hx h (by omega) q
 obtain ⟨fx, zx, _, _⟩ := Z1b hx h
 obtain ⟨fz, zz, _, _⟩ := Z1b o1 p1
 obtain ⟨v0, vb, e0, e1, w⟩ := Z46 hx fx zx
 obtain ⟨t1, t2, t3, t4⟩ := Z6m hx h
 have sx : ZU x = false := decide_eq_false (by omega)
 have kk := Z1H
 have vp := Nat.pos_of_ne_zero v0
 have ul : uL = lowE + 1 := rfl
 have small : lowE ≤ -100000 := by unfold lowE; omega
 have R1 := Z6l k hx fx zx sx hk
 have R2 := Z6l k o1 fz zz (o4.trans sx) hk
 have e4 : RW x = RW (x + 2 * 4503599627370496) * 2 ^ 2 := by
  unfold RW
  rw [p3, ← Nat.pow_add]
  congr 1
  omega
 obtain ⟨g1, g2⟩ := gR (b := bl (vX x)) (e := xX x) (Nat.pos_of_ne_zero (Z1G v0)) (by omega) (by omega) rfl
 have RWz : RW (x + 2 * 4503599627370496) = 2 ^ (-(xX x + 2) - 2 * uL).toNat := by unfold RW; rw [p3]
 have lo : KK + 53 ≤ bl (stA (vX x) 2 (RW (x + 2 * 4503599627370496))) := by
  have := Z5C (c := vX x) (k := 2) (W := RW (x + 2 * 4503599627370496)) (b := KK + 53) vp (by decide) (by rw [Z3g, RWz]; exact Zb9 (Z1M v0).2.1 g1)
  exact ZaT this
 have hi : bl (stA (vX x) 2 (RW (x + 2 * 4503599627370496))) ≤ 53 + KK + 1548 := by
  have := Z85 (c := vX x) (k := 2) (W := RW (x + 2 * 4503599627370496)) (b := KK + 1600) vp (by decide) (by rw [Z3g, RWz]; exact Zba (Z1M v0).1 g2)
  exact Zbj this
 have ht := Z6o hi (by decide)
 obtain ⟨n1, n2, n3⟩ := Z5D false lo ht
 rw [e4, Z4r _ vp (by decide) lo ht] at R1
 rw [p2] at R2
 generalize stR false (vX x) 2 (RW (x + 2 * 4503599627370496)) = S at *
 clear lo hi ht g1 g2 e4 RWz kk ul small t1 t2 t3 t4 v0 vb e0 e1 w vp p3
 have m2 := n2
 unfold nor at m2
 obtain ⟨q1, q2, q3, q4, q5⟩ := Z1n (n := 1) n1 n2 (by omega) n3
 rw [Int.one_mul] at q1 q2
 refine ⟨S.1 + 4503599627370496, S.2, R1, ?_, q1, by unfold nor; omega, by omega⟩
 rw [R2]
 exact congrArg some (Prod.ext (by show S.1 = S.1 + 4503599627370496 + -1 * 4503599627370496; omega) rfl)
theorem Z86 {x : Int} (hx : Nb.W64 x) (f : Nb.Z04 x) : (sqV x).natAbs * 2 ^ CC 2 * 4 = aX x * aX x ∧ 0 ≤ sqV x := by
 by_cases z : x % 9223372036854775808 = 0
 ·have m0 : Nb.ZH x = 0 := (Z3d hx).2 z
  have e : sqV x = 0 := by
   unfold sqV Z2o ZP
   rw [if_pos f, m0]
   show Vz (sg (cf (ZU x) 0 (Nb.Z0i x)).1 (val (cf (ZU x) 0 (Nb.Z0i x)).2.1) * _) _ = 0
   rw [Z0J]
   show Vz (sg false (val []) * sg false (val [])) (0 + 0) = 0
   rw [Z1l, Z1X, Int.mul_zero]; exact Z2e _
  have a : aX x = 0 := by unfold aX; rw [z]; exact Z89 _
  rw [e, a]; exact ⟨by simp, Int.le_refl _⟩
 obtain ⟨v0, vb, e0, e1, w⟩ := Z46 hx f z
 have am := Z9k hx f
 have e : sqV x = (((vX x * vX x) * 2 ^ (xX x + xX x - lowE).toNat : Nat) : Int) := by
  unfold sqV Z2o
  rw [Z47 hx f z]
  show Vz (sg (ZU x) (val (ofN (vX x))) * sg (ZU x) (val (ofN (vX x)))) (xX x + xX x) = _
  rw [Z1, Z4Q]
  unfold Vz
  rw [Int.natCast_mul (vX x * vX x), Z2J]
 have c := Z71 2 (by decide)
 unfold uL at c
 have small : lowE ≤ -100000 := by unfold lowE; omega
 rw [e, Int.natAbs_natCast, ← am]
 refine ⟨?_, Int.natCast_nonneg _⟩
 unfold Nf.am
 have p4 : (4 : Nat) = 2 ^ 2 := by decide
 rw [p4, Nat.mul_assoc, Nat.mul_assoc, ← Nat.pow_add, ← Nat.pow_add, Nat.mul_mul_mul_comm, ← Nat.pow_add]
 congr 2
 omega
theorem Z9l {x y : Int} (hx : Nb.W64 x) (hy : Nb.W64 y) (fx : Nb.Z04 x) (fy : Nb.Z04 y) : HW x y * 4 = aX x * aX x + aX y * aX y ∧ (sqV x + sqV y = 0 ↔ aX x = 0 ∧ aX y = 0) := by
 obtain ⟨a, a0⟩ := Z86 hx fx
 obtain ⟨b, b0⟩ := Z86 hy fy
 have p := Zq (CC 2)
 refine ⟨?_, ?_⟩
 ·unfold HW
  rw [show (sqV x + sqV y).natAbs = (sqV x).natAbs + (sqV y).natAbs by omega, Nat.add_mul, Nat.add_mul, a, b]
 have sq : ∀ (Z : Int) (n : Nat), Z.natAbs * 2 ^ CC 2 * 4 = n * n → (Z = 0 ↔ n = 0) := fun Z n h => by
  constructor
  ·rintro rfl
   have : n * n = 0 := by rw [← h]; simp
   exact (Nat.mul_eq_zero.1 this).elim id id
  rintro rfl
  have : Z.natAbs * 2 ^ CC 2 = 0 := by omega
  rcases Nat.mul_eq_zero.1 this with h | h <;> omega
 have s1 := sq _ _ a
 have s2 := sq _ _ b
 rw [← s1, ← s2]
 omega
theorem Z91 {x y : Int} (k : Nat) (hx : Nb.W64 x) (hy : Nb.W64 y) (h : nor x) (g : nor y) (q : Nb.ex x + 1 ≤ 2046) (r : Nb.ex y + 1 ≤ 2046) (hk : 2000000000000000000000 ≤ k) :
  ∃ a f, ZE.f (k + 1) x y = some (a, f, 0) ∧ (nor a → Nb.ex a + 1 ≤ 2046 → ZE.f (k + 1) (x + 1 * 4503599627370496) (y + 1 * 4503599627370496) = some (a + 1 * 4503599627370496, f, 0)) := by
 have nx := h
 have ny := g
 unfold nor at nx ny
 obtain ⟨o1, o2, o3, o4, o5⟩ := Z1n (n := 1) hx h (by omega) q
 obtain ⟨p1, p2, p3⟩ := Z2N (n := 1) hx h (by omega) q
 obtain ⟨o1', o2', o3', o4', o5'⟩ := Z1n (n := 1) hy g (by omega) r
 obtain ⟨p1', p2', p3'⟩ := Z2N (n := 1) hy g (by omega) r
 have ax := Z5B (n := 1) hx h q
 have ay := Z5B (n := 1) hy g r
 obtain ⟨fx, zx, _, _⟩ := Z1b hx h
 obtain ⟨fz, zz, _, _⟩ := Z1b o1 p1
 obtain ⟨fy, zy, _, _⟩ := Z1b hy g
 obtain ⟨fw, zw, _, _⟩ := Z1b o1' p1'
 obtain ⟨b1, b2⟩ := Z73 hx h
 have a0 : aX x ≠ 0 := by have := Zq (52 + KK); omega
 obtain ⟨H1, H2⟩ := Z9l hx hy fx fy
 obtain ⟨H3, H4⟩ := Z9l o1 o1' fz fw
 have ax' : aX (x + 1 * 4503599627370496) = aX x * 2 := ax
 have ay' : aX (y + 1 * 4503599627370496) = aX y * 2 := ay
 have W4 : HW (x + 1 * 4503599627370496) (y + 1 * 4503599627370496) = HW x y * 2 ^ 2 := by
  rw [ax', ay'] at H3
  have e : ∀ n : Nat, n * 2 * (n * 2) = n * n * 4 := fun n => by rw [Nat.mul_mul_mul_comm]
  rw [e, e] at H3
  show _ = HW x y * 4
  omega
 have E1 := Z4q k hx hy fx fy hk
 rw [if_neg (fun c => a0 (H2.1 c).1)] at E1
 have E2 := Z4q k o1 o1' fz fw hk
 rw [if_neg (fun c => a0 (by have := (H4.1 c).1; omega)), W4] at E2
 have lo : KK + 53 ≤ bl (stA 1 2 (HW x y)) := by
  have := Z5C (c := 1) (k := 2) (W := HW x y) (b := KK + 51) (by decide) (by decide) (by
   rw [Z3g, Nat.one_mul]
   have sq := Nat.mul_le_mul b1 b1
   rw [← Nat.pow_add] at sq
   have : 2 ^ (52 + KK + (52 + KK)) = 2 ^ ((KK + 51) * 2) * 4 := by
    rw [show (4 : Nat) = 2 ^ 2 by decide, ← Nat.pow_add]; congr 1
   omega)
  exact Zbc this
 refine ⟨_, _, E1, fun n1 n2 => ?_⟩
 have z : stA 1 2 (HW x y) ≠ 0 := by intro c; rw [c, Z0z] at lo; omega
 have v : (stR false 1 2 (HW x y)).1 = ((mbA KK (stA 1 2 (HW x y)) : Nat) : Int) := by
  have := Z72 false z
  rw [show sX false = 0 from rfl, Int.add_zero] at this
  exact this
 rw [v] at n1 n2
 have ht := Zbb (c := cdA KK (stA 1 2 (HW x y))) rfl n1 n2
 rw [Z4r false (by decide) (by decide) lo ht] at E2
 rw [E2, Int.one_mul]
theorem Z4K {x y : Int} (k : Nat) (hx : Nb.W64 x) (hy : Nb.W64 y) (hk : 2000000000000000000000 ≤ k) : ∃ a f e, ZE.f (k + 1) x y = some (a, f, e) ∧ Nb.W64 a := by
 by_cases h : Nb.Z04 x ∧ Nb.Z04 y
 ·rw [Z4q k hx hy h.1 h.2 hk]
  split
  ·exact ⟨0, 0, 0, rfl, by decide, by decide⟩
  exact ⟨_, _, _, rfl, Zbf _⟩
 exact ⟨0, 0, 5, Z8U k hx hy h (by omega), by decide, by decide⟩
end Go.Proofs.YtjnfipkbgmdpaaaGreatDoor.Nf

namespace Go.Proofs.YtjnfipkbgmdpaaaGreatDoor.Pure
open Go.RowKit Go.Proofs.YtjnfipkbgmdpaaaGreatDoor.PAll Go.Proofs.YtjnfipkbgmdpaaaGreatDoorW.PrintWords Go.Proofs.YtjnfipkbgmdpaaaGreatDoorW.PrintLast Go.Proofs.YtjnfipkbgmdpaaaGreatDoorW.PrintMore
set_option linter.unusedVariables false
set_option linter.unusedSimpArgs false
open Go.Proofs.YtjnfipkbgmdpaaaGreatDoor.Nm Go.Proofs.YtjnfipkbgmdpaaaGreatDoor.Nf
theorem Zad {x y : Int} (k : Nat) (hx : Nb.W64 x) (hy : Nb.W64 y) (hk : 100000000000000000000000000000 ≤ k) : Z4.j2 (k + 2) x y = some true := by
 obtain ⟨u, bu, hu, wu, u1, u2⟩ := Z1N (n := 1) k hx (by decide) (by decide) (by omega)
 obtain ⟨v, bv, hv, wv, v1, v2⟩ := Z1N (n := 1) k hy (by decide) (by decide) (by omega)
 obtain ⟨a, f, e, hh, wa⟩ := Z4K k hx hy (by omega)
 obtain ⟨b, g, e', hg, wb⟩ := Z4K k wu wv (by omega)
 obtain ⟨c, bc, hc, wc, c1, c2⟩ := Z1N (n := 1) k wa (by decide) (by decide) (by omega)
 rw [Z4.j2, hu, Z0, hv, Z0, hh, Z0]
 show (ZE.f (k + 1) u v).bind _ = _
 rw [hg, Z0]
 show (Z8.f (k + 1) a 1).bind _ = _
 rw [hc, Z0]
 show (if bu = true then (if bv = true then (if e = 0 then (if bc = true then (if e' = 0 then some (b == c && (g == f)) else some false) else some true) else some true) else some true) else some true) = some true
 by_cases tu : bu = true
 ·rw [if_pos tu]
  by_cases tv : bv = true
  ·rw [if_pos tv]
   by_cases te : e = 0
   ·rw [if_pos te]
    by_cases tc : bc = true
    ·rw [if_pos tc]
     obtain ⟨n1, n2, n3, n4⟩ := u1 tu
     obtain ⟨m1, m2, m3, m4⟩ := v1 tv
     obtain ⟨l1, l2, l3, l4⟩ := c1 tc
     obtain ⟨a', f', H1, H2⟩ := Z91 k hx hy n1 m1 n3 m3 (by omega)
     rw [H1] at hh
     obtain ⟨rfl, rfl, _⟩ : a' = a ∧ f' = f ∧ 0 = e := by
      have := Option.some.inj hh
      exact ⟨congrArg Prod.fst this, congrArg (fun t => t.2.1) this, congrArg (fun t => t.2.2) this⟩
     have H3 := H2 l1 l3
     rw [← n4, ← m4, hg] at H3
     obtain ⟨rfl, rfl, rfl⟩ : b = a' + 1 * 4503599627370496 ∧ g = f' ∧ e' = 0 := by
      have := Option.some.inj H3
      exact ⟨congrArg Prod.fst this, congrArg (fun t => t.2.1) this, congrArg (fun t => t.2.2) this⟩
     rw [if_pos rfl, l4]
     simp
    rw [if_neg tc]
   rw [if_neg te]
  rw [if_neg tv]
 rw [if_neg tu]
theorem Zae {x y : Int} (k : Nat) (hx : Nb.W64 x) (hy : Nb.W64 y) (hk : 100000000000000000000000000000 ≤ k) : Z4.j0 (k + 4) x y = some true := by
 have J2 := Zad k hx hy hk
 obtain ⟨z, bz, hz, wz, z1, z2⟩ := Z1N (n := 2) (k + 2) hx (by decide) (by decide) (by omega)
 have jf : Z4.j1 (k + 3) x y z false = some true := by
  rw [Z4.j1, if_neg (by decide)]; exact J2
 rw [Z4.j0, hz, Z0]
 show (if bz = true then Z4.j1 (k + 3) x y z (decide (x < 9223372036854775808)) else Z4.j1 (k + 3) x y z false) = some true
 by_cases tz : bz = true
 ·rw [if_pos tz]
  by_cases s : x < 9223372036854775808
  ·obtain ⟨n1, n2, n3, n4⟩ := z1 tz
   obtain ⟨a, f, H1, H2, wa, na, ea⟩ := Z90 (k + 1) hx n1 n3 s (by omega)
   obtain ⟨c, bc, hc, wc, c1, c2⟩ := Z1N (n := -1) (k + 1) wa (by decide) (by decide) (by omega)
   have tc := c2 na ea (by unfold nor at na; omega)
   obtain ⟨l1, l2, l3, l4⟩ := c1 tc
   rw [decide_eq_true s, Z4.j1, if_pos rfl, H1, Z0, n4, H2, Z0]
   show (Z8.f (k + 2) a (-1)).bind _ = _
   rw [hc, Z0, if_pos rfl, if_pos rfl]
   show (if bc = true then (if (!(a + -1 * 4503599627370496 == c) || (!(f == f))) = true then some false else Z4.j2 (k + 2) x y) else some false) = some true
   rw [if_pos tc, l4, if_neg (by simp)]
   exact J2
  rw [decide_eq_false s]; exact jf
 rw [if_neg tz]; exact jf
theorem AlgScaled (x y : Int) (h1 : (Lit.int .u64 x).wf = true) (h2 : (Lit.int .u64 y).wf = true) : ∃ k, Z4.f k x y = some true := by
 have hx := Nb.Z77 h1
 have hy := Nb.Z77 h2
 obtain ⟨k, hk⟩ : ∃ k, k = 100000000000000000000000000000 := ⟨_, rfl⟩
 have hk0 : 100000000000000000000000000000 ≤ k := by omega
 clear hk
 refine ⟨k + 4, ?_⟩
 have J0 := Zae k hx hy hk0
 obtain ⟨z, bz, hz, wz, z1, z2⟩ := Z1N (n := 3) (k + 3) hx (by decide) (by decide) (by omega)
 unfold Z4.f
 rw [Z8X (k + 3) (by omega), Z0, if_pos rfl, hz, Z0]
 show (if bz = true then _ else Z4.j0 (k + 4) x y) = some true
 by_cases tz : bz = true
 ·obtain ⟨n1, n2, n3, n4⟩ := z1 tz
  obtain ⟨a, f, H1, H2, wa, na, ea⟩ := Z8Z (k + 4) hx n1 n3 (by omega)
  obtain ⟨c, bc, hc, wc, c1, c2⟩ := Z1N (n := 1) (k + 3) wa (by decide) (by decide) (by omega)
  have tc := c2 na (by unfold nor at na; omega) ea
  obtain ⟨l1, l2, l3, l4⟩ := c1 tc
  rw [if_pos tz, H1, Z0, n4, H2, Z0]
  show (Z8.f (k + 4) a 1).bind _ = _
  rw [hc, Z0, if_pos rfl, if_pos rfl]
  show (if bc = true then (if (!(a + 4503599627370496 == c) || (!(f == f))) = true then some false else Z4.j0 (k + 4) x y) else some false) = some true
  rw [if_pos tc, l4, if_neg (by simp)]
  exact J0
 rw [if_neg tz]; exact J0
end Go.Proofs.YtjnfipkbgmdpaaaGreatDoor.Pure
