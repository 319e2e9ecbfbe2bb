/- Plain part. -/
import Derived.Test.YtjnfipkbgmdpaaaGreatDoorXAlgRisesN2
namespace Go.Proofs.YtjnfipkbgmdpaaaGreatDoor.Nf
open RowKit YtjnfipkbgmdpaaaGreatDoor.PAll YtjnfipkbgmdpaaaGreatDoorW.PrintWords YtjnfipkbgmdpaaaGreatDoorW.PrintLast YtjnfipkbgmdpaaaGreatDoorW.PrintMore YtjnfipkbgmdpaaaGreatDoor.Nm
set_option linter.unusedVariables false
set_option linter.unusedSimpArgs false
open Classical in
noncomputable def flA (A : Nat) : Int := if lsA KK A then (if mbA KK A = INn then 20 else if A ≠ 0 ∧ tyA KK A then 24 else 16) else 0
def nbZ (Z : Int) : Int := ((mbA KK Z.natAbs : Nat) : Int) + sX (decide (Z < 0))
theorem Z8Y (K A : Nat) : mbA K A ≤ INn := Nat.min_le_left _ _
theorem ZaN (s : Bool) (l : List Int) (e : Int) : vl s l e = sg s (am (val l) e) := by unfold vl; rw [Z5Y]
theorem ZfH (s : Bool) (l : List Int) (e : Int) : decide (vl s l e < 0) = (s && decide (val l ≠ 0)) := by
 rw [ZaN]
 by_cases z : val l = 0
 ·rw [z, Z4m, Z2N]; cases s <;> rfl
 rw [Z5k s (Z43 z e), decide_eq_true z, Bool.and_true]
theorem ZbX (s : Bool) (l : List Int) (e : Int) : nbZ (vl s l e) = ((mbA KK (am (val l) e) : Nat) : Int) + sX (s && decide (val l ≠ 0)) := by
 unfold nbZ; rw [ZfH, Z5K]
theorem Zdl {m : Nat} (h : m ≤ INn) : Nb.ng (m : Int) = (m : Int) + 9223372036854775808 := by
 unfold Nb.ng; exact if_pos (by unfold INn at h; omega)
theorem ZeL (k : Nat) (s : Bool) (l : List Int) (e e' : Int) (v m : Nat) (fl : Int) (hm : m ≤ INn) : Z12.j0 (k + 1) s l e (ofN v) e' (m : Int) fl = some ((m : Int) + sX (s && decide (v ≠ 0)), fl) := by
 show (if s = true then _ else _) = _
 cases s with
 | false => rw [if_neg Zd, Bool.false_and]; show _ = some ((m : Int) + 0, fl); rw [Zka]
 | true =>
  rw [if_pos rfl, Z7r, Z4, Bool.true_and]
  by_cases z : v = 0
  ·rw [if_pos (decide_eq_true z), decide_eq_false (not_not_intro z)]; show _ = some ((m : Int) + 0, fl); rw [Zka]
  rw [if_neg (by rw [decide_eq_true_iff]; exact z), Nb.Zfq ⟨by omega, by unfold INn at hm; omega⟩, Z4, Zdl hm, decide_eq_true z]; rfl
theorem Zgn (s : Bool) (l : List Int) (e : Int) (k : Nat) (w : Wl l) (h : Z2p (val l) e = true) (hk : 100000000000000000 ≤ k) : Z3s.f k s l e = some (ofN (val l), e) := by
 have f := Z2I.1 h
 have wl := w.2
 unfold Z3s.f
 rw [Zep l k w.1 w.2 Zo, if_pos f.1, Z4]
theorem ZbY {e : Int} (h : -300000 ≤ e) : lowE ≤ e := by unfold lowE; omega
theorem ZbZ {v : Nat} {e : Int} (h : lowE ≤ e) : mbI v e = 9218868437227405312 ↔ mbA KK (am v e) = INn := by
 rw [Z85 v h]; show _ = ((INn : Nat) : Int) ↔ _; omega
theorem ZeM (s : Bool) (l : List Int) (e : Int) (k : Nat) (w : Wl l) (h : Z2p (val l) e = true) (hk : 100000000000000000 ≤ k) : Z12.f k s l e = some (nbZ (vl s l e), flA (vl s l e).natAbs) := by
 have f := Z2I.1 h
 obtain ⟨k, rfl⟩ : ∃ j, k = j + 1 := ⟨k - 1, by omega⟩
 unfold Z12.f
 rw [Zgn s l e (k + 1) w h hk, Z4]
 show (ZS.f (k + 1) (ofN (val l)) e).bind _ = _
 have le := ZbY (e := e) Zo
 rw [ZaK (val l) e (k + 1) f.1 Zo Zo Zo, Z4]
 show (if lsI (val l) e = true then (if mbI (val l) e = 9218868437227405312 then Z12.j0 (k + 1) s l e (ofN (val l)) e (mbI (val l) e) 20 else _) else Z12.j0 (k + 1) s l e (ofN (val l)) e (mbI (val l) e) 0) = _
 rw [ZeI (val l) e (k + 1) f.1 Zo Zo Zo, Z4, ZbX, Z5K]
 have ls := ZdH (val l) le
 have ty := ZdI (val l) le
 have mi := ZbZ (v := val l) le
 have mb := Z85 (val l) le
 have am0 : val l ≠ 0 ↔ am (val l) e ≠ 0 := ⟨fun z => Z43 z e, fun z c => z (by rw [c, Z4m])⟩
 have J := fun fl => ZeL k s l e e (val l) (mbA KK (am (val l) e)) fl (Z8Y _ _)
 unfold flA
 by_cases c1 : lsA KK (am (val l) e)
 ·rw [if_pos (ls.2 c1), if_pos c1]
  by_cases c2 : mbA KK (am (val l) e) = INn
  ·rw [if_pos (mi.2 c2), if_pos c2, mb, J]
  rw [if_neg (fun c => c2 (mi.1 c)), if_neg c2, mb]
  by_cases c3 : am (val l) e ≠ 0 ∧ tyA KK (am (val l) e)
  ·rw [if_pos (ty.2 ⟨am0.2 c3.1, c3.2⟩), if_pos c3, show Go.bits .or .u8 16 8 = 24 by decide, J]
  rw [if_neg (fun c => c3 ⟨am0.1 (ty.1 c).1, (ty.1 c).2⟩), if_neg c3, J]
 rw [if_neg (fun c => c1 (ls.1 c)), if_neg c1, mb, J]
noncomputable def Z6S (s : Bool) (l : List Int) (e : Int) : Int × Int × Int := if Z2p (val l) e = true then (nbZ (vl s l e), flA (vl s l e).natAbs, 0) else (0, 0, 2)
theorem Zdm (s : Bool) (l : List Int) (e : Int) (k : Nat) (w : Wl l) (hk : 100000000000000000 ≤ k) : Z30.f k s l e = some (if Z2p (val l) e = true then 0 else 2) := by
 unfold Z30.f
 rw [Z3R s l e k w.1 w.2 hk, Z4]
 by_cases h : Z2p (val l) e = true
 ·rw [h]; rfl
 rw [Bool.eq_false_iff.2 h]; rfl
theorem Z7s (s : Bool) (l : List Int) (e : Int) (k : Nat) (w : Wl l) (hk : 100000000000000000 ≤ k) : Z13.f k s l e = some (Z6S s l e) := by
 unfold Z13.f Z6S
 rw [Zdm s l e k w hk, Z4]
 by_cases h : Z2p (val l) e = true
 ·rw [if_pos h, if_pos rfl, ZeM s l e k w h hk, Z4, if_pos h]
 rw [if_neg h, if_neg Zd, if_neg h]
theorem Z5o (Z : Int) : Nb.W64 (nbZ Z) := by
 have := Z8Y KK Z.natAbs
 unfold INn at this
 unfold Nb.W64 nbZ sX
 split <;> omega
theorem ZdJ (v : Nat) {e : Int} (h : lowE ≤ e) : flA (am v e) = if lsI v e = true then (if mbI v e = Z3n then 20 else if Z34 v e = true then 24 else 16) else 0 := by
 have ls := ZdH v h
 have ty := ZdI v h
 have mi : mbI v e = Z3n ↔ mbA KK (am v e) = INn := ZbZ h
 have am0 : v ≠ 0 ↔ am v e ≠ 0 := ⟨fun z => Z43 z e, fun z c => z (by rw [c, Z4m])⟩
 unfold flA
 by_cases c1 : lsI v e = true
 ·rw [if_pos c1, if_pos (ls.1 c1)]
  by_cases c2 : mbI v e = Z3n
  ·rw [if_pos c2, if_pos (mi.1 c2)]
  rw [if_neg c2, if_neg (fun c => c2 (mi.2 c))]
  by_cases c3 : Z34 v e = true
  ·rw [if_pos c3, if_pos ⟨am0.1 (ty.1 c3).1, (ty.1 c3).2⟩]
  rw [if_neg c3, if_neg (fun c => c3 (ty.2 ⟨am0.2 c.1, c.2⟩))]
 rw [if_neg c1, if_neg (fun c => c1 (ls.2 c))]
theorem ZfI {v : Int} (h0 : 0 ≤ v) (h1 : v < 18446744073709551616) : Wl [v] := ⟨Z8S h0 h1, Z7p v⟩
theorem Z5p (v : Nat) (e : Int) (k : Nat) (hv : v < 18446744073709551616) (e0 : -32768 ≤ e) (e1 : e ≤ 32768) (hk : 100000000000000000 ≤ k) : Z13.f k false [(v : Int)] e = some (mbI v e, (if lsI v e = true then (if mbI v e = Z3n then 20 else if Z34 v e = true then 24 else 16) else 0), 0) := by
 have le := ZbY (e := e) Zo
 have val1 : val [(v : Int)] = v := by rw [Z7o, zk0]
 rw [Z7s false [(v : Int)] e k (ZfI Zo Zo) hk]
 unfold Z6S
 rw [val1, if_pos (Z2I.2 ⟨Z3S hv, e0, e1⟩), ZbX, Z5K, val1, ZdJ v le, Z85 v le, Bool.false_and]
 show some (((mbA KK (am v e) : Nat) : Int) + 0, _, _) = _
 rw [Zka]
theorem Z3F : bl 1 = 1 := Z27 (m := 0) Zd Zd
theorem Zgx : bl 3 = 2 := Z27 (m := 1) Zd Zd
theorem l1 (k : Nat) (hk : 100000000000000000 ≤ k) : Z13.f k false [1] (-1075) = some (0, 24, 0) := by
 have := Z5p 1 (-1075) k Zd Zd Zd hk
 refine this.trans ?_
 unfold lsI Z34 mbI Z3b Z1h Z1s
 rw [Z3F]
 decide
theorem l2 (k : Nat) (hk : 100000000000000000 ≤ k) : Z13.f k false [1] 1024 = some (9218868437227405312, 20, 0) := by
 have := Z5p 1 1024 k Zd Zd Zd hk
 refine this.trans ?_
 unfold lsI Z34 mbI Z3b Z1h Z1s
 rw [Z3F]
 decide
theorem l3 (k : Nat) (hk : 100000000000000000 ≤ k) : Z13.f k false [3] (-1) = some (4609434218613702656, 0, 0) := by
 have := Z5p 3 (-1) k Zd Zd Zd hk
 refine this.trans ?_
 unfold lsI Z34 mbI Z3b Z1h Z1s
 rw [Zgx]
 decide
theorem Z8Z (Z : Int) : (Z < 0 ∧ nbZ Z = ((mbA KK Z.natAbs : Nat) : Int) + 9223372036854775808) ∨ (0 ≤ Z ∧ nbZ Z = ((mbA KK Z.natAbs : Nat) : Int)) := by
 unfold nbZ sX
 by_cases h : Z < 0
 ·rw [if_pos (decide_eq_true h)]; exact .inl ⟨h, rfl⟩
 rw [if_neg (by rw [decide_eq_true_iff]; exact h), Zka]; exact .inr ⟨by omega, rfl⟩
theorem ZfJ (A : Nat) : ((mbA KK A : Nat) : Int) ≤ 9218868437227405312 := by
 have := Z8Y KK A
 unfold INn at this; omega
theorem ZdK (Z : Int) : Nb.pl (nbZ Z) = sg (decide (Z < 0)) (mbA KK Z.natAbs) := by
 have b := ZfJ Z.natAbs
 unfold Nb.pl sg
 rcases Z8Z Z with ⟨h, e⟩ | ⟨h, e⟩
 ·rw [e, if_neg Zo, if_pos (decide_eq_true h)]; omega
 rw [e, if_pos Zo, if_neg (by rw [decide_eq_true_iff]; omega)]
theorem Z9P {Z0 Z1 : Int} (f : Nat → Nat) (hf : ∀ {a b}, a ≤ b → f a ≤ f b) (h : Z0 ≤ Z1) : sg (decide (Z0 < 0)) (f Z0.natAbs) ≤ sg (decide (Z1 < 0)) (f Z1.natAbs) := by
 unfold sg
 by_cases a : Z0 < 0
 ·rw [if_pos (decide_eq_true a)]
  by_cases b : Z1 < 0
  ·rw [if_pos (decide_eq_true b)]
   have := hf (show Z1.natAbs ≤ Z0.natAbs by omega)
   omega
  rw [if_neg (by rw [decide_eq_true_iff]; exact b)]; omega
 rw [if_neg (by rw [decide_eq_true_iff]; exact a), if_neg (by rw [decide_eq_true_iff]; omega)]
 have := hf (show Z0.natAbs ≤ Z1.natAbs by omega)
 omega
theorem ZeN {Z0 Z1 : Int} (h : Z0 ≤ Z1) : Nb.pl (nbZ Z0) ≤ Nb.pl (nbZ Z1) := by
 rw [ZdK, ZdK]
 exact Z9P (mbA KK) (fun h => ZcE (by have := ZaL; omega) h) h
theorem Z9Q : nbZ 0 = 0 := by
 unfold nbZ
 rw [show (0 : Int).natAbs = 0 from rfl, ZcG]; decide
def vW (x : Int) : Int := sg (Z1b x) (amc KK (x % 9223372036854775808).toNat)
theorem Zc0 {x : Int} (hx : Nb.W64 x) : am (Nb.Z04 x).toNat (Nb.Z0x x) = amc KK (x % 9223372036854775808).toNat := by
 obtain ⟨a1, a2, a3, a4, a5, a6⟩ := Z4e hx
 have k := Z3E
 unfold Nb.Z04 Nb.Z0x am amc
 by_cases q : Nb.ex x = 0
 ·rw [if_pos q, if_pos q]
  have h1 : mC (x % 9223372036854775808).toNat = (Nb.fr x).toNat := by unfold mC; rw [if_pos Zo]; omega
  have h2 : tC (x % 9223372036854775808).toNat = 0 := by unfold tC; omega
  rw [h1, h2, show (-1074 - lowE).toNat = KK from rfl, zkB]
 rw [if_neg q, if_neg q]
 have h1 : mC (x % 9223372036854775808).toNat = (Nb.fr x + 4503599627370496).toNat := by unfold mC; rw [if_neg Zo]; omega
 have h2 : tC (x % 9223372036854775808).toNat = (Nb.ex x - 1).toNat := by unfold tC; omega
 rw [h1, h2, show (Nb.ex x - 1075 - lowE).toNat = KK + (Nb.ex x - 1).toNat by unfold lowE at *; omega]
theorem Z60 {x : Int} (hx : Nb.W64 x) (h : Nb.ZT x) : vl (Z0c x).1 (Z0c x).2.1 (Z0c x).2.2.1 = vW x := by
 rw [Z7q hx h, Zc0 hx]; rfl
theorem K1 : 1 ≤ KK := by have := ZaL; omega
theorem ZeO {x : Int} (hx : Nb.W64 x) (h : Nb.ZT x) : ¬ lsA KK (vW x).natAbs ∧ nbZ (vW x) = (if x % 9223372036854775808 = 0 then 0 else x) := by
 have c := Ze5 K1 (x % 9223372036854775808).toNat
 have hf : (x % 9223372036854775808).toNat < INn := by unfold Nb.ZT at h; unfold INn; omega
 have e : (vW x).natAbs = amc KK (x % 9223372036854775808).toNat := by unfold vW; rw [Z37]
 have l : ¬ lsA KK (vW x).natAbs := by
  rw [e]; unfold lsA; rw [c.1, c.2]
  rintro (d | d)
  ·omega
  exact d rfl
 refine ⟨l, ?_⟩
 have mb : mbA KK (vW x).natAbs = (x % 9223372036854775808).toNat := by rw [e]; unfold mbA; rw [c.1]; omega
 obtain ⟨x0, x1⟩ := hx
 by_cases z : x % 9223372036854775808 = 0
 ·rw [if_pos z]
  have : vW x = 0 := by unfold vW; rw [z, show (0 : Int).toNat = 0 from rfl, Z6k, Z2N]
  rw [this, Z9Q]
 rw [if_neg z]
 have am0 : amc KK (x % 9223372036854775808).toNat ≠ 0 := fun d => by
  have := c.1
  rw [d, Z5c] at this
  omega
 unfold nbZ
 rw [mb]
 unfold vW
 rw [Z5k _ am0]
 unfold Z1b sX
 by_cases g : 9223372036854775808 ≤ x
 ·rw [if_pos (decide_eq_true g)]; omega
 rw [if_neg (by rw [decide_eq_true_iff]; exact g)]; omega
theorem Zc1 {v n m : Nat} (h : bl v + n ≤ m) : bl (v * 2 ^ n) ≤ m := by
 rw [Z0D]; exact Z5n h
theorem Z4n {x : Int} (h : Nb.ZT x) : (Z0c x).2.2.2 = 0 := by unfold Z0c; rw [if_pos h]
theorem Z54 {x : Int} (h : ¬ Nb.ZT x) : Z0c x = (false, [], 0, 5) := by unfold Z0c; rw [if_neg h]
theorem Z7t {x : Int} (hx : Nb.W64 x) (h : Nb.ZT x) : Rs (Z0c x).2.1 (Z0c x).2.2.1 := by
 have f := Z7L hx h
 refine Z53 ?_ ?_ f
 ·unfold Z0c; rw [if_pos h]
  exact (ZaG (Z1b x) (Nb.Z0x x) (by have := Nb.Z3l hx; have := Z2s (v := (Nb.Z04 x).toNat) Zo; omega)).1
 unfold Z0c; rw [if_pos h]
 exact (ZaG (Z1b x) (Nb.Z0x x) (by have := Nb.Z3l hx; have := Z2s (v := (Nb.Z04 x).toNat) Zo; omega)).2
def hC (c : Nat) : Nat := 2 ^ (KK + tC c - 1)
theorem Z6T {V e : Int} {n : Nat} (h : bl V.natAbs ≤ n) (hn : n ≤ 5000) (h0 : -5000 ≤ e) (h1 : e ≤ 5000) : Z2p (val (cz V e).2.1) (cz V e).2.2 = true ∧ Wl (cz V e).2.1 := by
 have b : V.natAbs < big := Z0O.2 Zo
 have lb := Z0X b
 refine ⟨?_, ZaH e Zo⟩
 unfold cz
 by_cases z : V.natAbs = 0
 ·rw [z, Z1X]; exact Z2I.2 ⟨by rw [Z2Y]; exact Z0O.2 (by rw [Z2q]; omega), by show (-32768 : Int) ≤ 0; decide, by show (0 : Int) ≤ 32768; decide⟩
 have t := Z6M z
 rw [Z2K z]
 refine Z2I.2 ⟨?_, ?_, ?_⟩
 ·show val (ofN (od V.natAbs)) < big
  rw [Ze]; exact zkq (Z5T _) b
 ·show -32768 ≤ e + (tz V.natAbs : Int); omega
 show e + (tz V.natAbs : Int) ≤ 32768; omega
noncomputable def stS (s : Bool) (r : Nat) (e : Int) (more : Bool) : Int × Int := (nbZ (sg s (am (2 * r + if more = true then 1 else 0) (e - 1))), flA (am (2 * r + if more = true then 1 else 0) (e - 1)))
theorem ZeP {r : Nat} (h : bl r ≤ 60000) : (Z4u r 1).1 = ofN (2 * r) := by
 unfold Z4u
 rw [if_pos (Z0O.2 Zo), if_neg Zd]
 by_cases z : r = 0
 ·rw [if_pos z, z, Zk3, Z0e]
 rw [if_neg z, if_pos (by show bl r + 1 ≤ 65536; omega)]
 show ofN (r * 2) = _
 rw [zkl]
theorem ZfK {r n : Nat} (h : bl r ≤ n) : 2 * r + 1 < 2 ^ (n + 1) := by
 rw [Z0D] at h
 rw [zkk]; omega
theorem ZeQ {r n : Nat} (h : bl r ≤ n) : bl (2 * r + 1) ≤ n + 1 := Z0D.2 (ZfK h)
theorem Z9R (s : Bool) (n : Nat) (e : Int) (k : Nat) (h : n < big) (e0 : -30000 ≤ e) (e1 : e ≤ 30000) (hk : 100000000000000000 ≤ k) : Z13.f k s (ofN n) e = some (nbZ (sg s (am n e)), flA (am n e), 0) := by
 have len := Z0X h
 rw [Z7s s (ofN n) e k (Z4z Zo) hk]
 unfold Z6S
 have f : Z2p (val (ofN n)) e = true := by rw [Ze]; exact Z2I.2 ⟨h, by omega, by omega⟩
 rw [if_pos f, ZaN, Ze, Z37]
theorem Z44 (s : Bool) (r : Nat) (e : Int) (more : Bool) (k : Nat) (h : bl r ≤ 60000) (e0 : -20000 ≤ e) (e1 : e ≤ 20000) (hk : 100000000000000000 ≤ k) : Z0I.f k s (ofN r) e more = some (stS s r e more) := by
 have hb : 2 * r + 1 < big := Z0O.2 (zk2 (ZeQ h) Zd)
 have hr : r < big := Z0O.2 Zo
 have lr := Z0X hr
 have l2 := Z0X (show 2 * r < big by omega)
 have l1 : (ofN 1).length ≤ 1 := Z2s Zo
 have w : wrap64 (e - 1) = e - 1 := by unfold wrap64; omega
 unfold Z0I.f stS
 rw [Z5I (ofN r) 1 k (ZE r) Zo Zo, Ze, Z4, ZeP h, w]
 cases more with
 | false =>
  rw [if_neg Zd, Z9R s (2 * r) (e - 1) k Zo Zo Zo hk, Z4, if_neg Zd, zkB]
 | true =>
  rw [if_pos rfl]
  show (Z2W.f k ((1 : Nat) : Int)).bind _ = _
  rw [Z8K 1 k Zd Zo, Z4, Zft (ofN (2 * r)) (ofN 1) k (ZE _) (ZE _) Zo Zo Zo, Ze, Ze, if_pos ⟨by omega, Z3S Zd⟩, if_pos hb, Z4]
  show (Z13.f k s (ofN (2 * r + 1)) (e - 1)).bind _ = _
  rw [Z9R s (2 * r + 1) (e - 1) k hb Zo Zo hk, Z4, if_pos rfl]
def scI (e s0 kk : Int) : Int := s0 + (e - s0) % kk
def scS (v : Nat) (e s kk : Int) : List Int × Int × Bool := if 0 ≤ s then (ofN (v * 2 ^ s.toNat), (e - s) / kk, false) else (ofN (v / 2 ^ (-s).toNat), (e - s) / kk, decide (v % 2 ^ (-s).toNat ≠ 0))
theorem ZeR {a kk : Int} (hk : 0 < kk) (h : a % kk = 0) : Int.tdiv a kk = a / kk := by
 obtain ⟨c, rfl⟩ := Int.dvd_of_emod_eq_zero h
 rw [Int.mul_tdiv_cancel_left _ Zo, Int.mul_ediv_cancel_left _ Zo]
theorem Z4I {a kk : Int} : Int.tmod a kk = 0 ↔ a % kk = 0 := by
 rw [← Int.dvd_iff_tmod_eq_zero, ← Int.dvd_iff_emod_eq_zero]
theorem Z9f (b : Bool) (l : List Int) (e kk : Int) (w : Wl l) (hv : val l < big) (v0 : val l ≠ 0) (hkk : kk = 2 ∨ kk = 3) (e0 : -20000 ≤ e) (e1 : e ≤ 20000) :
  ∀ (d k : Nat) (s : Int), ((e - s) % kk).toNat = d → -70000 ≤ s → (bl (val l) : Int) + s + d ≤ 1000 → 100000000000000 + d ≤ k → Z0M.l0 k kk s b l e = some (scS (val l) e (scI e s kk) kk) := by
 have wl := w.2
 have lb := Z0O.1 hv
 intro d
 induction d with
 | zero =>
  intro k s hd s0 s1 hk
  obtain ⟨k, rfl⟩ : ∃ j, k = j + 1 := ⟨k - 1, by omega⟩
  have z : (e - s) % kk = 0 := by rcases hkk with rfl | rfl <;> omega
  have we : wrap64 (e - s) = e - s := by unfold wrap64; omega
  rw [Z0M.l0, we, if_neg Zo, if_pos (Z4I.2 z), ZeR Zo z]
  have wd : wrap64 ((e - s) / kk) = (e - s) / kk := by unfold wrap64; rcases hkk with rfl | rfl <;> omega
  unfold scS scI
  rw [z, Zka, wd]
  by_cases c : 0 ≤ s
  ·rw [if_pos c, if_pos c, Z5I l s k w.1 wl Zo, Z4]
   unfold Z4u
   rw [if_pos hv, if_neg Zo, if_neg v0, if_pos Zo]
  have wn : wrap64 (-s) = (((-s).toNat : Nat) : Int) := by unfold wrap64; omega
  rw [if_neg c, if_neg c, wn, Zbt l _ k w.1 Zo wl Zo, Z4]
  unfold Z8B
  rw [if_pos hv, if_neg Zo, zk0]
 | succ d ih =>
  intro k s hd s0 s1 hk
  obtain ⟨k, rfl⟩ : ∃ j, k = j + 1 := ⟨k - 1, by omega⟩
  have z : ¬ (e - s) % kk = 0 := by intro c; rw [c] at hd; cases hd
  have we : wrap64 (e - s) = e - s := by unfold wrap64; omega
  have ws : wrap64 (s + 1) = s + 1 := by unfold wrap64; omega
  have dd : ((e - (s + 1)) % kk).toNat = d ∧ scI e (s + 1) kk = scI e s kk ∧ (bl (val l) : Int) + (s + 1) + d ≤ 1000 := by
   unfold scI
   rcases hkk with rfl | rfl <;> omega
  rw [Z0M.l0, we, if_neg Zo, if_neg (fun c => z (Z4I.1 c)), ws, ih k (s + 1) dd.1 Zo dd.2.2 Zo, dd.2.1]
theorem Z7N (b : Bool) (l : List Int) (e kk bits : Int) (k : Nat) (w : Wl l) (hv : val l < big) (v0 : val l ≠ 0) (hkk : kk = 2 ∨ kk = 3) (e0 : -20000 ≤ e) (e1 : e ≤ 20000) (b0 : 0 ≤ bits) (b1 : bits ≤ 900) (hk : 100000000000000000 ≤ k) :
  Z0M.f k b l e kk bits = some (scS (val l) e (scI e (bits - (bl (val l) : Int)) kk) kk) := by
 have lb := Z0O.1 hv
 have wl := w.2
 unfold Z0M.f
 rw [Z6J l k w.1 wl Zo, if_pos hv, Z4]
 show Z0M.l0 k kk (wrap64 (bits - (bl (val l) : Int))) b l e = _
 rw [show wrap64 (bits - (bl (val l) : Int)) = bits - (bl (val l) : Int) by unfold wrap64; omega]
 exact Z9f b l e kk w hv v0 hkk e0 e1 _ k _ rfl Zo (by rcases hkk with rfl | rfl <;> omega) (by rcases hkk with rfl | rfl <;> omega)
def scN (v : Nat) (s : Int) : Nat := if 0 ≤ s then v * 2 ^ s.toNat else v / 2 ^ (-s).toNat
def scL (v : Nat) (s : Int) : Bool := if 0 ≤ s then false else decide (v % 2 ^ (-s).toNat ≠ 0)
theorem Zc2 (v : Nat) (e s kk : Int) : scS v e s kk = (ofN (scN v s), (e - s) / kk, scL v s) := by
 unfold scS scN scL
 by_cases c : 0 ≤ s
 ·rw [if_pos c, if_pos c, if_pos c]
 rw [if_neg c, if_neg c, if_neg c]
theorem Zc3 {v : Nat} {s : Int} {m : Nat} (v0 : v ≠ 0) (h : (bl v : Int) + s ≤ m) : bl (scN v s) ≤ m := by
 unfold scN
 by_cases c : 0 ≤ s
 ·rw [if_pos c, Z4s v0]; omega
 rw [if_neg c, Z0D]
 exact Z7M Zo
theorem Z4A (e s0 : Int) {kk : Int} (hkk : kk = 2 ∨ kk = 3) : s0 ≤ scI e s0 kk ∧ scI e s0 kk ≤ s0 + 2 ∧ (e - scI e s0 kk) % kk = 0 := by
 unfold scI
 rcases hkk with rfl | rfl <;> omega
theorem Z4N (v : Nat) : decide (((ofN v).length : Int) > 0) = decide (v ≠ 0) := by
 have := @Z1f v
 rw [zko, decide_eq_true_iff, decide_eq_true_iff]
 constructor
 ·intro h c; have := this.2 c; omega
 intro h
 have : (ofN v).length ≠ 0 := fun c => h (this.1 c)
 omega
def rtE (v : Nat) (e kk : Int) : Int := (e - scI e (kk * 64 - (bl v : Int)) kk) / kk
def rtN (v : Nat) (e kk : Int) : Nat := scN v (scI e (kk * 64 - (bl v : Int)) kk)
def rtL (v : Nat) (e kk : Int) : Bool := scL v (scI e (kk * 64 - (bl v : Int)) kk)
theorem Z6U {v : Nat} {e kk : Int} (hkk : kk = 2 ∨ kk = 3) (hb : bl v ≤ 9000) (e0 : -9000 ≤ e) (e1 : e ≤ 9000) : -20000 ≤ rtE v e kk ∧ rtE v e kk ≤ 20000 := by
 have := Z4A e (kk * 64 - (bl v : Int)) hkk
 unfold rtE
 rcases hkk with rfl | rfl <;> omega
theorem Z6V (s : Bool) (r d : Nat) (e : Int) (lo : Bool) (k : Nat) (h : bl r ≤ 60000) (e0 : -20000 ≤ e) (e1 : e ≤ 20000) (hk : 100000000000000000 ≤ k) :
  (if lo = true then ((Z0I.f k s (ofN r) e true).bind fun bt => (some (bt.1, bt.2))) else ((Z0I.f k s (ofN r) e (decide (((ofN d).length : Int) > 0))).bind fun bt => (some (bt.1, bt.2)))) = some (stS s r e (lo || decide (d ≠ 0))) := by
 rw [Z4N, Z44 s r e true k h e0 e1 hk, Z44 s r e _ k h e0 e1 hk, Z4, Z4]
 cases lo <;> rfl
theorem Z6W (l : List Int) (e : Int) (k : Nat) (w : Wl l) (v0 : val l ≠ 0) (hb : bl (val l) ≤ 9000) (e0 : -9000 ≤ e) (e1 : e ≤ 9000) (hk : 2000000000000000000000 ≤ k) :
  ∃ r, IsR (fun r => r * r * r) (rtN (val l) e 3) r ∧ ∀ s, Z1d.f k s l e 3 37 = some (stS s r (rtE (val l) e 3) (rtL (val l) e 3 || decide (rtN (val l) e 3 - r * r * r ≠ 0))) := by
 have hv : val l < big := Z0O.2 Zo
 have sb := Z4A e (3 * 64 - (bl (val l) : Int)) (.inr rfl)
 have nb : bl (rtN (val l) e 3) ≤ 194 := Zc3 v0 Zo
 have nl : rtN (val l) e 3 < big := Z0O.2 Zo
 have len := Z0X nl
 have pw : 2 ^ ((bl (rtN (val l) e 3) + 2) / 3) ≤ 2 ^ 65 := zkj Zd Zo
 have p65 : (2 : Nat) ^ 65 = 36893488147419103232 := by decide
 obtain ⟨r, hr, hi, hl⟩ := (Zeu (ofN (rtN (val l) e 3)) k (ZE _) Zo (by rw [Ze]; omega)).1 (by rw [Ze]; exact nl)
 rw [Ze] at hr hi
 have br : bl r ≤ 60000 := zk2 (Z6N hl) Zd
 have eb := Z6U (v := val l) (e := e) (.inr rfl) hb e0 e1
 refine ⟨r, hi, fun s => ?_⟩
 unfold Z1d.f
 rw [show wrap64 (3 * 64) = 3 * 64 by unfold wrap64; omega, Z7N s l e 3 (3 * 64) k w hv v0 (.inr rfl) Zo Zo Zd Zd Zo, Zc2, Z4, if_pos rfl]
 show ((Z2R.f k (ofN (rtN (val l) e 3))).bind _) = _
 rw [hr, Z4]
 exact Z6V s r _ (rtE (val l) e 3) (rtL (val l) e 3) k br eb.1 eb.2 Zo
theorem Z5q (l : List Int) (e : Int) (k : Nat) (w : Wl l) (v0 : val l ≠ 0) (hb : bl (val l) ≤ 9000) (e0 : -9000 ≤ e) (e1 : e ≤ 9000) (hk : 2000000000000000000000 ≤ k) :
  ∃ r, IsR (fun r => r * r) (rtN (val l) e 2) r ∧ ∀ s, Z1d.f k s l e 2 40 = some (stS s r (rtE (val l) e 2) (rtL (val l) e 2 || decide (rtN (val l) e 2 - r * r ≠ 0))) := by
 have hv : val l < big := Z0O.2 Zo
 have sb := Z4A e (2 * 64 - (bl (val l) : Int)) (.inl rfl)
 have nb : bl (rtN (val l) e 2) ≤ 130 := Zc3 v0 Zo
 have nl : rtN (val l) e 2 < big := Z0O.2 Zo
 have len := Z0X nl
 have pw : 2 ^ ((bl (rtN (val l) e 2) + 1) / 2) ≤ 2 ^ 65 := zkj Zd Zo
 have p65 : (2 : Nat) ^ 65 = 36893488147419103232 := by decide
 obtain ⟨r, hr, hi⟩ := (Z7m (ofN (rtN (val l) e 2)) k (ZE _) Zo (by rw [Ze]; omega)).1 (by rw [Ze]; exact nl)
 rw [Ze] at hr hi
 have r1 : r ≤ rtN (val l) e 2 := by
  have : r * r ≤ rtN (val l) e 2 := hi.1
  rcases Zk4 r with z | z
  ·omega
  exact zk2 (Nat.le_mul_of_pos_left r z) this
 have br : bl r ≤ 60000 := zk2 (Z3L r1) Zo
 have eb := Z6U (v := val l) (e := e) (.inl rfl) hb e0 e1
 refine ⟨r, hi, fun s => ?_⟩
 unfold Z1d.f
 rw [show wrap64 (2 * 64) = 2 * 64 by unfold wrap64; omega, Z7N s l e 2 (2 * 64) k w hv v0 (.inl rfl) Zo Zo Zd Zd Zo, Zc2, Z4, if_neg Zd]
 show ((Z23.f k (ofN (rtN (val l) e 2))).bind _) = _
 rw [hr, Z4]
 exact Z6V s r _ (rtE (val l) e 2) (rtL (val l) e 2) k br eb.1 eb.2 Zo
theorem Z1i (x : Int) (k : Nat) (hx : Nb.W64 x) (hk : 100000000000000000 ≤ k) : Z0L.f k x = some (Z0c x) := by
 unfold Z0L.f
 rw [Zdg x k hx hk, Z4]
theorem Z3B {x : Int} (hx : Nb.W64 x) (f : Nb.ZT x) (z : x % 9223372036854775808 ≠ 0) : Z0c x = (Z1b x, ofN (od (Nb.Z04 x).toNat), Nb.Z0x x + (tz (Nb.Z04 x).toNat : Int), 0) := by
 have m := Nb.Z3l hx
 have mz : (Nb.Z04 x).toNat ≠ 0 := fun c => z ((Z3g hx).1 Zo)
 unfold Z0c
 rw [if_pos f, Z2K mz]
def JJ : Nat := (-2148 - lowE).toNat
theorem ZdL : (JJ : Int) = -2148 - lowE := by unfold JJ lowE; omega
theorem Z90 {a b n : Nat} (ha : bl a ≤ n) (hb : bl b ≤ n) : bl (a + b) ≤ n + 1 := by
 rw [Z0D] at *
 rw [zkk]
 generalize 2 ^ n = P at *
 omega
noncomputable def sqV (x : Int) : Int := Z4y (Z0c x).1 (Z0c x).2.1 (Z0c x).2.2.1 (Z0c x).1 (Z0c x).2.1 (Z0c x).2.2.1
theorem Z86 (s : Bool) (n : Nat) : sg s n * sg s n = ((n * n : Nat) : Int) := by
 cases s
 ·show (n : Int) * (n : Int) = _; rw [zkE]
 show -(n : Int) * -(n : Int) = _; rw [Int.neg_mul_neg, zkE]
theorem ZeS {x : Int} (hx : Nb.W64 x) (f : Nb.ZT x) : (val (Z0c x).2.1 ≠ 0 → (bl (val (Z0c x).2.1) : Int) + (Z0c x).2.2.1 ≤ 1024 ∧ -1074 ≤ (Z0c x).2.2.1) := by
 have m := Nb.Z3l hx
 have eb := Nb.Z3M hx f
 by_cases z : (Nb.Z04 x).toNat = 0
 ·intro h
  exfalso
  unfold Z0c at h
  rw [if_pos f, z, Z1X] at h
  exact h Z2Y
 intro _
 have bm : bl (Nb.Z04 x).toNat ≤ 53 := by rw [Z0D, P53]; omega
 have bo := Zgl (Nb.Z04 x).toNat
 unfold Z0c
 rw [if_pos f, Z2K z]
 show (bl (val (ofN (od (Nb.Z04 x).toNat))) : Int) + (Nb.Z0x x + (tz (Nb.Z04 x).toNat : Int)) ≤ 1024 ∧ -1074 ≤ Nb.Z0x x + (tz (Nb.Z04 x).toNat : Int)
 rw [Ze]
 omega
theorem Z55 {x : Int} (hx : Nb.W64 x) (f : Nb.ZT x) : ∃ U : Nat, bl U ≤ 4200 ∧ sqV x = (U : Int) * 2 ^ JJ := by
 unfold sqV Z4y
 rw [Z86]
 by_cases z : val (Z0c x).2.1 = 0
 ·refine ⟨0, by rw [Z2q]; omega, ?_⟩
  rw [z]
  show Vz 0 _ = 0 * _
  rw [Z3A, Int.zero_mul]
 obtain ⟨b1, b2⟩ := ZeS hx f z
 generalize val (Z0c x).2.1 = n at *
 generalize (Z0c x).2.2.1 = e at *
 have j := ZdL
 refine ⟨n * n * 2 ^ (e + e + 2148).toNat, ?_, ?_⟩
 ·refine Zc1 ?_
  have : bl (n * n) ≤ bl n + bl n := by
   rw [Z0D, zkb]
   exact Nat.mul_lt_mul'' (Z2J n) (Z2J n)
  omega
 unfold Vz
 have q : ((n * n * 2 ^ (e + e + 2148).toNat : Nat) : Int) = ((n * n : Nat) : Int) * 2 ^ (e + e + 2148).toNat := by rw [zkE, Z4k]
 rw [q, Int.mul_assoc, ← Int.pow_add, show (e + e - lowE).toNat = (e + e + 2148).toNat + JJ by unfold lowE at *; omega]
theorem Z9S {Z : Int} {U : Int} (h : Z = U * 2 ^ JJ) : cz Z lowE = cz U (-2148) := by
 rw [h, Z8O, show lowE + (JJ : Int) = -2148 by have := ZdL; omega]
theorem Z45 {Z U : Int} (h : Z = U * 2 ^ JJ) (hb : bl U.natAbs ≤ 4300) : Z2p (val (cz Z lowE).2.1) (cz Z lowE).2.2 = true ∧ Wl (cz Z lowE).2.1 ∧ Z5X (cz Z lowE) = ((cz Z lowE).1, (cz Z lowE).2.1, (cz Z lowE).2.2, 0) := by
 obtain ⟨a, b⟩ := Z6T (V := U) (e := -2148) hb Zd Zd Zd
 rw [← Z9S h] at a b
 exact ⟨a, b, ZbP a⟩
theorem Zc4 {x : Int} (k : Nat) (hx : Nb.W64 x) (f : Nb.ZT x) (hk : 200000000000000000 ≤ k) : Z2G.f k (Z0c x).1 (Z0c x).2.1 (Z0c x).2.2.1 (Z0c x).1 (Z0c x).2.1 (Z0c x).2.2.1 = some ((cz (sqV x) lowE).1, (cz (sqV x) lowE).2.1, (cz (sqV x) lowE).2.2, 0) := by
 obtain ⟨U, hb, hU⟩ := Z55 hx f
 have w := (Z7t hx f).wl
 have ff := Z7L hx f
 rw [ZeE _ _ _ _ _ _ k w w hk]
 unfold Z7n
 rw [if_pos ⟨ff, ff⟩]
 exact congrArg some (Z45 hU (by rw [zkQ]; omega)).2.2
noncomputable def hyC (k : Nat) (Z : Int) : Option (Int × Int × Int) := (Z2A.f k (cz Z lowE).1 (cz Z lowE).2.1 (cz Z lowE).2.2).bind fun t => if t = true then some (0, 0, 0) else (Z1d.f k (cz Z lowE).1 (cz Z lowE).2.1 (cz Z lowE).2.2 2 40).bind fun b => some (b.1, b.2, 0)
theorem Z7O {x y : Int} (k : Nat) (hx : Nb.W64 x) (hy : Nb.W64 y) (fx : Nb.ZT x) (fy : Nb.ZT y) (hk : 200000000000000000 ≤ k) : Z0C.f (k + 1) x y = hyC k (sqV x + sqV y) := by
 obtain ⟨U, ub, hU⟩ := Z55 hx fx
 obtain ⟨V, vb, hV⟩ := Z55 hy fy
 have r1 := Z45 hU (by rw [zkQ]; omega)
 have r2 := Z45 hV (by rw [zkQ]; omega)
 have hs : sqV x + sqV y = ((U + V : Nat) : Int) * 2 ^ JJ := by rw [hU, hV, ← Int.add_mul, zkL]
 have sb : bl (U + V) ≤ 4201 := Z90 ub vb
 have r3 := Z45 hs (by rw [zkQ]; omega)
 unfold Z0C.f
 rw [Z1i x (k + 1) hx Zo, Z4, Z1i y (k + 1) hy Zo, Z4, if_pos (Z4n fx), Z4n fy]
 show Z0C.j0 (k + 1) false _ _ _ _ _ _ = _
 rw [Z0C.j0, if_neg Zd, Zc4 k hx fx hk, Z4, Zc4 k hy fy hk, Z4]
 show (Z32.f k (cz (sqV x) lowE).1 (cz (sqV x) lowE).2.1 (cz (sqV x) lowE).2.2 (cz (sqV y) lowE).1 (cz (sqV y) lowE).2.1 (cz (sqV y) lowE).2.2).bind _ = _
 rw [ZeD _ _ _ _ _ _ k r1.2.1 r2.2.1 hk, Z82, Z82]
 unfold Z7n
 rw [if_pos ⟨r1.1, r2.1⟩, r3.2.2, Z4]
 rfl
theorem Z91 (s : Bool) (l : List Int) (e : Int) (k : Nat) (w : Wl l) (hk : 100000000000000000 ≤ k) : Z2A.f k s l e = some (if Z2p (val l) e = true then decide (val l = 0) else false) := by
 unfold Z2A.f
 rw [Z3R s l e k w.ws w.len hk, Z4, Z52 s l e k w.ws w.len hk, Z4]
 split <;> rfl
theorem Zdn {x y : Int} (k : Nat) (hx : Nb.W64 x) (hy : Nb.W64 y) (h : ¬ (Nb.ZT x ∧ Nb.ZT y)) (hk : 200000000000000000 ≤ k) : Z0C.f (k + 1) x y = some (0, 0, 5) := by
 have jt : ∀ a b c d e f, Z0C.j0 (k + 1) true a b c d e f = some (0, 0, 5) := fun a b c d e f => by rw [Z0C.j0]; exact if_pos rfl
 unfold Z0C.f
 rw [Z1i x (k + 1) hx Zo, Z4, Z1i y (k + 1) hy Zo, Z4]
 by_cases fx : Nb.ZT x
 ·rw [if_pos (Z4n fx), Z54 (fun c => h ⟨fx, c⟩)]
  exact jt _ _ _ _ _ _
 rw [Z54 fx, if_neg Zd]
 exact jt _ _ _ _ _ _
def flI (v : Nat) (e : Int) : Int := if lsI v e = true then (if mbI v e = Z3n then 20 else if Z34 v e = true then 24 else 16) else 0
theorem Z61 (r : Nat) (e : Int) (more : Bool) (n : Nat) (hn : 2 * r + (if more = true then 1 else 0) = n) (h : lowE ≤ e - 1) : stS false r e more = (mbI n (e - 1), flI n (e - 1)) := by
 unfold stS flI
 rw [hn, ZdJ n h]
 have : nbZ (sg false (am n (e - 1))) = mbI n (e - 1) := by
  rw [Z85 n h]
  rcases Z8Z (sg false (am n (e - 1))) with ⟨a, b⟩ | ⟨a, b⟩
  ·exact absurd a (by show ¬ ((am n (e - 1) : Nat) : Int) < 0; omega)
  rw [b, Z37]
 rw [this]
theorem Zdo {a r q : Nat} (hi : IsR (fun r => r * r * r) a r) (h1 : q * q * q ≤ a) (h2 : a < (q + 1) * (q + 1) * (q + 1)) : r = q := by
 refine Nat.le_antisymm (Nat.not_lt.1 fun c => ?_) (hi.2 q h1)
 have h3 : r * r * r ≤ a := hi.1
 have h4 := zkR (zkR (show q + 1 ≤ r from c) (show q + 1 ≤ r from c)) (show q + 1 ≤ r from c)
 omega
theorem Z6p {a r q : Nat} (hi : IsR (fun r => r * r) a r) (h1 : q * q ≤ a) (h2 : a < (q + 1) * (q + 1)) : r = q := by
 refine Nat.le_antisymm (Nat.not_lt.1 fun c => ?_) (hi.2 q h1)
 have h3 : r * r ≤ a := hi.1
 have h4 := zkR (show q + 1 ≤ r from c) (show q + 1 ≤ r from c)
 omega
theorem Z62 : od 4503599627370496 = 1 ∧ tz 4503599627370496 = 52 := ⟨Z5j (t := 52) (m := 0) Zd, Z3m (t := 52) (m := 0) Zd⟩
theorem ZdM : bl 36893488147419103232 = 66 := Z27 (m := 65) Zd Zd
theorem ZfL : Z0c 4620693217682128896 = (false, ofN 1, 3, 0) := by
 rw [Z3B ⟨by decide, by decide⟩ Zd Zd]
 have m : (Nb.Z04 4620693217682128896).toNat = 4503599627370496 := by decide
 have e : Nb.Z0x 4620693217682128896 = -49 := by decide
 rw [m, e, Z62.1, Z62.2]; rfl
theorem ZfM (k : Nat) (hk : 2000000000000000000000 ≤ k) : Z1w.f k 4620693217682128896 = some (4611686018427387904, 0, 0) := by
 have w1 : Wl (ofN 1) := Z4z (by have := Z2s (v := 1) Zd; omega)
 obtain ⟨r, hi, hr⟩ := Z6W (ofN 1) 3 k w1 (by rw [Ze]; decide) (by rw [Ze, Z3F]; decide) Zd Zd hk
 rw [Ze] at hi hr
 have N : rtN 1 3 3 = 2 ^ 192 := by unfold rtN scI scN; rw [Z3F]; decide
 have E : rtE 1 3 3 = -63 := by unfold rtE scI; rw [Z3F]; decide
 have L : rtL 1 3 3 = false := by unfold rtL scI scL; rw [Z3F]; decide
 rw [N] at hi hr
 have r0 : r = 18446744073709551616 := Zdo hi Zd Zd
 rw [r0, E, L] at hr
 unfold Z1w.f
 rw [Z1i _ k ⟨by decide, by decide⟩ Zo, Z4, ZfL, if_pos rfl, Nb.Z36 ⟨by decide, by decide⟩, Z4, if_neg Zd, hr, Z4, show (false || decide (2 ^ 192 - 18446744073709551616 * 18446744073709551616 * 18446744073709551616 ≠ 0)) = false by decide, Z61 _ _ _ 36893488147419103232 Zd Zd]
 unfold flI lsI mbI Z34 Z3b Z1h Z1s
 rw [ZdM]
 decide
theorem ZfN : Z0c 4611686018427387904 = (false, ofN 1, 1, 0) := by
 rw [Z3B ⟨by decide, by decide⟩ Zd Zd]
 have m : (Nb.Z04 4611686018427387904).toNat = 4503599627370496 := by decide
 have e : Nb.Z0x 4611686018427387904 = -51 := by decide
 rw [m, e, Z62.1, Z62.2]; rfl
theorem Zgo : bl 26087635650665564425 = 65 := Z27 (m := 64) Zd Zd
theorem ZfO (k : Nat) (hk : 2000000000000000000000 ≤ k) : Z1g.f k 4611686018427387904 = some (4609047870845172685, 16, 0) := by
 have w1 : Wl (ofN 1) := Z4z (by have := Z2s (v := 1) Zd; omega)
 obtain ⟨r, hi, hr⟩ := Z5q (ofN 1) 1 k w1 (by rw [Ze]; decide) (by rw [Ze, Z3F]; decide) Zd Zd hk
 rw [Ze] at hi hr
 have N : rtN 1 1 2 = 2 ^ 127 := by unfold rtN scI scN; rw [Z3F]; decide
 have E : rtE 1 1 2 = -63 := by unfold rtE scI; rw [Z3F]; decide
 have L : rtL 1 1 2 = false := by unfold rtL scI scL; rw [Z3F]; decide
 rw [N] at hi hr
 have r0 : r = 13043817825332782212 := Z6p hi Zd Zd
 rw [r0, E, L] at hr
 unfold Z1g.f
 rw [Z1i _ k ⟨by decide, by decide⟩ Zo, Z4, ZfN, if_pos rfl, Nb.Z36 ⟨by decide, by decide⟩, Z4, if_neg Zd, if_neg Zd, hr, Z4, show (false || decide (2 ^ 127 - 13043817825332782212 * 13043817825332782212 ≠ 0)) = true by decide, Z61 _ _ _ 26087635650665564425 Zd Zd]
 unfold flI lsI mbI Z34 Z3b Z1h Z1s
 rw [Zgo]
 decide
theorem ZfP : Z0c 4613937818241073152 = (false, ofN 3, 0, 0) := by
 rw [Z3B ⟨by decide, by decide⟩ Zd Zd]
 have m : (Nb.Z04 4613937818241073152).toNat = 6755399441055744 := by decide
 have e : Nb.Z0x 4613937818241073152 = -51 := by decide
 have o : od 6755399441055744 = 3 := Z5j (t := 51) (m := 1) Zd
 have t : tz 6755399441055744 = 51 := Z3m (t := 51) (m := 1) Zd
 rw [m, e, o, t]; rfl
theorem ZfQ : Z0c 4616189618054758400 = (false, ofN 1, 2, 0) := by
 rw [Z3B ⟨by decide, by decide⟩ Zd Zd]
 have m : (Nb.Z04 4616189618054758400).toNat = 4503599627370496 := by decide
 have e : Nb.Z0x 4616189618054758400 = -50 := by decide
 rw [m, e, Z62.1, Z62.2]; rfl
theorem Z87 : bl 25 = 5 := Z27 (m := 4) Zd Zd
theorem Zgy : bl 46116860184273879040 = 66 := Z27 (m := 65) Zd Zd
theorem Zgp : cz (sqV 4613937818241073152 + sqV 4616189618054758400) lowE = (false, ofN 25, 0) := by
 have h3 : sqV 4613937818241073152 = Vz 9 0 := by
  unfold sqV Z4y
  rw [ZfP, Z86]
  show Vz ((val (ofN 3) * val (ofN 3) : Nat) : Int) (0 + 0) = _
  rw [Ze]; rfl
 have h4 : sqV 4616189618054758400 = Vz 16 0 := by
  unfold sqV Z4y
  rw [ZfQ, Z86]
  show Vz ((val (ofN 1) * val (ofN 1) : Nat) : Int) (2 + 2) = _
  rw [Ze]
  exact (Z6P (e := 0) Zd 1 4).symm
 rw [h3, h4, ← Z6Q, ← Z5W Zd]
 show cf false 25 0 = _
 have o : od 25 = 25 := Z5j (t := 0) (m := 12) Zd
 have t : tz 25 = 0 := Z3m (t := 0) (m := 12) Zd
 rw [Z2K Zd, o, t]; rfl
theorem Zdp (k : Nat) (hk : 2000000000000000000000 ≤ k) : Z0C.f (k + 1) 4613937818241073152 4616189618054758400 = some (4617315517961601024, 0, 0) := by
 have w1 : Wl (ofN 25) := Z4z (by have := Z2s (v := 25) Zd; omega)
 obtain ⟨r, hi, hr⟩ := Z5q (ofN 25) 0 k w1 (by rw [Ze]; decide) (by rw [Ze, Z87]; decide) Zd Zd hk
 rw [Ze] at hi hr
 have N : rtN 25 0 2 = 25 * 2 ^ 124 := by unfold rtN scI scN; rw [Z87]; decide
 have E : rtE 25 0 2 = -62 := by unfold rtE scI; rw [Z87]; decide
 have L : rtL 25 0 2 = false := by unfold rtL scI scL; rw [Z87]; decide
 rw [N] at hi hr
 have r0 : r = 23058430092136939520 := Z6p hi Zd Zd
 rw [r0, E, L] at hr
 rw [Z7O k ⟨by decide, by decide⟩ ⟨by decide, by decide⟩ Zd Zd Zo]
 unfold hyC
 rw [Zgp]
 show (Z2A.f k false (ofN 25) 0).bind _ = _
 rw [Z91 false (ofN 25) 0 k w1 Zo, Z4, Ze, if_pos (Z2I.2 ⟨Z3S Zd, by decide, by decide⟩), if_neg Zd]
 show (Z1d.f k false (ofN 25) 0 2 40).bind _ = _
 rw [hr, Z4, show (false || decide (25 * 2 ^ 124 - 23058430092136939520 * 23058430092136939520 ≠ 0)) = false by decide, Z61 _ _ _ 46116860184273879040 Zd Zd]
 unfold flI lsI mbI Z34 Z3b Z1h Z1s
 rw [Zgy]
 decide
theorem ZfR : Z0c 1 = (false, ofN 1, -1074, 0) := by
 rw [Z3B ⟨by decide, by decide⟩ Zd Zd]
 have m : (Nb.Z04 1).toNat = 1 := by decide
 have e : Nb.Z0x 1 = -1074 := by decide
 have o : od 1 = 1 := Z5j (t := 0) (m := 0) Zd
 have t : tz 1 = 0 := Z3m (t := 0) (m := 0) Zd
 rw [m, e, o, t]; rfl
theorem Zc5 : bl (2 ^ 130) = 131 := Z27 (m := 130) Zd Zd
theorem Zgq : bl 73786976294838206464 = 67 := Z27 (m := 66) Zd Zd
theorem ZeT (k : Nat) (hk : 2000000000000000000000 ≤ k) : Z0o.f (k + 1) 1 = some (7025615418697973760, 0, 0) := by
 have l1 : (ofN 1).length ≤ 1 := Z2s (v := 1) Zd
 have w1 : Wl (ofN 1) := Z4z Zo
 have b130 : 2 ^ 130 < big := Z0O.2 (by rw [Zc5]; decide)
 have l130 := Z0X b130
 have b1 : (1 : Nat) < big := Z3S Zd
 unfold Z0o.f
 rw [Z1i _ (k + 1) ⟨by decide, by decide⟩ Zo, Z4, ZfR, if_pos rfl, Nb.Z36 ⟨by decide, by decide⟩, Z4, if_neg Zd, if_neg Zd]
 show ((Z2e.f (k + 1) (ofN 1)).bind _) = _
 rw [Z6J (ofN 1) (k + 1) (ZE _) Zo Zo, Ze, if_pos b1, Z4, Z3F]
 have e1 : wrap64 (128 + ((1 : Nat) : Int)) = 129 := by unfold wrap64; omega
 have e2 : wrap64 (-1074 + 129) = -945 := by unfold wrap64; omega
 have e3 : wrap64 (129 + 1) = ((130 : Nat) : Int) := by unfold wrap64; omega
 show (if Int.tmod (wrap64 (-1074 + wrap64 (128 + ((1 : Nat) : Int)))) 2 = 0 then _ else Z0o.j0 (k + 1) (wrap64 (wrap64 (128 + ((1 : Nat) : Int)) + 1)) false (ofN 1) (-1074)) = _
 rw [e1, e2, e3, if_neg Zd, Z0o.j0]
 show (Z2W.f k ((1 : Nat) : Int)).bind _ = _
 rw [Z8K 1 k Zd Zo, Z4, Z5I (ofN 1) _ k (ZE _) Zo Zo, Ze, Z4]
 have s1 : (Z4u 1 ((130 : Nat) : Int)).1 = ofN (2 ^ 130) := by
  unfold Z4u
  rw [if_pos b1, if_neg Zd, if_neg Zd, zk0, Z3F, if_pos Zd, Zk6]
 rw [s1, Zby (ofN (2 ^ 130)) (ofN 1) k (ZE _) (ZE _) Zo Zo Zo, Ze, Ze, Z4]
 have q1 : Z7k (2 ^ 130) 1 = (ofN (2 ^ 130), ofN 0, 0) := by
  unfold Z7k
  rw [if_pos ⟨b130, b1⟩, if_neg Zd, Nat.div_one, Nat.mod_one]
 rw [q1]
 obtain ⟨r, hr, hi⟩ := (Z7m (ofN (2 ^ 130)) k (ZE _) Zo (by rw [Ze, Zc5, show (2 : Nat) ^ ((131 + 1) / 2) = 73786976294838206464 by decide]; omega)).1 (by rw [Ze]; exact b130)
 rw [Ze] at hr hi
 have r0 : r = 36893488147419103232 := Z6p hi Zd Zd
 show ((Z23.f k (ofN (2 ^ 130))).bind _) = _
 rw [hr, Z4, Z0e, if_neg Zd]
 have d0 : (2 : Nat) ^ 130 - r * r = 0 := by rw [r0]
 have e4 : wrap64 (Int.tdiv (wrap64 (wrap64 (- -1074) - ((130 : Nat) : Int))) 2) = 472 := by
  have : wrap64 (- -1074) = 1074 := by unfold wrap64; omega
  rw [this, show wrap64 (1074 - ((130 : Nat) : Int)) = 944 by unfold wrap64; omega, show Int.tdiv 944 2 = 472 by decide]
  unfold wrap64; omega
 rw [d0, Z0e, e4, r0, Z44 false _ 472 _ k (by rw [ZdM]; decide) Zd Zd Zo, Z4, show decide ((([] : List Int).length : Int) > 0) = false by decide, Z61 _ _ _ 73786976294838206464 Zd Zd]
 unfold flI lsI mbI Z34 Z3b Z1h Z1s
 rw [Zgq]
 decide
theorem Zdq (k : Nat) (hk : 2000000000000000000000 ≤ k) : Z2g.f (k + 1) = some true := by
 unfold Z2g.f
 rw [ZfM (k + 1) Zo, Z4, ZeT k hk, Z4, Zdp k hk, Z4, ZfO (k + 1) Zo, Z4]
 rfl
end Go.Proofs.YtjnfipkbgmdpaaaGreatDoor.Nf

namespace Go.Proofs.YtjnfipkbgmdpaaaGreatDoor.Nm
def Eqv (t A B : Nat) : Prop := A = B ∨ (A / 2 ^ t = B / 2 ^ t ∧ A % 2 ^ t ≠ 0 ∧ B % 2 ^ t ≠ 0)
theorem Eqv.symm {t A B : Nat} (h : Eqv t A B) : Eqv t B A := h.elim (fun e => .inl e.symm) fun e => .inr ⟨e.1.symm, e.2.2, e.2.1⟩
theorem Z3Z (A : Nat) {t n : Nat} (h : t ≤ n) : A / 2 ^ n = A / 2 ^ t / 2 ^ (n - t) := by
 rw [Nat.div_div_eq_div_mul, ← Nat.pow_add, show t + (n - t) = n by omega]
theorem Z4f {A t n : Nat} (h : t ≤ n) (z : A % 2 ^ t ≠ 0) : A % 2 ^ n ≠ 0 := fun c => z (Nat.mod_eq_zero_of_dvd (Nat.dvd_trans (Nat.pow_dvd_pow 2 h) (Nat.dvd_of_mod_eq_zero c)))
theorem Z9T {t A B n : Nat} (h : Eqv t A B) (hn : t < n) : rnd A n = rnd B n ∧ (A % 2 ^ n ≠ 0 ↔ B % 2 ^ n ≠ 0) := by
 rcases h with rfl | ⟨d, a, b⟩
 ·exact ⟨rfl, Iff.rfl⟩
 have a1 := Z4f (n := n - 1) (by omega) a
 have b1 := Z4f (n := n - 1) (by omega) b
 refine ⟨?_, iff_of_true (Z4f (by omega) a) (Z4f (by omega) b)⟩
 unfold rnd
 rw [Z3Z A (t := t) (n := n) (by omega), Z3Z B (t := t) (n := n) (by omega), Z3Z A (t := t) (n := n - 1) (by omega), Z3Z B (t := t) (n := n - 1) (by omega), d]
 simp only [ne_eq, a1, b1, not_false_eq_true, true_or]
theorem Zc6 {t A B n : Nat} (h : Eqv t A B) (ha : 2 ^ t ≤ A) : A < 2 ^ n ↔ B < 2 ^ n := by
 rcases h with rfl | ⟨d, a, b⟩
 ·exact Iff.rfl
 have p := Z0b t
 have hb : 2 ^ t ≤ B := by
  have : 1 ≤ A / 2 ^ t := (Nat.le_div_iff_mul_le p).2 (by omega)
  rw [d] at this
  have := (Nat.le_div_iff_mul_le p).1 this
  omega
 by_cases c : t ≤ n
 ·rw [show 2 ^ n = 2 ^ (n - t) * 2 ^ t by rw [← Nat.pow_add]; congr 1; omega, ← Nat.div_lt_iff_lt_mul p, ← Nat.div_lt_iff_lt_mul p, d]
 have : 2 ^ n ≤ 2 ^ t := Nat.pow_le_pow_right (by decide) (by omega)
 omega
theorem ZfS {t A B : Nat} (h : Eqv t A B) (ha : 2 ^ t ≤ A) : bl A = bl B := by
 have e : ∀ n, bl A ≤ n ↔ bl B ≤ n := fun n => by rw [Z0D, Z0D]; exact Zc6 h ha
 have := (e (bl A)).1 (Nat.le_refl _)
 have := (e (bl B)).2 (Nat.le_refl _)
 omega
theorem Zc7 {K A t : Nat} (hK : K ≤ t + 1) (h : 2 ^ (t + 53) ≤ A) : ¬ tyA K A := by
 unfold tyA
 have : 9007199254740992 ≤ rnd A (K - 1) := Z6z (Nat.le_trans (by rw [← P53, ← Nat.pow_add]; exact Nat.pow_le_pow_right (by decide) (by omega)) h)
 omega
theorem ZeU {K t A B : Nat} (h : Eqv t A B) (ha : 2 ^ (t + 54) ≤ A) : cdA K A = cdA K B ∧ (lsA K A ↔ lsA K B) ∧ (tyA K A ↔ tyA K B) := by
 have p : 2 ^ t ≤ A := Nat.le_trans (Nat.pow_le_pow_right (by decide) (by omega)) ha
 have e := ZfS h p
 have lo : t + 54 < bl A := Nat.not_le.1 fun c => by have := Z0D.1 c; omega
 have es : shA K A = shA K B := by unfold shA; rw [e]
 have ts : t < shA K A := by unfold shA; omega
 obtain ⟨r, m⟩ := Z9T h ts
 have c : cdA K A = cdA K B := by unfold cdA; rw [← es, r]
 refine ⟨c, by unfold lsA; rw [c, ← es, m], ?_⟩
 by_cases q : t < K - 1
 ·unfold tyA; rw [(Z9T h q).1]
 have hb : 2 ^ (t + 53) ≤ B := by
  have := (Zc6 h p (n := t + 53)).2
  have x : 2 ^ (t + 53) ≤ A := Nat.le_trans (Nat.pow_le_pow_right (by decide) (by omega)) ha
  omega
 exact iff_of_false (Zc7 (t := t) (by omega) (Nat.le_trans (Nat.pow_le_pow_right (by decide) (by omega)) ha)) (Zc7 (t := t) (by omega) hb)
def pw (c k r : Nat) : Nat := c * r ^ k
theorem Z9U {c k r s : Nat} (h : r ≤ s) : pw c k r ≤ pw c k s := Nat.mul_le_mul_left c (Nat.pow_le_pow_left h k)
theorem ZdN {c k W r s : Nat} (h : pw c k r ≤ W) (g : W < pw c k s) : r < s := Nat.not_le.1 fun x => by have := Z9U (c := c) (k := k) x; omega
theorem ZdO {c k r s : Nat} (hc : 0 < c) (hk : 0 < k) (h : r < s) : pw c k r < pw c k s := Nat.mul_lt_mul_of_pos_left (Nat.pow_lt_pow_left h (by omega)) hc
def Rk (c k W r : Nat) : Prop := pw c k r ≤ W ∧ W < pw c k (r + 1)
theorem Z63 {c k W r s : Nat} (h : Rk c k W r) : pw c k s ≤ W ↔ s ≤ r := ⟨fun x => Nat.lt_succ_iff.1 (ZdN x h.2), fun x => Nat.le_trans (Z9U x) h.1⟩
theorem Z2Z (c k W : Nat) (hc : 0 < c) (hk : 0 < k) : ∃ r, Rk c k W r := by
 have : ∀ n, W < pw c k (n + 1) → ∃ r, Rk c k W r := fun n => by
  induction n with
  | zero => exact fun h => ⟨0, by unfold pw; rw [Nat.zero_pow hk, Nat.mul_zero]; exact Nat.zero_le _, h⟩
  | succ n ih =>
   intro h
   by_cases x : W < pw c k (n + 1)
   ·exact ih x
   exact ⟨n + 1, by omega, h⟩
 refine this W ?_
 have : W + 1 ≤ (W + 1) ^ k := by
  have := Nat.pow_le_pow_right (n := W + 1) (by omega) hk
  rw [Nat.pow_one] at this; exact this
 unfold pw
 exact Nat.lt_of_lt_of_le this (Nat.le_mul_of_pos_left _ hc)
theorem Z9V {c k W r s : Nat} (h : Rk c k W r) (g : Rk c k W s) : r = s := by
 have := (Z63 h).1 g.1
 have := (Z63 g).1 h.1
 omega
noncomputable def stA (c k W : Nat) : Nat := if h : 0 < c ∧ 0 < k then 2 * (Z2Z c k W h.1 h.2).choose + (if pw c k (Z2Z c k W h.1 h.2).choose = W then 0 else 1) else 0
theorem Z56 {c k W r : Nat} (hc : 0 < c) (hk : 0 < k) (h : Rk c k W r) : stA c k W = 2 * r + if pw c k r = W then 0 else 1 := by
 unfold stA
 rw [dif_pos ⟨hc, hk⟩, Z9V (Z2Z c k W hc hk).choose_spec h]
theorem Z5L {c k r : Nat} (hc : 0 < c) (hk : 0 < k) : stA c k (pw c k r) = 2 * r := by
 rw [Z56 hc hk (W := pw c k r) (r := r) ⟨Nat.le_refl _, ZdO hc hk (by omega)⟩, if_pos rfl, Nat.add_zero]
theorem Z5r {c k W V : Nat} (hc : 0 < c) (hk : 0 < k) (h : W ≤ V) : stA c k W ≤ stA c k V := by
 obtain ⟨r, hr⟩ := Z2Z c k W hc hk
 obtain ⟨s, hs⟩ := Z2Z c k V hc hk
 rw [Z56 hc hk hr, Z56 hc hk hs]
 have l : r ≤ s := (Z63 hs).1 (Nat.le_trans hr.1 h)
 by_cases e : r = s
 ·subst e
  have := hr.1
  split
  ·omega
  rw [if_neg (by omega)]; omega
 split <;> omega
theorem Zc8 {c k W r t : Nat} {more : Bool} (hc : 0 < c) (hk : 0 < k) (h1 : pw c k (r * 2 ^ t) ≤ W) (h2 : W < pw c k ((r + 1) * 2 ^ t)) (hm : more = true ↔ pw c k (r * 2 ^ t) ≠ W) :
  Eqv (t + 1) ((2 * r + if more = true then 1 else 0) * 2 ^ t) (stA c k W) := by
 obtain ⟨q, hq⟩ := Z2Z c k W hc hk
 rw [Z56 hc hk hq]
 have p := Z0b t
 by_cases m : pw c k (r * 2 ^ t) = W
 ·left
  have e : q = r * 2 ^ t := Z9V hq ⟨h1, by rw [← m]; exact ZdO hc hk (by omega)⟩
  rw [if_neg (fun x => hm.1 x m), e, if_pos m, Nat.add_zero, Nat.add_zero, Nat.mul_assoc]
 right
 rw [if_pos (hm.2 m)]
 have a : r * 2 ^ t ≤ q := (Z63 hq).1 h1
 have b : q < (r + 1) * 2 ^ t := ZdN hq.1 h2
 have x : r * 2 ^ t = q → pw c k q ≠ W := fun e => by rw [← e]; exact m
 rw [Nat.succ_mul] at b
 rw [Nat.pow_succ]
 obtain ⟨d, rfl⟩ : ∃ d, q = r * 2 ^ t + d := ⟨q - r * 2 ^ t, by omega⟩
 have y : (if pw c k (r * 2 ^ t + d) = W then 0 else 1 : Nat) ≤ 1 ∧ (d = 0 → (if pw c k (r * 2 ^ t + d) = W then 0 else 1 : Nat) = 1) := by
  refine ⟨by split <;> omega, fun z => ?_⟩
  rw [if_neg (x (by omega))]
 generalize (if pw c k (r * 2 ^ t + d) = W then 0 else 1 : Nat) = i at *
 generalize 2 ^ t = P at *
 have e1 : (2 * r + 1) * P = (P * 2) * r + P := by rw [Nat.add_mul, Nat.one_mul, Nat.mul_assoc, Nat.mul_comm P 2, Nat.mul_assoc, Nat.mul_comm P r]
 have e2 : 2 * (r * P + d) + i = (P * 2) * r + (2 * d + i) := by rw [Nat.mul_add, Nat.mul_comm P 2, Nat.mul_assoc, Nat.mul_comm P r]; omega
 rw [e1, e2, Nat.mul_add_div (by omega), Nat.mul_add_div (by omega), Nat.div_eq_of_lt (by omega : P < P * 2), Nat.div_eq_of_lt (by omega : 2 * d + i < P * 2), Nat.mul_add_mod, Nat.mul_add_mod, Nat.mod_eq_of_lt (by omega : P < P * 2), Nat.mod_eq_of_lt (by omega : 2 * d + i < P * 2)]
 omega
theorem Z6X (c k r t : Nat) : pw c k (r * 2 ^ t) = pw c k r * 2 ^ (k * t) := by
 unfold pw
 rw [Nat.mul_pow, ← Nat.pow_mul, Nat.mul_comm t k, Nat.mul_assoc]
end Go.Proofs.YtjnfipkbgmdpaaaGreatDoor.Nm

namespace Go.Proofs.YtjnfipkbgmdpaaaGreatDoor.Nf
open RowKit YtjnfipkbgmdpaaaGreatDoor.PAll YtjnfipkbgmdpaaaGreatDoorW.PrintWords YtjnfipkbgmdpaaaGreatDoorW.PrintLast YtjnfipkbgmdpaaaGreatDoorW.PrintMore YtjnfipkbgmdpaaaGreatDoor.Nm
set_option linter.unusedVariables false
set_option linter.unusedSimpArgs false
theorem ZaO (s : Bool) {A : Nat} (h : A ≠ 0) : decide (sg s A < 0) = s := by
 cases s
 ·exact decide_eq_false (show ¬ (A : Int) < 0 by omega)
 exact decide_eq_true (show -(A : Int) < 0 by omega)
theorem ZfT (s : Bool) {t A B : Nat} (h : Eqv t A B) (ha : 2 ^ (t + 54) ≤ A) : nbZ (sg s A) = nbZ (sg s B) ∧ flA A = flA B := by
 have p := Z0b (t + 54)
 have q := Z0b t
 have b0 : B ≠ 0 := by
  rcases h with e | ⟨_, _, e⟩
  ·omega
  rintro rfl; exact e (Nat.zero_mod _)
 have a0 : A ≠ 0 := by omega
 obtain ⟨c, l, y⟩ := ZeU (K := KK) h ha
 have m : mbA KK A = mbA KK B := by unfold mbA; rw [c]
 refine ⟨?_, ?_⟩
 ·unfold nbZ
  rw [Z37, Z37, ZaO s a0, ZaO s b0, m]
 unfold flA
 rw [m]
 by_cases u : lsA KK B
 ·rw [if_pos (l.2 u), if_pos u]
  by_cases v : tyA KK B
  ·rw [if_pos (⟨a0, y.2 v⟩ : A ≠ 0 ∧ tyA KK A), if_pos (⟨b0, v⟩ : B ≠ 0 ∧ tyA KK B)]
  rw [if_neg (fun c => v (y.1 c.2) : ¬ (A ≠ 0 ∧ tyA KK A)), if_neg (fun c => v c.2 : ¬ (B ≠ 0 ∧ tyA KK B))]
 rw [if_neg (fun c => u (l.1 c)), if_neg u]
noncomputable def stR (s : Bool) (c k W : Nat) : Int × Int := (nbZ (sg s (stA c k W)), flA (stA c k W))
def uL : Int := lowE + 1
theorem ZaP (s : Bool) {c k W r : Nat} {e : Int} {more : Bool} (hc : 0 < c) (hk : 0 < k) (he : uL ≤ e) (hr : 2 ^ 55 ≤ r) (h1 : pw c k (r * 2 ^ (e - uL).toNat) ≤ W) (h2 : W < pw c k ((r + 1) * 2 ^ (e - uL).toNat)) (hm : more = true ↔ pw c k (r * 2 ^ (e - uL).toNat) ≠ W) : stS s r e more = stR s c k W := by
 have E := Zc8 hc hk h1 h2 hm
 have a : am (2 * r + if more = true then 1 else 0) (e - 1) = (2 * r + if more = true then 1 else 0) * 2 ^ (e - uL).toNat := by
  unfold am uL
  rw [show e - 1 - lowE = e - (lowE + 1) by omega]
 unfold stS stR
 rw [a]
 generalize (e - uL).toNat = t at *
 have big : 2 ^ (t + 1 + 54) ≤ (2 * r + if more = true then 1 else 0) * 2 ^ t := by
  rw [show t + 1 + 54 = 55 + t by omega, zkb]
  exact zka _ Zo
 obtain ⟨x, y⟩ := ZfT s E big
 rw [x, y]
def WK (k v : Nat) (e : Int) : Nat := v * 2 ^ (e - k * uL).toNat
theorem Z57 (k r : Nat) : pw 1 k r = r ^ k := Zk6 _
theorem ZfU (u : Int) {k v n r : Nat} {e s E : Int} {lost : Bool} (hk : 0 < k) (hE : u ≤ E) (hs : e - s = k * E) (hn : n = scN v s) (hl : lost = scL v s) (hR : Rk 1 k n r) (hm : -s ≤ (k * (E - u).toNat : Nat)) :
  pw 1 k (r * 2 ^ (E - u).toNat) ≤ v * 2 ^ (e - k * u).toNat ∧ v * 2 ^ (e - k * u).toNat < pw 1 k ((r + 1) * 2 ^ (E - u).toNat) ∧ ((lost || decide (n ≠ pw 1 k r)) = true ↔ pw 1 k (r * 2 ^ (E - u).toNat) ≠ v * 2 ^ (e - k * u).toNat) := by
 obtain ⟨t, ht⟩ : ∃ t : Nat, (E - u).toNat = t := ⟨_, rfl⟩
 have eE : E = u + t := by omega
 have x : e - k * u = s + (k * t : Nat) := by
  have : (k : Int) * E = k * u + (k * t : Nat) := by rw [eE, Int.mul_add, zkE]
  omega
 rw [ht] at hm ⊢
 rw [Z6X, Z6X]
 obtain ⟨h1, h2⟩ := hR
 rw [x]
 by_cases c : 0 ≤ s
 ·have : v * 2 ^ (s + (k * t : Nat)).toNat = n * 2 ^ (k * t) := by
   rw [hn]; unfold scN; rw [if_pos c, zkc, ← zkb]; congr 2; omega
  have p := Z0b (k * t)
  rw [this]
  refine ⟨zka _ h1, zkx h2 p, ?_⟩
  rw [hl]
  unfold scL
  rw [if_pos c, Zkb, decide_eq_true_iff]
  exact not_congr ⟨fun e => by rw [e], fun e => (zkZ p e).symm⟩
 obtain ⟨m, em⟩ : ∃ m : Nat, -s = m := ⟨(-s).toNat, by omega⟩
 have em' : (-s).toNat = m := by omega
 obtain ⟨j, ej⟩ : ∃ j, k * t = m + j := ⟨k * t - m, by omega⟩
 have p := Z0b m
 have q := Z0b j
 have nd : n = v / 2 ^ m := by rw [hn]; unfold scN; rw [if_neg c, em']
 have ld : lost = decide (v % 2 ^ m ≠ 0) := by rw [hl]; unfold scL; rw [if_neg c, em']
 rw [show (s + (k * t : Nat)).toNat = j by omega, ej, zkb, ← zkc, ← zkc]
 have dm := zkF v (2 ^ m)
 have lm := zks v p
 rw [← nd] at dm
 have l1 : pw 1 k r * 2 ^ m ≤ v := by
  have := zka (2 ^ m) h1
  rw [zkl (2 ^ m) n] at dm
  omega
 have l2 : v < pw 1 k (r + 1) * 2 ^ m := by
  have := zka (2 ^ m) (show n + 1 ≤ pw 1 k (r + 1) from h2)
  rw [Nat.succ_mul] at this
  rw [zkl (2 ^ m) n] at dm
  omega
 refine ⟨zka _ l1, zkx l2 q, ?_⟩
 rw [ld, Zkd, decide_eq_true_iff, decide_eq_true_iff]
 have key : pw 1 k r * 2 ^ m = v ↔ v % 2 ^ m = 0 ∧ n = pw 1 k r := by
  rw [zkl (2 ^ m) n] at dm
  constructor
  ·intro h
   have : v % 2 ^ m = 0 := by rw [← h]; exact Nat.mul_mod_left _ _
   refine ⟨this, ?_⟩
   rw [this, zkB, ← h] at dm
   exact zkZ p dm
  rintro ⟨z, y⟩
  rw [z, y] at dm
  exact dm
 constructor
 ·intro h c
  have := key.1 (zkZ q c)
  rcases h with h | h
  ·exact h this.1
  exact h this.2
 intro h
 by_cases z : v % 2 ^ m = 0
 ·right; exact fun y => h (by rw [key.2 ⟨z, y⟩])
 exact .inl z
theorem Zc9 {k v n r : Nat} {e s E : Int} {lost : Bool} (hk : 0 < k) (hE : uL ≤ E) (hs : e - s = k * E) (hn : n = scN v s) (hl : lost = scL v s) (hR : Rk 1 k n r) (hm : -s ≤ (k * (E - uL).toNat : Nat)) :
  pw 1 k (r * 2 ^ (E - uL).toNat) ≤ WK k v e ∧ WK k v e < pw 1 k ((r + 1) * 2 ^ (E - uL).toNat) ∧ ((lost || decide (n ≠ pw 1 k r)) = true ↔ pw 1 k (r * 2 ^ (E - uL).toNat) ≠ WK k v e) := ZfU uL hk hE hs hn hl hR hm
theorem Z5M {P : Nat → Nat} {k a r : Nat} (hP : ∀ x, P x = pw 1 k x) (h : IsR P a r) : Rk 1 k a r := by
 refine ⟨by rw [← hP]; exact h.1, Nat.not_le.1 fun c => ?_⟩
 have := h.2 (r + 1) (by rw [hP]; exact c)
 omega
theorem pw3 (x : Nat) : x * x * x = pw 1 3 x := by rw [Z57, zkk, Nat.pow_two]
theorem pw2 (x : Nat) : x * x = pw 1 2 x := by rw [Z57, Nat.pow_two]
theorem Z92 {c k n r b : Nat} (hc : 0 < c) (hk : 0 < k) (h : Rk c k n r) (hb : pw c k (2 ^ b) ≤ n) : 2 ^ b ≤ r := (Z63 h).1 hb
theorem Z9W {v : Nat} {e kk : Int} (hkk : kk = 2 ∨ kk = 3) : e - scI e (kk * 64 - (bl v : Int)) kk = kk * rtE v e kk := by
 have := Z4A e (kk * 64 - (bl v : Int)) hkk
 unfold rtE
 rcases hkk with rfl | rfl <;> omega
theorem Z9X {v : Nat} {e kk : Int} {m : Nat} (v0 : v ≠ 0) (hkk : kk = 2 ∨ kk = 3) (hm : (m : Int) + 1 = kk * 64) : 2 ^ m ≤ rtN v e kk := by
 have s := Z4A e (kk * 64 - (bl v : Int)) hkk
 have b := Z8U v0
 unfold rtN scN
 generalize scI e (kk * 64 - (bl v : Int)) kk = i at *
 by_cases c : 0 ≤ i
 ·rw [if_pos c]
  refine zk2 ?_ (zka _ b.1)
  rw [← zkb]
  exact zkj Zd Zo
 rw [if_neg c, zkN (Z0b _), ← zkb]
 exact zk2 (zkj Zd Zo) b.1
theorem ZaQ {e : Int} (h : -20000 ≤ e) : uL ≤ e ∧ 10000 ≤ (e - uL).toNat := by unfold uL lowE; omega
theorem Zca (l : List Int) (e : Int) (k : Nat) (w : Wl l) (v0 : val l ≠ 0) (hb : bl (val l) ≤ 9000) (e0 : -9000 ≤ e) (e1 : e ≤ 9000) (hk : 2000000000000000000000 ≤ k) (s : Bool) : Z1d.f k s l e 3 37 = some (stR s 1 3 (WK 3 (val l) e)) := by
 obtain ⟨r, hi, hr⟩ := Z6W l e k w v0 hb e0 e1 hk
 have eb := Z6U (v := val l) (e := e) (.inr rfl) hb e0 e1
 obtain ⟨u1, u2⟩ := ZaQ eb.1
 have hR : Rk 1 3 (rtN (val l) e 3) r := Z5M pw3 hi
 have sb := Z4A e (3 * 64 - (bl (val l) : Int)) (.inr rfl)
 obtain ⟨a, b, c⟩ := Zc9 (k := 3) (v := val l) (e := e) Zd u1 (Z9W (.inr rfl)) rfl rfl hR (by show -(scI e (3 * 64 - (bl (val l) : Int)) 3) ≤ _; omega)
 have rb : 2 ^ 55 ≤ r := Z92 Zd Zd hR (zk2 (by rw [Z57, ← zkK]; exact zkj Zd Zd) (Z9X (m := 191) v0 (.inr rfl) Zd))
 have d : decide (rtN (val l) e 3 - r * r * r ≠ 0) = decide (rtN (val l) e 3 ≠ pw 1 3 r) := by
  have := hR.1
  rw [pw3, zko, decide_eq_true_iff, decide_eq_true_iff]; omega
 rw [hr, d]
 exact congrArg some (ZaP s Zd Zd u1 rb a b c)
theorem Z7P (l : List Int) (e : Int) (k : Nat) (w : Wl l) (v0 : val l ≠ 0) (hb : bl (val l) ≤ 9000) (e0 : -9000 ≤ e) (e1 : e ≤ 9000) (hk : 2000000000000000000000 ≤ k) (s : Bool) : Z1d.f k s l e 2 40 = some (stR s 1 2 (WK 2 (val l) e)) := by
 obtain ⟨r, hi, hr⟩ := Z5q l e k w v0 hb e0 e1 hk
 have eb := Z6U (v := val l) (e := e) (.inl rfl) hb e0 e1
 obtain ⟨u1, u2⟩ := ZaQ eb.1
 have hR : Rk 1 2 (rtN (val l) e 2) r := Z5M pw2 hi
 have sb := Z4A e (2 * 64 - (bl (val l) : Int)) (.inl rfl)
 obtain ⟨a, b, c⟩ := Zc9 (k := 2) (v := val l) (e := e) Zd u1 (Z9W (.inl rfl)) rfl rfl hR (by show -(scI e (2 * 64 - (bl (val l) : Int)) 2) ≤ _; omega)
 have rb : 2 ^ 55 ≤ r := Z92 Zd Zd hR (zk2 (by rw [Z57, ← zkK]; exact zkj Zd Zd) (Z9X (m := 127) v0 (.inl rfl) Zd))
 have d : decide (rtN (val l) e 2 - r * r ≠ 0) = decide (rtN (val l) e 2 ≠ pw 1 2 r) := by
  have := hR.1
  rw [pw2, zko, decide_eq_true_iff, decide_eq_true_iff]; omega
 rw [hr, d]
 exact congrArg some (ZaP s Zd Zd u1 rb a b c)
def aX (x : Int) : Nat := amc KK (x % 9223372036854775808).toNat
noncomputable def vX (x : Int) : Nat := od (Nb.Z04 x).toNat
noncomputable def xX (x : Int) : Int := Nb.Z0x x + (tz (Nb.Z04 x).toNat : Int)
theorem ZdP (k : Nat) : ∃ n : Nat, n = (lowE - k * uL).toNat := ⟨_, rfl⟩
noncomputable def CC (k : Nat) : Nat := (ZdP k).choose
theorem ZaR (k : Nat) (h : 2 ≤ k) : (CC k : Int) = lowE - k * uL := by
 have : (k : Int) * uL ≤ 2 * uL := Int.mul_le_mul_of_nonpos_right Zo (by unfold uL lowE; omega)
 have : 2 * uL ≤ lowE := by unfold uL lowE; omega
 have := (ZdP k).choose_spec
 unfold CC; omega
theorem ZaS (k v : Nat) {e : Int} (hk : 2 ≤ k) (h : lowE ≤ e) : WK k v e = am v e * 2 ^ CC k := by
 have c := ZaR k hk
 unfold WK am
 rw [zkc, ← zkb]
 congr 2
 omega
theorem Z64 {x : Int} (hx : Nb.W64 x) (f : Nb.ZT x) : am (vX x) (xX x) = aX x := by
 have eb := Nb.Z3M hx f
 unfold vX xX aX
 rw [Zdc (by unfold lowE; omega), Zc0 hx]
theorem Z65 {x : Int} (hx : Nb.W64 x) (f : Nb.ZT x) (z : x % 9223372036854775808 ≠ 0) : vX x ≠ 0 ∧ bl (vX x) ≤ 53 ∧ -1074 ≤ xX x ∧ xX x ≤ 1100 ∧ Wl (ofN (vX x)) := by
 have m := Nb.Z3l hx
 have eb := Nb.Z3M hx f
 have mz : (Nb.Z04 x).toNat ≠ 0 := fun c => z ((Z3g hx).1 Zo)
 have tl := Z6M mz
 have bm : bl (Nb.Z04 x).toNat ≤ 53 := by rw [Z0D, P53]; omega
 have bo : bl (od (Nb.Z04 x).toNat) ≤ 53 := zk2 (Z3L (Z5T _)) bm
 have lo : (ofN (od (Nb.Z04 x).toNat)).length ≤ 1 := Z2s (zkq (Z5T _) Zo)
 unfold vX xX
 exact ⟨Z5U mz, bo, by omega, by omega, Z4z Zo⟩
theorem Z58 {x : Int} (hx : Nb.W64 x) (f : Nb.ZT x) (z : x % 9223372036854775808 ≠ 0) : Z0c x = (Z1b x, ofN (vX x), xX x, 0) := Z3B hx f z
theorem Zcb {x : Int} (k : Nat) (hx : Nb.W64 x) (f : Nb.ZT x) (z : x % 9223372036854775808 ≠ 0) (hk : 2000000000000000000000 ≤ k) : Z1w.f k x = some ((stR (Z1b x) 1 3 (aX x * 2 ^ CC 3)).1, (stR (Z1b x) 1 3 (aX x * 2 ^ CC 3)).2, 0) := by
 obtain ⟨v0, vb, e0, e1, w⟩ := Z65 hx f z
 have r := Zca (ofN (vX x)) (xX x) k w (by rw [Ze]; exact v0) (by rw [Ze]; omega) Zo Zo hk (Z1b x)
 rw [Ze, ZaS 3 _ Zd (by unfold lowE; omega), Z64 hx f] at r
 unfold Z1w.f
 rw [Z1i x k hx Zo, Z4, Z58 hx f z, if_pos rfl, Nb.Z36 hx, Z4, if_neg (show ¬ Nb.am x = 0 from z), r, Z4]
theorem Zcc {x : Int} (k : Nat) (hx : Nb.W64 x) (f : Nb.ZT x) (z : x % 9223372036854775808 ≠ 0) (s : Z1b x = false) (hk : 2000000000000000000000 ≤ k) : Z1g.f k x = some ((stR false 1 2 (aX x * 2 ^ CC 2)).1, (stR false 1 2 (aX x * 2 ^ CC 2)).2, 0) := by
 obtain ⟨v0, vb, e0, e1, w⟩ := Z65 hx f z
 have r := Z7P (ofN (vX x)) (xX x) k w (by rw [Ze]; exact v0) (by rw [Ze]; omega) Zo Zo hk false
 rw [Ze, ZaS 2 _ Zd (by unfold lowE; omega), Z64 hx f] at r
 unfold Z1g.f
 rw [Z1i x k hx Zo, Z4, Z58 hx f z, if_pos rfl, Nb.Z36 hx, Z4, if_neg (show ¬ Nb.am x = 0 from z), s, if_neg (show ¬ (false = true) by decide), r, Z4]
noncomputable def RW (x : Int) : Nat := 2 ^ (-xX x - 2 * uL).toNat
theorem Zcd (u : Int) {v K r : Nat} {e E : Int} (v0 : v ≠ 0) (hE : u ≤ E) (h2 : -e - (K : Int) = 2 * E) (hR : Rk 1 2 (2 ^ K / v) r) :
  pw v 2 (r * 2 ^ (E - u).toNat) ≤ 2 ^ (-e - 2 * u).toNat ∧ 2 ^ (-e - 2 * u).toNat < pw v 2 ((r + 1) * 2 ^ (E - u).toNat) ∧
   ((decide (2 ^ K % v ≠ 0) || decide (2 ^ K / v ≠ pw 1 2 r)) = true ↔ pw v 2 (r * 2 ^ (E - u).toNat) ≠ 2 ^ (-e - 2 * u).toNat) := by
 have x : (-e - 2 * u).toNat = K + 2 * (E - u).toNat := by omega
 obtain ⟨h1, h2⟩ := hR
 rw [x, zkb, Z6X, Z6X]
 have p := Z0b (2 * (E - u).toNat)
 generalize 2 ^ (2 * (E - u).toNat) = P at *
 have dm := zkF (2 ^ K) v
 have lm := zks (2 ^ K) (zkJ v0)
 have c : ∀ s, pw v 2 s = v * pw 1 2 s := fun s => by rw [Z57]; rfl
 rw [c, c]
 generalize 2 ^ K = T at *
 generalize T / v = q at *
 generalize T % v = m at *
 have l1 : v * pw 1 2 r ≤ T := by
  have := zky v h1; omega
 have l2 : T < v * pw 1 2 (r + 1) := by
  have := zky v (show q + 1 ≤ pw 1 2 (r + 1) from h2)
  rw [zkp, Nat.mul_one] at this; omega
 refine ⟨zka _ l1, zkx l2 p, ?_⟩
 rw [Zkd, decide_eq_true_iff, decide_eq_true_iff]
 constructor
 ·intro h cc
  have e := zkZ p cc
  have g : v * pw 1 2 r ≤ v * q := zky v h1
  rcases h with h | h
  ·omega
  have : v * q = v * pw 1 2 r := by omega
  exact h (Nat.eq_of_mul_eq_mul_left (zkJ v0) this)
 intro h
 by_cases y : m = 0
 ·right; intro cc; apply h; rw [← cc, ← dm, y, zkB]
 exact .inl y
theorem ZeV {a b k : Nat} (h : 2 ^ a ≤ 2 ^ 92) (hk : 100000000000000000000000000000 ≤ k) (hb : b ≤ 1024) : 5 * 2 ^ a + b + 6000000 < k := by
 have : (2 : Nat) ^ 92 = 4951760157141521099596496896 := by decide
 omega
theorem Z9Y {x : Int} (k : Nat) (hx : Nb.W64 x) (f : Nb.ZT x) (z : x % 9223372036854775808 ≠ 0) (s : Z1b x = false) (hk : 100000000000000000000000000000 ≤ k) : Z0o.f (k + 1) x = some ((stR false (vX x) 2 (RW x)).1, (stR false (vX x) 2 (RW x)).2, 0) := by
 obtain ⟨v0, vb, e0, e1, w⟩ := Z65 hx f z
 unfold Z0o.f
 rw [Z1i x (k + 1) hx Zo, Z4, Z58 hx f z, if_pos rfl, Nb.Z36 hx, Z4, if_neg (show ¬ Nb.am x = 0 from z), s, if_neg (show ¬ (false = true) by decide)]
 unfold RW
 generalize vX x = v at *
 generalize xX x = e at *
 have vbig : v < big := Z0O.2 Zo
 have lv := Z0X vbig
 show ((Z2e.f (k + 1) (ofN v)).bind _) = _
 rw [Z6J (ofN v) (k + 1) (ZE _) Zo Zo, Ze, if_pos vbig, Z4]
 show (if Int.tmod (wrap64 (e + wrap64 (128 + ((bl v : Nat) : Int)))) 2 = 0 then Z0o.j0 (k + 1) (wrap64 (128 + ((bl v : Nat) : Int))) false (ofN v) e else Z0o.j0 (k + 1) (wrap64 (wrap64 (128 + ((bl v : Nat) : Int)) + 1)) false (ofN v) e) = _
 have w1 : wrap64 (128 + ((bl v : Nat) : Int)) = 128 + ((bl v : Nat) : Int) := by unfold wrap64; omega
 have w2 : wrap64 (e + (128 + ((bl v : Nat) : Int))) = e + (128 + ((bl v : Nat) : Int)) := by unfold wrap64; omega
 have w3 : wrap64 (128 + ((bl v : Nat) : Int) + 1) = ((129 + bl v : Nat) : Int) := by unfold wrap64; omega
 rw [w1, w2, w3]
 -- from the exponent on
 have J : ∀ K : Nat, 128 + bl v ≤ K → K ≤ 129 + bl v → (e + (K : Int)) % 2 = 0 → Z0o.j0 (k + 1) (K : Int) false (ofN v) e = some ((stR false v 2 (2 ^ (-e - 2 * uL).toNat)).1, (stR false v 2 (2 ^ (-e - 2 * uL).toNat)).2, 0) := fun K k0 k1 ev => by
  obtain ⟨E, hE⟩ : ∃ E : Int, -e - (K : Int) = 2 * E := ⟨(-e - K) / 2, by omega⟩
  have l1 : (ofN 1).length ≤ 1 := Z2s (v := 1) Zd
  have b1 : (1 : Nat) < big := Z3S Zd
  have bT : bl (2 ^ K) = K + 1 := by
   have := Z4s (n := 1) (m := K) Zd
   rw [Zk6, Z3F] at this; omega
  have T : 2 ^ K < big := Z0O.2 Zo
  have lT := Z0X T
  have bq : bl (2 ^ K / v) ≤ K + 1 := zk2 (Z3L (zkI _ _)) Zo
  have qbig : 2 ^ K / v < big := Z0O.2 Zo
  have lq := Z0X qbig
  have pq : 2 ^ ((bl (2 ^ K / v) + 1) / 2) ≤ 2 ^ 92 := zkj Zd Zo
  rw [Z0o.j0]
  show (Z2W.f k ((1 : Nat) : Int)).bind _ = _
  rw [Z8K 1 k Zd Zo, Z4, Z5I (ofN 1) _ k (ZE _) Zo Zo, Ze, Z4]
  have s1 : (Z4u 1 (K : Int)).1 = ofN (2 ^ K) := by
   unfold Z4u
   rw [if_pos b1, if_neg Zo, if_neg Zd, zk0, Z3F, if_pos Zo, Zk6]
  rw [s1, Zby (ofN (2 ^ K)) (ofN v) k (ZE _) (ZE _) Zo Zo Zo, Ze, Ze, Z4]
  have q1 : Z7k (2 ^ K) v = (ofN (2 ^ K / v), ofN (2 ^ K % v), 0) := by
   unfold Z7k
   rw [if_pos ⟨T, vbig⟩, if_neg v0]
  rw [q1]
  obtain ⟨r, hr, hi⟩ := (Z7m (ofN (2 ^ K / v)) k (ZE _) Zo (by rw [Ze]; exact ZeV pq hk lq)).1 (by rw [Ze]; exact qbig)
  rw [Ze] at hr hi
  have hR : Rk 1 2 (2 ^ K / v) r := Z5M pw2 hi
  have rq : r ≤ 2 ^ K / v := by
   have : r * r ≤ 2 ^ K / v := hi.1
   rcases Zk4 r with y | y
   ·omega
   exact zk2 (Nat.le_mul_of_pos_left r y) this
  have rb : bl r ≤ 60000 := zk2 (Z3L rq) Zo
  have rbig : 2 ^ 55 ≤ r := Z92 Zd Zd hR (by
   rw [Z57, ← zkK, zkN (zkJ v0)]
   have lv2 := Z2J v
   refine zk2 (zky _ (zkG lv2)) ?_
   rw [← zkb]
   exact zkj Zd Zo)
  obtain ⟨u1, u2⟩ := ZaQ (e := E) Zo
  obtain ⟨a, b, c⟩ := Zcd uL v0 u1 hE hR
  show ((Z23.f k (ofN (2 ^ K / v))).bind _) = _
  rw [hr, Z4]
  have e4 : wrap64 (Int.tdiv (wrap64 (wrap64 (-e) - (K : Int))) 2) = E := by
   rw [show wrap64 (-e) = -e by unfold wrap64; omega, show wrap64 (-e - (K : Int)) = 2 * E by unfold wrap64; omega, Int.mul_tdiv_cancel_left _ Zd]
   unfold wrap64; omega
  have d : decide (2 ^ K / v - r * r ≠ 0) = decide (2 ^ K / v ≠ pw 1 2 r) := by
   have := hR.1
   rw [pw2, zko, decide_eq_true_iff, decide_eq_true_iff]; omega
  rw [← d] at c
  show (if ((ofN (2 ^ K % v)).length : Int) > 0 then ((Z0I.f k false (ofN r) (wrap64 (Int.tdiv (wrap64 (wrap64 (-e) - (K : Int))) 2)) true).bind fun bt => some (bt.1, bt.2, 0)) else ((Z0I.f k false (ofN r) (wrap64 (Int.tdiv (wrap64 (wrap64 (-e) - (K : Int))) 2)) (decide (((ofN (2 ^ K / v - r * r)).length : Int) > 0))).bind fun bt => some (bt.1, bt.2, 0))) = _
  rw [e4, Z4N, Z44 false r E true k rb Zo Zo Zo, Z44 false r E _ k rb Zo Zo Zo, Z4, Z4, ← ZaP false (zkJ v0) Zd u1 rbig a b c]
  have g := Z4N (2 ^ K % v)
  by_cases y : 2 ^ K % v = 0
  ·rw [y] at g ⊢
   rw [if_neg (by rw [decide_eq_decide] at g; rw [g]; exact fun h => h rfl), show decide ((0 : Nat) ≠ 0) = false by decide, Zkb]
  rw [if_pos (by rw [decide_eq_decide] at g; rw [g]; exact y), show decide (2 ^ K % v ≠ 0) = true from decide_eq_true y, Bool.true_or]
 by_cases ev : Int.tmod (e + (128 + ((bl v : Nat) : Int))) 2 = 0
 ·rw [if_pos ev]
  have := J (128 + bl v) Zo Zo (by have := Z4I.1 ev; omega)
  rw [← this]; congr 1
 rw [if_neg ev]
 have h : ¬ (e + (128 + ((bl v : Nat) : Int))) % 2 = 0 := fun c => ev (Z4I.2 c)
 exact J (129 + bl v) Zo Zo Zo
noncomputable def HW (x y : Int) : Nat := (sqV x + sqV y).natAbs * 2 ^ CC 2
theorem ZeW {x y : Int} (k : Nat) (hx : Nb.W64 x) (hy : Nb.W64 y) (fx : Nb.ZT x) (fy : Nb.ZT y) (hk : 2000000000000000000000 ≤ k) :
  Z0C.f (k + 1) x y = if sqV x + sqV y = 0 then some (0, 0, 0) else some ((stR false 1 2 (HW x y)).1, (stR false 1 2 (HW x y)).2, 0) := by
 obtain ⟨U, ub, hU⟩ := Z55 hx fx
 obtain ⟨V, vb, hV⟩ := Z55 hy fy
 have hs : sqV x + sqV y = ((U + V : Nat) : Int) * 2 ^ JJ := by rw [hU, hV, ← Int.add_mul, zkL]
 have sb : bl (U + V) ≤ 4201 := Z90 ub vb
 rw [Z7O k hx hy fx fy Zo]
 unfold HW
 generalize sqV x + sqV y = Z at *
 generalize U + V = M at *
 obtain ⟨r1, r2, r3⟩ := Z45 hs (by rw [zkQ]; omega)
 have e : cz Z lowE = cf false M (-2148) := by rw [Z9S hs, Z5V]; rfl
 have cv := Z82 Z
 rw [ZaN] at cv
 unfold hyC
 rw [Z91 _ _ _ k r2 Zo, Z4, if_pos r1]
 by_cases z : val (cz Z lowE).2.1 = 0
 ·have : Z = 0 := by rw [← cv, z, Z4m, Z2N]
  rw [if_pos (decide_eq_true z), if_pos this]
 have z2 : M ≠ 0 := by
  intro c
  apply z
  rw [e, c, Z1X]
  exact Z2Y
 have t := Z6M z2
 have v : val (cz Z lowE).2.1 = od M := by rw [e, ZbQ]
 have ex : (cz Z lowE).2.2 = -2148 + (tz M : Int) := by rw [e, Z2K z2]
 have ab : am (val (cz Z lowE).2.1) (cz Z lowE).2.2 = Z.natAbs := by
  have := congrArg Int.natAbs cv
  rw [Z37] at this; exact this
 have r := Z7P (cz Z lowE).2.1 (cz Z lowE).2.2 k r2 z (by rw [v]; exact zk2 (Z3L (Z5T _)) Zo) (by rw [ex]; omega) (by rw [ex]; omega) hk (cz Z lowE).1
 have sgn : (cz Z lowE).1 = false := by rw [e, Z2K z2]
 rw [ZaS 2 _ Zd (by rw [ex]; unfold lowE; omega), ab] at r
 have z0 : Z ≠ 0 := fun c => Z43 z (cz Z lowE).2.2 (by rw [ab, c]; rfl)
 rw [if_neg (by rw [decide_eq_true_iff]; exact z), if_neg z0, r, Z4, sgn]
def nor (x : Int) : Prop := 1 ≤ Nb.ex x ∧ Nb.ex x ≤ 2046
theorem Zgr : 60 ≤ KK := by have := Z3E; unfold lowE at this; omega
theorem g3 : (KK + 53) * 3 ≤ 52 + KK + CC 3 ∧ KK + 2098 + CC 3 ≤ (KK + 1415) * 3 := by
 have c := ZaR 3 Zd
 have k := Z3E
 have u : uL = lowE + 1 := rfl
 generalize CC 3 = C at *
 generalize KK = K at *
 generalize uL = U at *
 generalize lowE = L at *
 omega
theorem Zce {x : Int} (hx : Nb.W64 x) (f : Nb.ZT x) : (sqV x).natAbs * 2 ^ CC 2 * 4 = aX x * aX x ∧ 0 ≤ sqV x := by
 by_cases z : x % 9223372036854775808 = 0
 ·have m0 : Nb.Z04 x = 0 := (Z3g hx).2 z
  have e : sqV x = 0 := by
   unfold sqV Z4y Z0c
   rw [if_pos f, m0]
   show Vz (sg (cf (Z1b x) 0 (Nb.Z0x x)).1 (val (cf (Z1b x) 0 (Nb.Z0x x)).2.1) * _) _ = 0
   rw [Z1X]
   show Vz (sg false (val []) * sg false (val [])) (0 + 0) = 0
   rw [Z2Y, Z2N, Int.mul_zero]; exact Z3A _
  have a : aX x = 0 := by unfold aX; rw [z]; exact Z6k _
  rw [e, a]; exact ⟨by simp, Int.le_refl _⟩
 obtain ⟨v0, vb, e0, e1, w⟩ := Z65 hx f z
 have am := Z64 hx f
 have e : sqV x = (((vX x * vX x) * 2 ^ (xX x + xX x - lowE).toNat : Nat) : Int) := by
  unfold sqV Z4y
  rw [Z58 hx f z]
  show Vz (sg (Z1b x) (val (ofN (vX x))) * sg (Z1b x) (val (ofN (vX x)))) (xX x + xX x) = _
  rw [Ze, Z86]
  unfold Vz
  rw [zkE (vX x * vX x), Z4k]
 have c := ZaR 2 Zd
 unfold uL at c
 have small : lowE ≤ -100000 := by unfold lowE; omega
 rw [e, zkQ, ← am]
 refine ⟨?_, zk1 _⟩
 unfold Nf.am
 have p4 : (4 : Nat) = 2 ^ 2 := by decide
 rw [p4, zkc, zkc, ← zkb, ← zkb, Nat.mul_mul_mul_comm, ← zkb]
 congr 2
 omega
theorem Zgs {x y : Int} (hx : Nb.W64 x) (hy : Nb.W64 y) (fx : Nb.ZT x) (fy : Nb.ZT y) : HW x y * 4 = aX x * aX x + aX y * aX y ∧ (sqV x + sqV y = 0 ↔ aX x = 0 ∧ aX y = 0) := by
 obtain ⟨a, a0⟩ := Zce hx fx
 obtain ⟨b, b0⟩ := Zce hy fy
 have p := Z0b (CC 2)
 refine ⟨?_, ?_⟩
 ·unfold HW
  rw [show (sqV x + sqV y).natAbs = (sqV x).natAbs + (sqV y).natAbs by omega, zkH, zkH, a, b]
 have sq : ∀ (Z : Int) (n : Nat), Z.natAbs * 2 ^ CC 2 * 4 = n * n → (Z = 0 ↔ n = 0) := fun Z n h => by
  constructor
  ·rintro rfl
   have : n * n = 0 := by rw [← h]; simp
   exact (Zk5.1 this).elim id id
  rintro rfl
  have : Z.natAbs * 2 ^ CC 2 = 0 := by omega
  rcases Zk5.1 this with h | h <;> omega
 have s1 := sq _ _ a
 have s2 := sq _ _ b
 rw [← s1, ← s2]
 omega
theorem Z9Z {x : Int} (k : Nat) (hx : Nb.W64 x) (f : ¬ Nb.ZT x) (hk : 2000000000000000000000 ≤ k) : Z1w.f k x = some (0, 0, 5) := by
 unfold Z1w.f
 rw [Z1i x k hx Zo, Z4, Z54 f, if_neg Zd]
theorem Zcf {x : Int} (k : Nat) (hx : Nb.W64 x) (f : Nb.ZT x) (z : x % 9223372036854775808 = 0) (hk : 2000000000000000000000 ≤ k) : Z1w.f k x = some (x, 0, 0) := by
 unfold Z1w.f
 rw [Z1i x k hx Zo, Z4, if_pos (Z4n f), Nb.Z36 hx, Z4, if_pos (show Nb.am x = 0 from z)]
theorem Za0 {x : Int} (k : Nat) (hx : Nb.W64 x) (f : ¬ Nb.ZT x) (hk : 2000000000000000000000 ≤ k) : Z1g.f k x = some (0, 0, 5) := by
 unfold Z1g.f
 rw [Z1i x k hx Zo, Z4, Z54 f, if_neg Zd]
theorem Zcg {x : Int} (k : Nat) (hx : Nb.W64 x) (f : Nb.ZT x) (z : x % 9223372036854775808 = 0) (hk : 2000000000000000000000 ≤ k) : Z1g.f k x = some (x, 0, 0) := by
 unfold Z1g.f
 rw [Z1i x k hx Zo, Z4, if_pos (Z4n f), Nb.Z36 hx, Z4, if_pos (show Nb.am x = 0 from z)]
theorem Z93 {x : Int} (k : Nat) (hx : Nb.W64 x) (f : Nb.ZT x) (z : x % 9223372036854775808 ≠ 0) (s : Z1b x = true) (hk : 2000000000000000000000 ≤ k) : Z1g.f k x = some (0, 0, 5) := by
 unfold Z1g.f
 rw [Z1i x k hx Zo, Z4, Z58 hx f z, if_pos rfl, Nb.Z36 hx, Z4, if_neg (show ¬ Nb.am x = 0 from z), s, if_pos rfl]
theorem Z94 {x : Int} (k : Nat) (hx : Nb.W64 x) (h : ¬ (Nb.ZT x ∧ x % 9223372036854775808 ≠ 0 ∧ Z1b x = false)) (hk : 2000000000000000000000 ≤ k) : Z0o.f k x = some (0, 0, 5) := by
 unfold Z0o.f
 rw [Z1i x k hx Zo, Z4]
 by_cases f : Nb.ZT x
 ·rw [if_pos (Z4n f), Nb.Z36 hx, Z4]
  by_cases z : x % 9223372036854775808 = 0
  ·rw [if_pos (show Nb.am x = 0 from z)]
  rw [if_neg (show ¬ Nb.am x = 0 from z), Z58 hx f z]
  have s : Z1b x = true := by
   cases q : Z1b x with
   | true => rfl
   | false => exact absurd ⟨f, z, q⟩ h
  rw [if_pos s]
 rw [Z54 f, if_neg Zd]
theorem Z6Y {x : Int} (hx : Nb.W64 x) (f : Nb.ZT x) : Nb.pl x = Nb.pl (nbZ (vW x)) := by
 rw [(ZeO hx f).2]
 by_cases z : x % 9223372036854775808 = 0
 ·rw [if_pos z]
  obtain ⟨w0, w1⟩ := hx
  unfold Nb.pl
  rw [if_pos (show (0 : Int) < 9223372036854775808 by decide)]
  split
  ·omega
  rw [z]; rfl
 rw [if_neg z]
theorem Z4B (x : Int) : (vW x).natAbs = aX x := by unfold vW aX; rw [Z37]
theorem ZaT {x : Int} (z : aX x ≠ 0) : decide (vW x < 0) = Z1b x := by unfold vW; exact ZaO _ z
theorem ZaU {x : Int} (z : x % 9223372036854775808 ≠ 0) (hx : Nb.W64 x) (f : Nb.ZT x) : aX x ≠ 0 := by
 obtain ⟨v0, _⟩ := Z65 hx f z
 rw [← Z64 hx f]; exact Z43 v0 _
theorem ZfV {x : Int} (z : x % 9223372036854775808 = 0) : aX x = 0 := by unfold aX; rw [z]; exact Z6k _
def sgf (F : Nat → Nat) (Z : Int) : Int := sg (decide (Z < 0)) (F Z.natAbs)
theorem Z95 {F : Nat → Nat} (hF : ∀ {a b}, a ≤ b → F a ≤ F b) {Z0 Z1 : Int} (h : Z0 ≤ Z1) : sgf F Z0 ≤ sgf F Z1 := Z9P F hF h
theorem Z6q {c k : Nat} (hc : 0 < c) (hk : 0 < k) : stA c k 0 = 0 := by
 have := Z5L (c := c) (k := k) (r := 0) hc hk
 rw [show pw c k 0 = 0 by unfold pw; rw [Nat.zero_pow hk, Zk3]] at this
 exact this
noncomputable def cbF (A : Nat) : Nat := stA 1 3 (A * 2 ^ CC 3)
noncomputable def sqF (A : Nat) : Nat := stA 1 2 (A * 2 ^ CC 2)
theorem Zdr {a b : Nat} (h : a ≤ b) : cbF a ≤ cbF b := Z5r Zd Zd (zka _ h)
theorem Zds {a b : Nat} (h : a ≤ b) : sqF a ≤ sqF b := Z5r Zd Zd (zka _ h)
theorem Za1 {x b g : Int} (k : Nat) (hx : Nb.W64 x) (hk : 2000000000000000000000 ≤ k) (h : Z1w.f k x = some (b, g, 0)) : Nb.W64 b ∧ Nb.ZT x ∧ Nb.pl b = Nb.pl (nbZ (sgf cbF (vW x))) := by
 by_cases f : Nb.ZT x
 ·by_cases z : x % 9223372036854775808 = 0
  ·rw [Zcf k hx f z hk] at h
   obtain rfl : x = b := congrArg Prod.fst (zk4 h)
   refine ⟨hx, f, ?_⟩
   have v0 : vW x = 0 := by have := Z4B x; rw [ZfV z] at this; omega
   rw [Z6Y hx f, v0]
   unfold sgf cbF
   rw [show (0 : Int).natAbs = 0 from rfl, zkC, Z6q Zd Zd, Z2N]
  rw [Zcb k hx f z hk] at h
  obtain rfl : (stR (Z1b x) 1 3 (aX x * 2 ^ CC 3)).1 = b := congrArg Prod.fst (zk4 h)
  refine ⟨Z5o _, f, ?_⟩
  unfold sgf cbF
  rw [Z4B, ZaT (ZaU z hx f)]; rfl
 rw [Z9Z k hx f hk] at h
 exact absurd (congrArg (fun t => t.2.2) (zk4 h)) (show ¬ (5 : Int) = 0 by decide)
theorem Za2 {x b g : Int} (k : Nat) (hx : Nb.W64 x) (hk : 2000000000000000000000 ≤ k) (h : Z1g.f k x = some (b, g, 0)) : Nb.W64 b ∧ Nb.ZT x ∧ 0 ≤ vW x ∧ Nb.pl b = Nb.pl (nbZ (sgf sqF (vW x))) := by
 by_cases f : Nb.ZT x
 ·by_cases z : x % 9223372036854775808 = 0
  ·rw [Zcg k hx f z hk] at h
   obtain rfl : x = b := congrArg Prod.fst (zk4 h)
   have v0 : vW x = 0 := by have := Z4B x; rw [ZfV z] at this; omega
   refine ⟨hx, f, by omega, ?_⟩
   rw [Z6Y hx f, v0]
   unfold sgf sqF
   rw [show (0 : Int).natAbs = 0 from rfl, zkC, Z6q Zd Zd, Z2N]
  cases s : Z1b x with
  | true =>
   rw [Z93 k hx f z s hk] at h
   exact absurd (congrArg (fun t => t.2.2) (zk4 h)) (show ¬ (5 : Int) = 0 by decide)
  | false =>
   rw [Zcc k hx f z s hk] at h
   obtain rfl : (stR false 1 2 (aX x * 2 ^ CC 2)).1 = b := congrArg Prod.fst (zk4 h)
   have sv := ZaT (ZaU z hx f)
   rw [s, decide_eq_false_iff_not] at sv
   refine ⟨Z5o _, f, by omega, ?_⟩
   unfold sgf sqF
   rw [Z4B, decide_eq_false sv]; rfl
 rw [Za0 k hx f hk] at h
 exact absurd (congrArg (fun t => t.2.2) (zk4 h)) (show ¬ (5 : Int) = 0 by decide)
theorem Zch {c c' k W W' : Nat} (hc : 0 < c) (hc' : 0 < c') (hk : 0 < k) (h : W' * c ≤ W * c') : stA c' k W' ≤ stA c k W := by
 obtain ⟨r, hr⟩ := Z2Z c k W hc hk
 obtain ⟨s, hs⟩ := Z2Z c' k W' hc' hk
 rw [Z56 hc hk hr, Z56 hc' hk hs]
 have e : ∀ t, pw c' k t * c = pw c k t * c' := fun t => by unfold pw; rw [zkX, zkl c' c, zkX]
 have l : s ≤ r := (Z63 hr).1 (by
  refine Nat.le_of_mul_le_mul_right ?_ hc'
  rw [← e]
  exact zk2 (zka c hs.1) h)
 by_cases q : s = r
 ·subst q
  by_cases u : pw c k s = W
  ·have : pw c' k s = W' := by
    refine Nat.le_antisymm hs.1 (Nat.le_of_mul_le_mul_right ?_ hc)
    rw [e, u]; exact h
   rw [if_pos u, if_pos this]; exact zk6 _
  rw [if_neg u]
  split <;> omega
 split <;> omega
theorem Z96 {x b g : Int} (k : Nat) (hx : Nb.W64 x) (hk : 100000000000000000000000000000 ≤ k) (h : Z0o.f (k + 1) x = some (b, g, 0)) : Nb.W64 b ∧ Nb.ZT x ∧ 0 < vW x ∧ vX x ≠ 0 ∧ b = nbZ (stA (vX x) 2 (RW x) : Nat) ∧ -1074 ≤ xX x ∧ xX x ≤ 1100 := by
 by_cases f : Nb.ZT x ∧ x % 9223372036854775808 ≠ 0 ∧ Z1b x = false
 ·obtain ⟨f, z, s⟩ := f
  rw [Z9Y k hx f z s hk] at h
  obtain rfl : (stR false (vX x) 2 (RW x)).1 = b := congrArg Prod.fst (zk4 h)
  obtain ⟨v0, vb, e0, e1, w⟩ := Z65 hx f z
  have a0 := ZaU z hx f
  have sv := ZaT a0
  have ab := Z4B x
  rw [s, decide_eq_false_iff_not] at sv
  exact ⟨Z5o _, f, by omega, v0, rfl, e0, e1⟩
 rw [Z94 (k + 1) hx f Zo] at h
 exact absurd (congrArg (fun t => t.2.2) (zk4 h)) (show ¬ (5 : Int) = 0 by decide)
theorem Zci {v w p q M : Nat} (hp : p ≤ M) (hq : q ≤ M) (h : v * 2 ^ p ≤ w * 2 ^ q) : 2 ^ (M - q) * v ≤ 2 ^ (M - p) * w := by
 have P := Z0b (p + q)
 refine Nat.le_of_mul_le_mul_right ?_ P
 have e1 : 2 ^ (M - q) * v * 2 ^ (p + q) = v * 2 ^ p * 2 ^ M := by
  rw [show M = (M - q) + q by omega, zkb 2 (M - q) q, zkb, show (M - q) + q - q = M - q by omega, zkl (2 ^ (M - q)) v, zkc, zkc, zkT (2 ^ (M - q))]
 have e2 : 2 ^ (M - p) * w * 2 ^ (p + q) = w * 2 ^ q * 2 ^ M := by
  rw [show M = (M - p) + p by omega, zkb 2 (M - p) p, zkb, show (M - p) + p - p = M - p by omega, zkl (2 ^ (M - p)) w, zkc, zkc, zkl (2 ^ p) (2 ^ q), zkT (2 ^ (M - p))]
 rw [e1, e2]
 exact zka _ h
theorem Zdt {x y : Int} (hx : Nb.W64 x) (hy : Nb.W64 y) (fx : Nb.ZT x) (fy : Nb.ZT y) (e0 : -1074 ≤ xX x) (e1 : xX x ≤ 1100) (g0 : -1074 ≤ xX y) (g1 : xX y ≤ 1100) (h : aX x ≤ aX y) : RW y * vX x ≤ RW x * vX y := by
 rw [← Z64 hx fx, ← Z64 hy fy] at h
 unfold RW
 unfold Nf.am at h
 have s : lowE ≤ -100000 := by unfold lowE; omega
 have u : uL = lowE + 1 := rfl
 obtain ⟨M, hM⟩ : ∃ M : Nat, (M : Int) = -lowE - 2 * uL := ⟨(-lowE - 2 * uL).toNat, by omega⟩
 have a : (-xX y - 2 * uL).toNat = M - (xX y - lowE).toNat := by omega
 have b : (-xX x - 2 * uL).toNat = M - (xX x - lowE).toNat := by omega
 rw [a, b]
 exact Zci Zo Zo h
theorem Z66 (x : Int) : ∃ q, aX x = 2 * q := by
 unfold aX amc
 refine ⟨mC (x % 9223372036854775808).toNat * 2 ^ (KK + tC (x % 9223372036854775808).toNat - 1), ?_⟩
 have k := Zgr
 rw [zkT, zkl 2, ← zkk]
 congr 2
 omega
theorem sq2 (p : Nat) : 2 * p * (2 * p) = 4 * (p * p) := by rw [Nat.mul_mul_mul_comm]
theorem Zcj {W a b : Nat} (h : W * 4 = a * a + b * b) (ha : ∃ q, a = 2 * q) : a ≤ stA 1 2 W := by
 obtain ⟨q, rfl⟩ := ha
 have e := Z5L (c := 1) (k := 2) (r := q) Zd Zd
 rw [sq2] at h
 rw [← e]
 refine Z5r Zd Zd ?_
 rw [← pw2]; omega
theorem ZfW {W a b : Nat} (h : W * 4 = a * a + b * b) (ha : ∃ q, a = 2 * q) (hb : ∃ q, b = 2 * q) : stA 1 2 W ≤ a + b := by
 obtain ⟨p, rfl⟩ := ha
 obtain ⟨q, rfl⟩ := hb
 have e := Z5L (c := 1) (k := 2) (r := p + q) Zd Zd
 rw [sq2, sq2] at h
 rw [show 2 * p + 2 * q = 2 * (p + q) by omega, ← e]
 refine Z5r Zd Zd ?_
 rw [← pw2, zkH, zkp, zkp]; omega
theorem Zck {x y : Int} (k : Nat) (hx : Nb.W64 x) (hy : Nb.W64 y) (fx : Nb.ZT x) (fy : Nb.ZT y) (hk : 2000000000000000000000 ≤ k) : ∃ fl, Z0C.f (k + 1) x y = some (nbZ ((stA 1 2 (HW x y) : Nat) : Int), fl, 0) := by
 rw [ZeW k hx hy fx fy hk]
 by_cases z : sqV x + sqV y = 0
 ·rw [if_pos z]
  refine ⟨0, ?_⟩
  unfold HW
  rw [z, show (0 : Int).natAbs = 0 from rfl, zkC, Z6q Zd Zd]
  show _ = some (nbZ 0, _, _)
  rw [Z9Q]
 rw [if_neg z]; exact ⟨_, rfl⟩
theorem Zcl {x : Int} (hx : Nb.W64 x) (f : Nb.ZT x) : Nb.W64 (Nb.am x) ∧ Nb.ZT (Nb.am x) ∧ vW (Nb.am x) = ((aX x : Nat) : Int) := by
 obtain ⟨w0, w1⟩ := hx
 have e : Nb.am x % 9223372036854775808 = x % 9223372036854775808 := by unfold Nb.am; omega
 refine ⟨by unfold Nb.W64 Nb.am; omega, by unfold Nb.ZT at *; rw [e]; exact f, ?_⟩
 unfold vW aX
 rw [e, show Z1b (Nb.am x) = false from decide_eq_false (by unfold Nb.am; omega)]; rfl
theorem Za3 {x : Int} (hx : Nb.W64 x) (f : Nb.ZT x) : ∃ U : Nat, bl U ≤ 2200 ∧ aX x = U * 2 ^ KK := by
 have hc : (x % 9223372036854775808).toNat < 9218868437227405312 := by unfold Nb.ZT at f; omega
 unfold aX amc
 generalize (x % 9223372036854775808).toNat = c at *
 obtain ⟨p, q, s⟩ := Z9o c
 refine ⟨mC c * 2 ^ tC c, ?_, ?_⟩
 ·have r : ∀ n, 2098 ≤ n → bl (mC c * 2 ^ tC c) ≤ n := fun n hn => by
   rw [Z0D]
   refine zkn (zkx q (Z0b _)) ?_
   rw [← P53, ← zkb]
   exact zkj Zd Zo
  exact r 2200 Zd
 rw [zkc, ← zkb, zkO]
theorem Zdu {x y : Int} (k : Nat) (hx : Nb.W64 x) (hy : Nb.W64 y) (fx : Nb.ZT x) (fy : Nb.ZT y) (hk : 200000000000000000 ≤ k) :
  ∃ fl, Z13.f k (cz ((aX x + aX y : Nat) : Int) lowE).1 (cz ((aX x + aX y : Nat) : Int) lowE).2.1 (cz ((aX x + aX y : Nat) : Int) lowE).2.2 = some (nbZ ((aX x + aX y : Nat) : Int), fl, 0) := by
 obtain ⟨U, ub, hU⟩ := Za3 hx fx
 obtain ⟨V, vb, hV⟩ := Za3 hy fy
 have e : cz ((aX x + aX y : Nat) : Int) lowE = cz ((U + V : Nat) : Int) (-1074) := by
  rw [hU, hV, ← zkH, zkE, Z4k, Z8O, show lowE + (KK : Int) = -1074 by have := Z3E; omega]
 have sb : bl (U + V) ≤ 2201 := Z90 ub vb
 obtain ⟨r1, r2⟩ := Z6T (V := ((U + V : Nat) : Int)) (e := -1074) (n := 2201) (by rw [zkQ]; exact sb) Zd Zd Zd
 rw [← e] at r1 r2
 have v := Z82 ((aX x + aX y : Nat) : Int)
 rw [Z7s _ _ _ k r2 Zo]
 unfold Z6S
 rw [if_pos r1, v]
 exact ⟨_, rfl⟩
theorem Z67 {a b Z0 Z1 : Int} (ha : Nb.W64 a) (hb : Nb.W64 b) (pa : Nb.pl a = Nb.pl (nbZ Z0)) (pb : Nb.pl b = Nb.pl (nbZ Z1)) (h : Z0 ≤ Z1) : Z0A.f b a = some false := by
 rw [Nb.Z5P hb ha, decide_eq_false]
 intro c
 have := ZeN h
 have := c.2.2
 omega
theorem Z97 {x : Int} (k : Nat) (hx : Nb.W64 x) (hk : 2000000000000000000000 ≤ k) : ∃ a f e, Z1w.f k x = some (a, f, e) := by
 by_cases f : Nb.ZT x
 ·by_cases z : x % 9223372036854775808 = 0
  ·exact ⟨_, _, _, Zcf k hx f z hk⟩
  exact ⟨_, _, _, Zcb k hx f z hk⟩
 exact ⟨_, _, _, Z9Z k hx f hk⟩
theorem Z98 {x : Int} (k : Nat) (hx : Nb.W64 x) (hk : 2000000000000000000000 ≤ k) : ∃ a f e, Z1g.f k x = some (a, f, e) := by
 by_cases f : Nb.ZT x
 ·by_cases z : x % 9223372036854775808 = 0
  ·exact ⟨_, _, _, Zcg k hx f z hk⟩
  cases s : Z1b x with
  | true => exact ⟨_, _, _, Z93 k hx f z s hk⟩
  | false => exact ⟨_, _, _, Zcc k hx f z s hk⟩
 exact ⟨_, _, _, Za0 k hx f hk⟩
theorem Z7Q {x : Int} (k : Nat) (hx : Nb.W64 x) (hk : 100000000000000000000000000000 ≤ k) : ∃ a f e, Z0o.f (k + 1) x = some (a, f, e) := by
 by_cases h : Nb.ZT x ∧ x % 9223372036854775808 ≠ 0 ∧ Z1b x = false
 ·exact ⟨_, _, _, Z9Y k hx h.1 h.2.1 h.2.2 hk⟩
 exact ⟨_, _, _, Z94 (k + 1) hx h Zo⟩
end Go.Proofs.YtjnfipkbgmdpaaaGreatDoor.Nf

namespace Go.Proofs.YtjnfipkbgmdpaaaGreatDoor.Pure
open RowKit YtjnfipkbgmdpaaaGreatDoor.PAll YtjnfipkbgmdpaaaGreatDoorW.PrintWords YtjnfipkbgmdpaaaGreatDoorW.PrintLast YtjnfipkbgmdpaaaGreatDoorW.PrintMore
set_option linter.unusedVariables false
set_option linter.unusedSimpArgs false
open YtjnfipkbgmdpaaaGreatDoor.Nm YtjnfipkbgmdpaaaGreatDoor.Nf
theorem Za4 {x y : Int} (k : Nat) (hx : Nb.W64 x) (hy : Nb.W64 y) (hk : 100000000000000000000000000000 ≤ k) : Zg.j2 (k + 2) x y = some true := by
 by_cases h : Nb.ZT x ∧ Nb.ZT y
 ·obtain ⟨fx, fy⟩ := h
  obtain ⟨fl, E⟩ := Zck k hx hy fx fy Zo
  obtain ⟨H1, H2⟩ := Zgs hx hy fx fy
  obtain ⟨u1, u2, u3⟩ := Zcl hx fx
  obtain ⟨v1, v2, v3⟩ := Zcl hy fy
  have pa := Z6Y u1 u2
  have pb := Z6Y v1 v2
  rw [u3] at pa
  rw [v3] at pb
  have l1 := Z67 u1 (Z5o _) pa rfl (Zkf.2 (Zcj H1 (Z66 x)))
  have l2 := Z67 v1 (Z5o _) pb rfl (Zkf.2 (Zcj (by rw [H1, zkO]) (Z66 y)))
  obtain ⟨fl2, S⟩ := Zdu k hx hy fx fy Zo
  have l3 := Z67 (Z5o ((stA 1 2 (HW x y) : Nat) : Int)) (Z5o ((aX x + aX y : Nat) : Int)) rfl rfl (Zkf.2 (ZfW H1 (Z66 x) (Z66 y)))
  have r1 := Z7t u1 u2
  have r2 := Z7t v1 v2
  have d1 := Z60 u1 u2
  have d2 := Z60 v1 v2
  rw [u3] at d1
  rw [v3] at d2
  rw [Zg.j2, E, Z4, if_pos rfl, Nb.Z36 hx, Z4, Nb.Z36 hy, Z4]
  show (Z0A.f (nbZ ((stA 1 2 (HW x y) : Nat) : Int)) (Nb.am x)).bind _ = _
  rw [l1, Z4, if_neg Zd, l2, Z4, Zg.j3, if_neg Zd, Z8T _ k u1 Zo, Z4, Z8T _ k v1 Zo, Z4, Zdb _ _ _ _ _ _ k r1.t r2.t Zo, Z4, d1, d2, ← zkL, S, Z4, if_pos rfl]
  show (Z0A.f (nbZ ((aX x + aX y : Nat) : Int)) (nbZ ((stA 1 2 (HW x y) : Nat) : Int))).bind _ = _
  rw [l3, Z4]; rfl
 rw [Zg.j2, Zdn k hx hy h Zo, Z4, if_neg Zd]
theorem vlt {x y : Int} (hx : Nb.W64 x) (hy : Nb.W64 y) (fx : Nb.ZT x) (fy : Nb.ZT y) (h : Nb.pl x < Nb.pl y) : vW x ≤ vW y := by
 have := (ZeG hx hy fx fy).2 h
 rw [Z60 hx fx, Z60 hy fy] at this
 omega
theorem ZeX {x y : Int} (k : Nat) (hx : Nb.W64 x) (hy : Nb.W64 y) (h : Nb.pl x < Nb.pl y) (hk : 100000000000000000000000000000 ≤ k) : Zg.j1 (k + 3) x y false = some true := by
 have J := Za4 k hx hy hk
 obtain ⟨a, f, e, E⟩ := Z7Q (k + 1) hx Zo
 obtain ⟨b, g, e', E'⟩ := Z7Q (k + 1) hy Zo
 rw [Zg.j1, if_neg Zd, E, Z4, E', Z4]
 show (if e = 0 then (if e' = 0 then (Z0A.f a b).bind _ else Zg.j2 (k + 2) x y) else Zg.j2 (k + 2) x y) = _
 by_cases c : e = 0
 ·rw [if_pos c]
  by_cases d : e' = 0
  ·subst c; subst d
   obtain ⟨wa, fx, vx, x0, ea, x1, x2⟩ := Z96 (k + 1) hx Zo E
   obtain ⟨wb, fy, vy, y0, eb, y1, y2⟩ := Z96 (k + 1) hy Zo E'
   have l := vlt hx hy fx fy h
   have ax : aX x ≤ aX y := by rw [← Z4B, ← Z4B]; omega
   have s := Zch (k := 2) (zkJ x0) (zkJ y0) Zd (Zdt hx hy fx fy x1 x2 y1 y2 ax)
   rw [if_pos rfl, ea, eb, Z67 (Z5o _) (Z5o _) rfl rfl (Zkf.2 s), Z4, if_neg Zd]
   exact J
  rw [if_neg d]; exact J
 rw [if_neg c]; exact J
theorem ZeY {x y : Int} (k : Nat) (hx : Nb.W64 x) (hy : Nb.W64 y) (h : Nb.pl x < Nb.pl y) (hk : 100000000000000000000000000000 ≤ k) : Zg.j0 (k + 4) x y false = some true := by
 have J := ZeX k hx hy h hk
 obtain ⟨a, f, e, E⟩ := Z98 (k + 3) hx Zo
 obtain ⟨b, g, e', E'⟩ := Z98 (k + 3) hy Zo
 rw [Zg.j0, if_neg Zd, E, Z4, E', Z4]
 show (if e = 0 then (if e' = 0 then (Z0A.f b a).bind _ else Zg.j1 (k + 3) x y false) else Zg.j1 (k + 3) x y false) = _
 by_cases c : e = 0
 ·rw [if_pos c]
  by_cases d : e' = 0
  ·subst c; subst d
   obtain ⟨wa, fx, vx, pa⟩ := Za2 (k + 3) hx Zo E
   obtain ⟨wb, fy, vy, pb⟩ := Za2 (k + 3) hy Zo E'
   rw [if_pos rfl, Z67 wa wb pa pb (Z95 Zds (vlt hx hy fx fy h)), Z4]
   exact J
  rw [if_neg d]; exact J
 rw [if_neg c]; exact J
theorem AlgRises (x y : Int) (h1 : (Lit.int .u64 x).wf = true) (h2 : (Lit.int .u64 y).wf = true) : ∃ k, Zg.f k x y = some true := by
 have hx := Nb.Zbf h1
 have hy := Nb.Zbf h2
 obtain ⟨k, hk⟩ : ∃ k, k = 100000000000000000000000000000 := ⟨_, rfl⟩
 have hk0 : 100000000000000000000000000000 ≤ k := by omega
 clear hk
 refine ⟨k + 4, ?_⟩
 unfold Zg.f
 rw [Zdq (k + 3) Zo, Z4, if_pos rfl, Nb.Z5P hx hy, Z4]
 by_cases l : Nb.Z3Y x ∧ Nb.Z3Y y ∧ Nb.pl x < Nb.pl y
 ·rw [decide_eq_true l, if_pos rfl]
  have J := ZeY k hx hy l.2.2 hk0
  obtain ⟨a, f, e, E⟩ := Z97 (k + 4) hx Zo
  obtain ⟨b, g, e', E'⟩ := Z97 (k + 4) hy Zo
  rw [E, Z4, E', Z4]
  show (if e = 0 then (if e' = 0 then (Z0A.f b a).bind _ else Zg.j0 (k + 4) x y false) else Zg.j0 (k + 4) x y false) = _
  by_cases c : e = 0
  ·rw [if_pos c]
   by_cases d : e' = 0
   ·subst c; subst d
    obtain ⟨wa, fx, pa⟩ := Za1 (k + 4) hx Zo E
    obtain ⟨wb, fy, pb⟩ := Za1 (k + 4) hy Zo E'
    rw [if_pos rfl, Z67 wa wb pa pb (Z95 Zdr (vlt hx hy fx fy l.2.2)), Z4]
    exact J
   rw [if_neg d]; exact J
  rw [if_neg c]; exact J
 rw [decide_eq_false l, if_neg Zd]
 exact Za4 (k + 2) hx hy Zo
end Go.Proofs.YtjnfipkbgmdpaaaGreatDoor.Pure
