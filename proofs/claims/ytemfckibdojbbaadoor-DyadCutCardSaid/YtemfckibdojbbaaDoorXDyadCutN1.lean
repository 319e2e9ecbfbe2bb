/- Plain part. -/
import Derived.Test.YtemfckibdojbbaaDoorXDyadCutN0
import Derived.Test.YtemfckibdojbbaaDoorXDyadCutP6
import Derived.Test.YtemfckibdojbbaaDoorXDyadCutP2
import Derived.Test.YtemfckibdojbbaaDoorXDyadCutP5
import Derived.Test.YtemfckibdojbbaaDoorXDyadCutP9
import Derived.Test.YtemfckibdojbbaaDoorXDyadCutP0
import Derived.Test.YtemfckibdojbbaaDoorXDyadCutP12
import Derived.Test.YtemfckibdojbbaaDoorXDyadCutP1
import Derived.Test.YtemfckibdojbbaaDoorXDyadCutP13
import Derived.Test.YtemfckibdojbbaaDoorXDyadCutP7
import Derived.Test.YtemfckibdojbbaaDoorXDyadCutP3
import Derived.Test.YtemfckibdojbbaaDoorXDyadCutP10
import Derived.Test.YtemfckibdojbbaaDoorXDyadCutP4
import Derived.Test.YtemfckibdojbbaaDoorXDyadCutP8
import Derived.Test.YtemfckibdojbbaaDoorXDyadCutP11
import Derived.Test.YtemfckibdojbbaaDoorXDyadCutP14
import Derived.Laws.StructEq
namespace Go.Proofs.YtemfckibdojbbaaDoor.Nf
open Go.RowKit Go.Proofs.YtemfckibdojbbaaDoor.PAll Go.Proofs.YtemfckibdojbbaaDoorW.PrintWords Go.Proofs.YtemfckibdojbbaaDoorW.PrintLast Go.Proofs.YtemfckibdojbbaaDoorW.PrintMore Go.Proofs.YtemfckibdojbbaaDoor.Nm
set_option linter.unusedVariables false
set_option linter.unusedSimpArgs false
theorem len0 {v : Nat} : (((ofN v).length : Nat) : Int) = 0 ↔ v = 0 := by rw [← ofN_zero_iff]; omega
theorem len_shl {a m : Nat} (h : (ofN a).length ≤ m) (j : Nat) : (ofN (a * 2 ^ j)).length ≤ m + j / 64 + 1 := by
 rw [ofN_len] at h ⊢
 have e : 18446744073709551616 ^ (m + j / 64 + 1) = 18446744073709551616 ^ m * 2 ^ (64 * (j / 64 + 1)) := by rw [Nat.add_assoc, Nat.pow_add, Nat.pow_mul]
 rw [e]
 exact Nat.mul_lt_mul_of_lt_of_le h (Nat.pow_le_pow_right (by decide) (by omega)) (Nat.pow_pos (by decide))
theorem len_add {a b m : Nat} (ha : (ofN a).length ≤ m) (hb : (ofN b).length ≤ m) : (ofN (a + b)).length ≤ m + 1 := big_add_aux rfl ((ofN_len _ _).1 ha) ((ofN_len _ _).1 hb)
theorem Zero_eq (s : Bool) (l : List Int) (e : Int) (k : Nat) (hw : Ws l) (hl : l.length < 17592186044000) (hk : 100000000000000000 ≤ k) : raw_Zero.f k s l e = some (decide (val l = 0)) := by
 unfold raw_Zero.f
 rw [trim_eq l k hw (by omega) (by omega), bind_s]
 congr 1
 rw [Bool.eq_iff_iff, decide_eq_true_iff, beq_iff_eq, len0]
def fits (n : Nat) (e : Int) : Bool := decide (n < big ∧ -32768 ≤ e ∧ e ≤ 32768)
theorem fits_iff {n : Nat} {e : Int} : fits n e = true ↔ n < big ∧ -32768 ≤ e ∧ e ≤ 32768 := decide_eq_true_iff
theorem fits_hi {n : Nat} {e : Int} (h : n < big) (g : e ≥ -32768) : fits n e = decide (e ≤ 32768) := by
 rw [Bool.eq_iff_iff, fits_iff, decide_eq_true_iff]
 exact ⟨fun c => c.2.2, fun c => ⟨h, g, c⟩⟩
theorem fits_no {n : Nat} {e : Int} (h : ¬ (n < big ∧ -32768 ≤ e ∧ e ≤ 32768)) : fits n e = false := by
 rw [Bool.eq_false_iff]; exact fun c => h (fits_iff.1 c)
theorem len_big' (v : Nat) : (((ofN v).length : Nat) : Int) ≤ 1024 ↔ v < big := by rw [← ofN_big]; omega
theorem Fits_eq (s : Bool) (l : List Int) (e : Int) (k : Nat) (hw : Ws l) (hl : l.length < 17592186044000) (hk : 100000000000000000 ≤ k) : raw_Fits.f k s l e = some (fits (val l) e) := by
 unfold raw_Fits.f
 rw [trim_eq l k hw (by omega) (by omega), bind_s]
 by_cases h : val l < big
 ·rw [if_pos ((len_big' _).2 h)]
  by_cases g : e ≥ -32768
  ·rw [if_pos g, fits_hi h g]
  rw [if_neg g, fits_no (fun c => g c.2.1)]
 rw [if_neg (fun c => h ((len_big' _).1 c))]; rw [fits_no (fun c => h c.1)]
theorem right_eq (s : Bool) (l : List Int) (e : Int) (k : Nat) (hw : Ws l) (hl : l.length < 17592186044000) (hk : 100000000000000000 ≤ k) : dyad_number_right.f k s l e = some (fits (val l) e) := by
 unfold dyad_number_right.f
 rw [Fits_eq s l e k hw hl hk, bind_s]
def roomS (d : Bool × List Int × Int) : Bool × List Int × Int × Int := if fits (val d.2.1) d.2.2 = true then (d.1, d.2.1, d.2.2, 0) else (false, [], 0, 3)
theorem room_eq (s : Bool) (l : List Int) (e : Int) (k : Nat) (hw : Ws l) (hl : l.length < 17592186044000) (hk : 100000000000000000 ≤ k) : dyad_room.f k s l e = some (roomS (s, l, e)) := by
 unfold dyad_room.f roomS
 rw [Fits_eq s l e k hw hl hk, bind_s]
 split <;> rfl
structure Rt (l : List Int) (e : Int) : Prop where
 ws : Ws l
 len : l.length < 17592186044000
 sm : (ofN (val l)).length ≤ 8192
 lo : -1000000 ≤ e
 hi : e ≤ 1000000
theorem Rt.lowE {l : List Int} {e : Int} (h : Rt l e) : Nf.lowE ≤ e := by have := h.lo; unfold Nf.lowE; omega
theorem One_eq (s : Bool) (l : List Int) (e : Int) (k : Nat) (h : Rt l e) (hk : 100000000000000000 ≤ k) : raw_One.f k s l e = some (cf s (val l) e) := by
 unfold raw_One.f
 rw [Form_eq s l e k h.ws h.len (by have := h.lo; omega) (by have := h.hi; omega) hk, bind_s]
theorem mn_eq (a b : Int) : mn a b = min a b := by unfold mn; rw [Int.min_def]; split <;> split <;> omega
theorem sub_nat {a E : Int} (h : E ≤ a) (h1 : a - E < 1000000000000) : wrap64 (a - E) = (((a - E).toNat : Nat) : Int) := by
 rw [wrapS (by omega) (by omega)]; omega
theorem amounts_eq (s1 s2 : Bool) (a b : Nat) (e1 e2 E : Int) (k : Nat) (hE : E = min e1 e2) (ha : (ofN a).length ≤ 8192) (hb : (ofN b).length ≤ 8192) (l1 : -2000000 ≤ e1) (u1 : e1 ≤ 2000000) (l2 : -2000000 ≤ e2) (u2 : e2 ≤ 2000000) (hk : 100000000000000000 ≤ k) :
  raw_amounts.f k s1 (ofN a) e1 s2 (ofN b) e2 = some (ofN (a * 2 ^ (e1 - E).toNat), ofN (b * 2 ^ (e2 - E).toNat), E) := by
 unfold raw_amounts.f
 have h1 : E ≤ e1 := by omega
 have h2 : E ≤ e2 := by omega
 have h3 : (e1 - E).toNat ≤ 4000000 := by omega
 have h4 : (e2 - E).toNat ≤ 4000000 := by omega
 rw [mn_eq, ← hE, sub_nat h1 (by omega), sub_nat h2 (by omega)]
 generalize (e1 - E).toNat = i at *
 generalize (e2 - E).toNat = j at *
 rw [lShl_eq (ofN a) i k (ws_ofN a) (by omega) (by omega) (by omega), bind_s, lShl_eq (ofN b) j k (ws_ofN b) (by omega) (by omega) (by omega), bind_s, val_ofN, val_ofN]
theorem cmpI_ge {x y : Nat} : cmpI x y ≥ 0 ↔ y ≤ x := by unfold cmpI; split <;> (try split) <;> omega
theorem sum_cz {s1 s2 : Bool} {x y : Nat} {E : Int} (hE : lowE ≤ E) :
  (s1 = s2 → cf s1 (x + y) E = cz (Vz (sg s1 x) E + Vz (sg s2 y) E) lowE) ∧ (s1 ≠ s2 → y ≤ x → cf s1 (x - y) E = cz (Vz (sg s1 x) E + Vz (sg s2 y) E) lowE) ∧ (s1 ≠ s2 → x ≤ y → cf s2 (y - x) E = cz (Vz (sg s1 x) E + Vz (sg s2 y) E) lowE) := by
 refine ⟨?_, ?_, ?_⟩
 ·rintro rfl; rw [cf_cz, cz_Vz hE, sg_add, Vz_add]
 ·intro h g
  have : s2 = !s1 := by cases s1 <;> cases s2 <;> simp_all
  rw [cf_cz, cz_Vz hE, sg_sub _ g, Vz_add, this]
 intro h g
 have : s1 = !s2 := by cases s1 <;> cases s2 <;> simp_all
 rw [cf_cz, cz_Vz hE, sg_sub _ g, Vz_add, this, Int.add_comm]
theorem scale {s : Bool} {o : Nat} {e E : Int} (h : lowE ≤ E) (g : E ≤ e) : Vz (sg s (o * 2 ^ (e - E).toNat)) E = Vz (sg s o) e := by
 rw [sg_shl, Vz_shl h]; congr 1; omega
theorem vl_parts {n : Nat} {e : Int} (h : lowE ≤ e) (s : Bool) : Vz (sg s (od n)) (e + (tz n : Int)) = Vz (sg s n) e := by
 rw [← Vz_shl h, ← sg_shl, od_mul]
theorem tz_small {n : Nat} (h : n ≠ 0) (hl : (ofN n).length ≤ 8192) : (tz n : Int) ≤ 600000 := by
 have := tz_lt h
 have := bl_len hl
 omega
theorem Add_eq (s1 s2 : Bool) (l1 l2 : List Int) (e1 e2 : Int) (k : Nat) (h1 : Rt l1 e1) (h2 : Rt l2 e2) (hk : 200000000000000000 ≤ k) : raw_Add.f k s1 l1 e1 s2 l2 e2 = some (cz (vl s1 l1 e1 + vl s2 l2 e2) lowE) := by
 unfold raw_Add.f
 have b1 := h1.lowE
 have b2 := h2.lowE
 have hv1 := h1.sm
 have hv2 := h2.sm
 have d1 := h1.lo; have d2 := h1.hi; have d3 := h2.lo; have d4 := h2.hi
 rw [One_eq s1 l1 e1 k h1 (by omega), bind_s, One_eq s2 l2 e2 k h2 (by omega), bind_s]
 have f1 := cf_vl b1 s1 l1
 have f2 := cf_vl b2 s2 l2
 have v1 : vl s1 l1 e1 = Vz (sg s1 (val l1)) e1 := rfl
 have v2 : vl s2 l2 e2 = Vz (sg s2 (val l2)) e2 := rfl
 generalize val l1 = n1 at *
 generalize val l2 = n2 at *
 by_cases z1 : n1 = 0
 ·have : (cf s1 n1 e1).2.1 = [] := by rw [z1, cf_zero]
  rw [this, Zero_eq _ _ _ k ws_nil (by simp) (by omega), bind_s, if_pos (by rw [val_nil]; rfl), f2, v1, z1, sg_zero, Vz_zero, Int.zero_add]
 have c1 := cf_ne z1 s1 e1
 have o1 := od_ne z1
 rw [c1, Zero_eq _ _ _ k (ws_ofN _) (by have := len_od n1; show (ofN (od n1)).length < _; omega) (by omega), bind_s]
 rw [if_neg (by rw [val_ofN]; simpa using o1)]
 by_cases z2 : n2 = 0
 ·have : (cf s2 n2 e2).2.1 = [] := by rw [z2, cf_zero]
  rw [this, Zero_eq _ _ _ k ws_nil (by simp) (by omega), bind_s, if_pos (by rw [val_nil]; rfl), ← c1, f1, v2, z2, sg_zero, Vz_zero, Int.add_zero]
 have c2 := cf_ne z2 s2 e2
 have o2 := od_ne z2
 rw [c2, Zero_eq _ _ _ k (ws_ofN _) (by have := len_od n2; show (ofN (od n2)).length < _; omega) (by omega), bind_s]
 rw [if_neg (by rw [val_ofN]; simpa using o2)]
 have t1 := tz_small z1 hv1
 have t2 := tz_small z2 hv2
 have p1 := vl_parts b1 s1 (n := n1)
 have p2 := vl_parts b2 s2 (n := n2)
 have q1 := len_od n1
 have q2 := len_od n2
 show raw_Add.j0 k s1 (ofN (od n1)) (e1 + (tz n1 : Int)) s2 (ofN (od n2)) (e2 + (tz n2 : Int)) = _
 have g1 : -2000000 ≤ e1 + (tz n1 : Int) ∧ e1 + (tz n1 : Int) ≤ 2000000 := by omega
 have g2 : -2000000 ≤ e2 + (tz n2 : Int) ∧ e2 + (tz n2 : Int) ≤ 2000000 := by omega
 rw [v1, v2, ← p1, ← p2]
 generalize od n1 = x at *
 generalize od n2 = y at *
 generalize e1 + (tz n1 : Int) = a1 at *
 generalize e2 + (tz n2 : Int) = a2 at *
 obtain ⟨k, rfl⟩ : ∃ m, k = m + 1 := ⟨k - 1, by omega⟩
 obtain ⟨E, hE⟩ : ∃ E, E = min a1 a2 := ⟨_, rfl⟩
 simp only [raw_Add.j0]
 rw [amounts_eq s1 s2 x y a1 a2 E k hE (by omega) (by omega) g1.1 g1.2 g2.1 g2.2 (by omega), bind_s]
 have lE : lowE ≤ E := by have := g1.1; have := g2.1; unfold lowE; omega
 have bE : -2000000 ≤ E ∧ E ≤ 2000000 := by omega
 have w1 : E ≤ a1 := by omega
 have w2 : E ≤ a2 := by omega
 have y1 : (a1 - E).toNat ≤ 4000000 := by omega
 have y2 : (a2 - E).toNat ≤ 4000000 := by omega
 have L1 := len_shl (Nat.le_trans q1 hv1) (a1 - E).toNat
 have L2 := len_shl (Nat.le_trans q2 hv2) (a2 - E).toNat
 have S1 := scale (s := s1) (o := x) lE w1
 have S2 := scale (s := s2) (o := y) lE w2
 have M1 : (ofN (x * 2 ^ (a1 - E).toNat)).length ≤ 100000 := by omega
 have M2 : (ofN (y * 2 ^ (a2 - E).toNat)).length ≤ 100000 := by omega
 generalize x * 2 ^ (a1 - E).toNat = X at *
 generalize y * 2 ^ (a2 - E).toNat = Y at *
 rw [← S1, ← S2]
 obtain ⟨r1, r2, r3⟩ := sum_cz (s1 := s1) (s2 := s2) (x := X) (y := Y) lE
 by_cases hs : s1 = s2
 ·rw [if_pos (by rw [beq_iff_eq]; exact hs), lAdd_eq _ _ (ws_ofN X) (ws_ofN Y) (by omega) (by omega) k (by omega), bind_s, val_ofN, val_ofN]
  have M3 : (ofN (X + Y)).length < 17592186044000 := by
   have := len_add M1 M2
   omega
  rw [Form_eq s1 _ E k (ws_ofN _) M3 (by omega) (by omega) (by omega), bind_s, val_ofN, r1 hs]
 rw [if_neg (by rw [beq_iff_eq]; exact hs)]
 obtain ⟨k, rfl⟩ : ∃ m, k = m + 1 := ⟨k - 1, by omega⟩
 simp only [raw_Add.j1]
 rw [lCmp_eq _ _ k (ws_ofN X) (ws_ofN Y) (by omega) (by omega) (by omega), bind_s, val_ofN, val_ofN]
 by_cases g : Y ≤ X
 ·rw [if_pos (cmpI_ge.2 g), lSub_eq X Y g k (by omega) (by omega), bind_s]
  have M3 : (ofN (X - Y)).length < 17592186044000 := by have := ofN_len_le (Nat.sub_le X Y); omega
  rw [Form_eq s1 _ E k (ws_ofN _) M3 (by omega) (by omega) (by omega), bind_s, val_ofN, r2 hs g]
 have g' : X ≤ Y := by omega
 rw [if_neg (fun c => g (cmpI_ge.1 c)), lSub_eq Y X g' k (by omega) (by omega), bind_s]
 have M3 : (ofN (Y - X)).length < 17592186044000 := by have := ofN_len_le (Nat.sub_le Y X); omega
 rw [Form_eq s2 _ E k (ws_ofN _) M3 (by omega) (by omega) (by omega), bind_s, val_ofN, r3 hs g']
end Go.Proofs.YtemfckibdojbbaaDoor.Nf

namespace Go.Proofs.YtemfckibdojbbaaDoor.Nf
open Go.RowKit Go.Proofs.YtemfckibdojbbaaDoor.PAll Go.Proofs.YtemfckibdojbbaaDoorW.PrintWords Go.Proofs.YtemfckibdojbbaaDoorW.PrintLast Go.Proofs.YtemfckibdojbbaaDoorW.PrintMore Go.Proofs.YtemfckibdojbbaaDoor.Nm
set_option linter.unusedVariables false
set_option linter.unusedSimpArgs false
structure Rs (l : List Int) (e : Int) : Prop where
 ws : Ws l
 len : l.length < 17592186044000
 sm : (ofN (val l)).length ≤ 2000
 lo : -200000 ≤ e
 hi : e ≤ 200000
theorem Rs.t {l : List Int} {e : Int} (h : Rs l e) : Rt l e := ⟨h.ws, h.len, by have := h.sm; omega, by have := h.lo; omega, by have := h.hi; omega⟩
theorem rs_fits {l : List Int} {e : Int} (hw : Ws l) (hl : l.length < 17592186044000) (h : fits (val l) e = true) : Rs l e := by
 obtain ⟨a, b, c⟩ := fits_iff.1 h
 exact ⟨hw, hl, by have := len_big a; omega, by omega, by omega⟩
theorem rt_cf (s : Bool) {n : Nat} {e : Int} (hn : (ofN n).length ≤ 2000) (h0 : -400000 ≤ e) (h1 : e ≤ 400000) : Rt (cf s n e).2.1 (cf s n e).2.2 := by
 by_cases h : n = 0
 ·rw [h, cf_zero]; exact ⟨ws_nil, by simp, by rw [val_nil, ofN_zero]; simp, by show (-1000000 : Int) ≤ 0; omega, by show (0 : Int) ≤ 1000000; omega⟩
 rw [cf_ne h]
 have a := len_od n
 have t := tz_lt h
 have b := bl_len hn
 refine ⟨ws_ofN _, ?_, ?_, ?_, ?_⟩
 ·show (ofN (od n)).length < _; omega
 ·show (ofN (val (ofN (od n)))).length ≤ _; rw [val_ofN]; omega
 ·show -1000000 ≤ e + (tz n : Int); omega
 show e + (tz n : Int) ≤ 1000000; omega
theorem Neg_eq (s : Bool) (l : List Int) (e : Int) (k : Nat) (h : Rt l e) (hk : 100000000000000000 ≤ k) : raw_Neg.f k s l e = some (cf (!s) (val l) e) := by
 unfold raw_Neg.f
 rw [Form_eq _ l e k h.ws h.len (by have := h.lo; omega) (by have := h.hi; omega) hk, bind_s]
theorem vl_neg (s : Bool) (l : List Int) (e : Int) : vl (!s) l e = - vl s l e := by unfold vl; rw [sg_neg, Vz_neg]
theorem Sub_eq (s1 s2 : Bool) (l1 l2 : List Int) (e1 e2 : Int) (k : Nat) (h1 : Rt l1 e1) (h2 : Rs l2 e2) (hk : 200000000000000000 ≤ k) : raw_Sub.f k s1 l1 e1 s2 l2 e2 = some (cz (vl s1 l1 e1 - vl s2 l2 e2) lowE) := by
 unfold raw_Sub.f
 rw [Neg_eq s2 l2 e2 k h2.t (by omega), bind_s, Add_eq _ _ _ _ _ _ k h1 (rt_cf _ h2.sm (by have := h2.lo; omega) (by have := h2.hi; omega)) hk, bind_s, vl_cf h2.t.lowE, sg_neg, Vz_neg]
 rfl
end Go.Proofs.YtemfckibdojbbaaDoor.Nf

namespace Go.Proofs.YtemfckibdojbbaaDoor.Nf
open Go.RowKit Go.Proofs.YtemfckibdojbbaaDoor.PAll Go.Proofs.YtemfckibdojbbaaDoorW.PrintWords Go.Proofs.YtemfckibdojbbaaDoorW.PrintLast Go.Proofs.YtemfckibdojbbaaDoorW.PrintMore Go.Proofs.YtemfckibdojbbaaDoor.Nm
set_option linter.unusedVariables false
set_option linter.unusedSimpArgs false
def cmpZ (x y : Int) : Int := if x < y then -1 else if x = y then 0 else 1
def sI (s : Bool) (n : Nat) : Int := if n = 0 then 0 else if s = true then -1 else 1
theorem Sign_eq (s : Bool) (l : List Int) (e : Int) (k : Nat) (hw : Ws l) (hl : l.length < 17592186044000) (hk : 100000000000000000 ≤ k) : raw_Sign.f k s l e = some (sI s (val l)) := by
 unfold raw_Sign.f sI
 rw [Zero_eq s l e k hw hl hk, bind_s]
 by_cases h : val l = 0
 ·rw [if_pos (decide_eq_true h), if_pos h]
 rw [if_neg (by rw [decide_eq_true_iff]; exact h), if_neg h]; split <;> rfl
theorem Top_eq (s : Bool) (l : List Int) (e : Int) (k : Nat) (hw : Ws l) (hl : l.length < 17592186044000) (h0 : -1000000000000000 ≤ e) (h1 : e ≤ 1000000000000000) (hk : 100000000000000000 ≤ k) : raw_Top.f k s l e = some (e + (bl (val l) : Int) - 1) := by
 unfold raw_Top.f
 have hn : (ofN (val l)).length ≤ l.length := (ofN_len (val l) l.length).2 (val_lt hw)
 have hb := bl_len hn
 rw [lLen_eq l k hw hl (by omega), bind_s, wrapS (x := e + _) (by omega) (by omega), wrapS (by omega) (by omega)]
def am (n : Nat) (e : Int) : Nat := n * 2 ^ (e - lowE).toNat
theorem Vz_am (s : Bool) (n : Nat) (e : Int) : Vz (sg s n) e = sg s (am n e) := by unfold Vz am; rw [sg_shl]
theorem am_pos {n : Nat} (h : n ≠ 0) (e : Int) : am n e ≠ 0 := Nat.ne_of_gt (Nat.mul_pos (Nat.pos_of_ne_zero h) (Nat.pow_pos (by decide)))
theorem am_bl {n : Nat} (h : n ≠ 0) {e : Int} (g : lowE ≤ e) : (bl (am n e) : Int) = bl n + (e - lowE) := by
 unfold am; rw [bl_shl h]; omega
theorem am_lt {n m : Nat} {e f : Int} (hn : n ≠ 0) (hm : m ≠ 0) (he : lowE ≤ e) (hf : lowE ≤ f) (h : e + (bl n : Int) < f + (bl m : Int)) : am n e < am m f := by
 refine Classical.byContradiction fun g => ?_
 have := bl_mono (Nat.le_of_not_lt g)
 have a := am_bl hn he
 have b := am_bl hm hf
 omega
theorem am_parts {n : Nat} {e : Int} (h : lowE ≤ e) : am (od n) (e + (tz n : Int)) = am n e := by
 have := vl_parts h false (n := n)
 rw [Vz_am, Vz_am] at this
 have := congrArg Int.natAbs this
 rwa [sg_abs, sg_abs] at this
theorem cmpZ_sg (s : Bool) (x y : Nat) : cmpZ (sg s x) (sg s y) = if s = true then - cmpI x y else cmpI x y := by
 unfold cmpZ cmpI
 cases s
 ·simp only [sg, Bool.false_eq_true, if_false]
  split <;> split <;> (try split) <;> (try split) <;> omega
 simp only [sg, if_true]
 split <;> (try split) <;> (try split) <;> (try split) <;> omega
theorem cmpI_scale {x y c : Nat} (hc : 0 < c) : cmpI (x * c) (y * c) = cmpI x y := by
 unfold cmpI
 have a : x * c < y * c ↔ x < y := Nat.mul_lt_mul_right hc
 have b : x * c = y * c ↔ x = y := Nat.mul_left_inj (Nat.ne_of_gt hc)
 by_cases h : x < y
 ·rw [if_pos h, if_pos (a.2 h)]
 rw [if_neg h, if_neg (fun c => h (a.1 c))]
 by_cases g : x = y
 ·rw [if_pos g, if_pos (b.2 g)]
 rw [if_neg g, if_neg (fun c => g (b.1 c))]
theorem cmp_signs (s1 s2 : Bool) (N M : Nat) : (sI s1 N < sI s2 M → cmpZ (sg s1 N) (sg s2 M) = -1) ∧ (sI s1 N > sI s2 M → cmpZ (sg s1 N) (sg s2 M) = 1) ∧ (sI s1 N = 0 → sI s2 M = 0 → cmpZ (sg s1 N) (sg s2 M) = 0) := by
 unfold sI cmpZ sg
 refine ⟨?_, ?_, ?_⟩
 all_goals
  cases s1 <;> cases s2 <;> simp only [Bool.false_eq_true, if_false, if_true] <;> intros <;> (repeat' split at *) <;> omega
theorem sI_same {s1 s2 : Bool} {N M : Nat} (h : sI s1 N = sI s2 M) (h0 : sI s1 N ≠ 0) : N ≠ 0 ∧ M ≠ 0 ∧ s1 = s2 ∧ sI s1 N = if s1 = true then -1 else 1 := by
 unfold sI at *
 by_cases a : N = 0
 ·simp [a] at h0
 by_cases b : M = 0
 ·simp [a, b] at h; cases s1 <;> simp at h
 cases s1 <;> cases s2 <;> simp_all
theorem sI_am (s : Bool) (n : Nat) (e : Int) : sI s (am n e) = sI s n := by
 unfold sI
 by_cases h : n = 0
 ·subst h; unfold am; rw [Nat.zero_mul]
 rw [if_neg h, if_neg (am_pos h e)]
theorem wrap_small {x : Int} (h : x = -1 ∨ x = 0 ∨ x = 1) : wrap64 x = x := wrapS (by omega) (by omega)
theorem cmpI_small (x y : Nat) : cmpI x y = -1 ∨ cmpI x y = 0 ∨ cmpI x y = 1 := by unfold cmpI; split <;> (try split) <;> simp
theorem cmpI_gt {x y : Nat} (h : y < x) : cmpI x y = 1 := by unfold cmpI; rw [if_neg (Nat.not_lt.2 (Nat.le_of_lt h)), if_neg (Nat.ne_of_gt h)]
theorem cmpI_lt {x y : Nat} (h : x < y) : cmpI x y = -1 := by unfold cmpI; rw [if_pos h]
theorem Cmp_eq' (s1 s2 : Bool) (l1 l2 : List Int) (e1 e2 : Int) (k : Nat) (h1 : Rt l1 e1) (h2 : Rt l2 e2) (hk : 100000000000000000 ≤ k) : raw_Cmp.f k s1 l1 e1 s2 l2 e2 = some (cmpZ (vl s1 l1 e1) (vl s2 l2 e2)) := by
 unfold raw_Cmp.f
 have b1 := h1.lowE
 have b2 := h2.lowE
 have hv1 := h1.sm
 have hv2 := h2.sm
 have d1 := h1.lo; have d2 := h1.hi; have d3 := h2.lo; have d4 := h2.hi
 rw [Sign_eq s1 l1 e1 k h1.ws h1.len hk, bind_s, Sign_eq s2 l2 e2 k h2.ws h2.len hk, bind_s, Top_eq s1 l1 e1 k h1.ws h1.len (by omega) (by omega) hk, Top_eq s2 l2 e2 k h2.ws h2.len (by omega) (by omega) hk, One_eq s1 l1 e1 k h1 hk, One_eq s2 l2 e2 k h2 hk]
 unfold vl
 generalize val l1 = n1 at *
 generalize val l2 = n2 at *
 rw [Vz_am, Vz_am]
 obtain ⟨c1, c2, c3⟩ := cmp_signs s1 s2 (am n1 e1) (am n2 e2)
 rw [sI_am, sI_am] at c1 c2 c3
 by_cases q1 : sI s1 n1 < sI s2 n2
 ·rw [if_pos q1, c1 q1]
 rw [if_neg q1]
 by_cases q2 : sI s1 n1 > sI s2 n2
 ·rw [if_pos q2, c2 q2]
 rw [if_neg q2]
 have q3 : sI s1 n1 = sI s2 n2 := by omega
 by_cases q0 : sI s1 n1 = 0
 ·rw [if_pos q0, c3 q0 (q3 ▸ q0)]
 rw [if_neg q0, bind_s, bind_s]
 obtain ⟨z1, z2, rfl, hs⟩ := sI_same q3 q0
 rw [hs, cmpZ_sg]
 by_cases t : e1 + (bl n1 : Int) - 1 = e2 + (bl n2 : Int) - 1
 ·rw [if_pos t, bind_s, bind_s, cf_ne z1, cf_ne z2]
  have t1 := tz_small z1 hv1
  have t2 := tz_small z2 hv2
  have p1 := am_parts b1 (n := n1)
  have p2 := am_parts b2 (n := n2)
  have r1 := len_od n1
  have r2 := len_od n2
  rw [← p1, ← p2]
  have g1 : -2000000 ≤ e1 + (tz n1 : Int) ∧ e1 + (tz n1 : Int) ≤ 2000000 := by omega
  have g2 : -2000000 ≤ e2 + (tz n2 : Int) ∧ e2 + (tz n2 : Int) ≤ 2000000 := by omega
  show (raw_amounts.f k s1 (ofN (od n1)) (e1 + (tz n1 : Int)) s1 (ofN (od n2)) (e2 + (tz n2 : Int))).bind _ = _
  generalize od n1 = x at *
  generalize od n2 = y at *
  generalize e1 + (tz n1 : Int) = a1 at *
  generalize e2 + (tz n2 : Int) = a2 at *
  obtain ⟨E, hE⟩ : ∃ E, E = min a1 a2 := ⟨_, rfl⟩
  rw [amounts_eq s1 s1 x y a1 a2 E k hE (by omega) (by omega) g1.1 g1.2 g2.1 g2.2 (by omega), bind_s]
  have lE : lowE ≤ E := by have := g1.1; have := g2.1; unfold lowE; omega
  have w1 : E ≤ a1 := by omega
  have w2 : E ≤ a2 := by omega
  have y1 : (a1 - E).toNat ≤ 4000000 := by omega
  have y2 : (a2 - E).toNat ≤ 4000000 := by omega
  have L1 := len_shl (Nat.le_trans r1 hv1) (a1 - E).toNat
  have L2 := len_shl (Nat.le_trans r2 hv2) (a2 - E).toNat
  have A1 : am x a1 = x * 2 ^ (a1 - E).toNat * 2 ^ (E - lowE).toNat := by
   unfold am; rw [Nat.mul_assoc, ← Nat.pow_add]; congr 2; omega
  have A2 : am y a2 = y * 2 ^ (a2 - E).toNat * 2 ^ (E - lowE).toNat := by
   unfold am; rw [Nat.mul_assoc, ← Nat.pow_add]; congr 2; omega
  rw [A1, A2, cmpI_scale (Nat.pow_pos (by decide))]
  have M1 : (ofN (x * 2 ^ (a1 - E).toNat)).length ≤ 100000 := by omega
  have M2 : (ofN (y * 2 ^ (a2 - E).toNat)).length ≤ 100000 := by omega
  generalize x * 2 ^ (a1 - E).toNat = X at *
  generalize y * 2 ^ (a2 - E).toNat = Y at *
  rw [lCmp_eq _ _ k (ws_ofN X) (ws_ofN Y) (by omega) (by omega) (by omega), bind_s, val_ofN, val_ofN]
  have := cmpI_small X Y
  cases s1
  ·simp only [Bool.false_eq_true, if_false, Int.one_mul]; rw [wrap_small this]
  simp only [if_true]; rw [Int.neg_one_mul, wrap_small (by omega)]
 rw [if_neg t]
 by_cases u : e1 + (bl n1 : Int) - 1 < e2 + (bl n2 : Int) - 1
 ·have := am_lt z1 z2 b1 b2 (by omega)
  rw [if_pos u]
  rw [cmpI_lt this]
  cases s1
  ·simp only [Bool.false_eq_true, if_false]; rw [wrap_small (by omega)]
  simp only [if_true]; rw [wrap_small (by omega)]
 have := am_lt z2 z1 b2 b1 (by omega)
 rw [if_neg u, cmpI_gt this]
end Go.Proofs.YtemfckibdojbbaaDoor.Nf

namespace Go.Proofs.YtemfckibdojbbaaDoor.Nf
open Go.RowKit Go.Proofs.YtemfckibdojbbaaDoor.PAll Go.Proofs.YtemfckibdojbbaaDoorW.PrintWords Go.Proofs.YtemfckibdojbbaaDoorW.PrintLast Go.Proofs.YtemfckibdojbbaaDoorW.PrintMore Go.Proofs.YtemfckibdojbbaaDoor.Nm
set_option linter.unusedVariables false
set_option linter.unusedSimpArgs false
noncomputable def cutS (s : Bool) (n : Nat) (e p : Int) (up : Bool) : Bool × List Int × Int :=
 if (bl (od n) : Int) ≤ p then cf s n e else cf s (od n / 2 ^ (bl (od n) - p).toNat + if (up != s) = true then 1 else 0) (e + (tz n : Int) + (bl (od n) - p))
theorem od_odd {n : Nat} (h : n ≠ 0) (j : Nat) (hj : 0 < j) : od n % 2 ^ j ≠ 0 := by
 obtain ⟨t, m, e⟩ := low_form n h
 rw [od_eq e]
 have := (low_mod_ne 0 m j).2 hj
 rwa [Nat.pow_zero, Nat.one_mul] at this
theorem od_zero : od 0 = 0 := by unfold od; rw [Nat.zero_div]
theorem len_succ {a m : Nat} (h : (ofN a).length ≤ m) (hm : 1 ≤ m) (c : Nat) (hc : c ≤ 1) : (ofN (a + c)).length ≤ m + 1 := by
 refine len_add h (Nat.le_trans ?_ hm)
 rw [ofN_len]
 exact Nat.lt_of_le_of_lt hc (by decide)
theorem One_wlen : Ws (ofN 1) ∧ (ofN 1).length < 17592186044000 := ⟨ws_ofN 1, by have := (ofN_len 1 1).2 (by decide); omega⟩
theorem lOf1 : limbs_Of.f 1 = some (ofN 1) := lOf_eq 1 (by decide)
theorem Cut_eq (s : Bool) (l : List Int) (e p : Int) (up : Bool) (k : Nat) (h : Rt l e) (hp : 1 ≤ p) (hp2 : p < 9223372036854775808) (hk : 100000000000000000 ≤ k) : raw_Cut.f k s l e p up = some (cutS s (val l) e p up) := by
 unfold raw_Cut.f cutS
 rw [One_eq s l e k h hk, bind_s]
 have b1 := h.lo; have b2 := h.hi; have b3 := h.sm
 generalize val l = n at *
 by_cases z : n = 0
 ·have : (cf s n e).2.1 = [] := by rw [z, cf_zero]
  rw [this, lLen_eq [] k ws_nil (by simp) (by simp; omega), bind_s, val_nil, bl_zero, wrapS (by omega) (by omega), if_pos (by omega), z, od_zero, bl_zero, if_pos (by omega), cf_zero]
 rw [cf_ne z]
 have hl := len_od n
 have t1 := tz_small z b3
 have hb := bl_len (Nat.le_trans hl b3)
 have ho := od_ne z
 show ((limbs_Len.f k (ofN (od n))).bind _) = _
 rw [lLen_eq (ofN (od n)) k (ws_ofN _) (by omega) (by omega), bind_s, val_ofN]
 by_cases g : (bl (od n) : Int) ≤ p
 ·rw [wrapS (by omega) (by omega), if_pos (by omega), if_pos g]
 have eN : wrap64 ((bl (od n) : Int) - p) = (((bl (od n) - p).toNat : Nat) : Int) := by rw [wrapS (by omega) (by omega)]; omega
 have eN2 : (((bl (od n) - p).toNat : Nat) : Int) = (bl (od n) : Int) - p := by omega
 have N1 : ((bl (od n) : Int) - p).toNat < 4611686018427387904 := by omega
 have hE : wrap64 (e + (tz n : Int) + (((bl (od n) - p).toNat : Nat) : Int)) = e + (tz n : Int) + (bl (od n) - p) := by rw [wrapS (by omega) (by omega)]; omega
 have E1 : -1000000000000000000 ≤ e + (tz n : Int) + (bl (od n) - p) := by omega
 have E2 : e + (tz n : Int) + (bl (od n) - p) ≤ 1000000000000000000 := by omega
 have hd := ofN_len_le (Nat.div_le_self (od n) (2 ^ ((bl (od n) : Int) - p).toNat))
 have g0 : ¬ (((bl (od n) - p).toNat : Nat) : Int) ≤ 0 := by omega
 rw [eN, if_neg g0, if_neg g, lShr_eq (ofN (od n)) _ k (ws_ofN _) N1 (by omega) (by omega), bind_s, val_ofN]
 show (if (up != s) = true then _ else _) = _
 generalize od n / 2 ^ ((bl (od n) : Int) - p).toNat = v at *
 by_cases u : (up != s) = true
 ·rw [if_pos u, if_pos u, lOf1, bind_s]
  have := One_wlen.2
  have hs := len_succ (a := v) (m := 8193) (by omega) (by omega) 1 (by omega)
  show (limbs_Add.f k (ofN v) (ofN 1)).bind _ = _
  rw [lAdd_eq _ _ (ws_ofN v) (ws_ofN 1) (by omega) this k (by omega), bind_s, val_ofN, val_ofN]
  show (raw_Form.f k s (ofN (v + 1)) (wrap64 (e + (tz n : Int) + (((bl (od n) - p).toNat : Nat) : Int)))).bind _ = _
  rw [hE, Form_eq s _ _ k (ws_ofN _) (by omega) E1 E2 hk, bind_s, val_ofN]
 rw [if_neg u, if_neg u]
 show (raw_Form.f k s (ofN v) (wrap64 (e + (tz n : Int) + (((bl (od n) - p).toNat : Nat) : Int)))).bind _ = _
 rw [hE, Form_eq s _ _ k (ws_ofN _) (by omega) E1 E2 hk, bind_s, val_ofN, Nat.add_zero]
end Go.Proofs.YtemfckibdojbbaaDoor.Nf

namespace Go.Proofs.YtemfckibdojbbaaDoor.Nf
open Go.RowKit Go.Proofs.YtemfckibdojbbaaDoor.PAll Go.Proofs.YtemfckibdojbbaaDoorW.PrintWords Go.Proofs.YtemfckibdojbbaaDoorW.PrintLast Go.Proofs.YtemfckibdojbbaaDoorW.PrintMore Go.Proofs.YtemfckibdojbbaaDoor.Nm
set_option linter.unusedVariables false
set_option linter.unusedSimpArgs false
theorem begins_eq (k : Nat) (hk : 1000 ≤ k) : ulplaw04_begins.f k = some true :=
 at_rounds ulplaw04_begins.mono hk (by decide +kernel)
structure Wl (l : List Int) : Prop where
 ws : Ws l
 len : l.length < 17592186044000
theorem wl_nil : Wl [] := ⟨ws_nil, by simp⟩
theorem wl_ofN {v : Nat} (h : (ofN v).length < 17592186044000) : Wl (ofN v) := ⟨ws_ofN v, h⟩
theorem wl_cf (s : Bool) {n : Nat} (e : Int) (h : (ofN n).length < 17592186044000) : Wl (cf s n e).2.1 := by
 by_cases z : n = 0
 ·rw [z, cf_zero]; exact wl_nil
 rw [cf_ne z]; exact wl_ofN (Nat.lt_of_le_of_lt (len_od n) h)
theorem wl_cz {Z : Int} (e : Int) (h : (ofN Z.natAbs).length < 17592186044000) : Wl (cz Z e).2.1 := wl_cf _ _ h
def bad (c : Int) : Bool × List Int × Int × Int := (false, [], 0, c)
theorem am_len {n : Nat} {e : Int} (h : (ofN n).length ≤ 16384) (h1 : e ≤ 2000000) : (ofN (am n e)).length ≤ 120000 := by
 refine Nat.le_trans (len_shl h _) ?_
 have : (e - lowE).toNat ≤ 6000000 := by unfold lowE; omega
 omega
theorem vl_abs (s : Bool) (l : List Int) (e : Int) : (vl s l e).natAbs = am (val l) e := by unfold vl; rw [Vz_am, sg_abs]
theorem len_vadd {s1 s2 : Bool} {l1 l2 : List Int} {e1 e2 : Int} (h1 : Rt l1 e1) (h2 : Rt l2 e2) : (ofN (vl s1 l1 e1 + vl s2 l2 e2).natAbs).length ≤ 120001 := by
 have a := am_len (n := val l1) (e := e1) (by have := h1.sm; omega) (by have := h1.hi; omega)
 have b := am_len (n := val l2) (e := e2) (by have := h2.sm; omega) (by have := h2.hi; omega)
 have c : (vl s1 l1 e1 + vl s2 l2 e2).natAbs ≤ am (val l1) e1 + am (val l2) e2 := by
  have := Int.natAbs_add_le (vl s1 l1 e1) (vl s2 l2 e2)
  rwa [vl_abs, vl_abs] at this
 exact Nat.le_trans (ofN_len_le c) (len_add a b)
theorem len_vsub {s1 s2 : Bool} {l1 l2 : List Int} {e1 e2 : Int} (h1 : Rt l1 e1) (h2 : Rt l2 e2) : (ofN (vl s1 l1 e1 - vl s2 l2 e2).natAbs).length ≤ 120001 := by
 have := len_vadd (s1 := s1) (s2 := !s2) h1 h2
 rwa [vl_neg, ← Int.sub_eq_add_neg] at this
noncomputable def twoS (Z : Int) (n1 : Nat) (e1 : Int) (n2 : Nat) (e2 : Int) : Bool × List Int × Int × Int := if fits n1 e1 = true ∧ fits n2 e2 = true then roomS (cz Z lowE) else bad 2
theorem dSub_eq (s1 s2 : Bool) (l1 l2 : List Int) (e1 e2 : Int) (k : Nat) (w1 : Wl l1) (w2 : Wl l2) (hk : 200000000000000000 ≤ k) : dyad_Sub.f k s1 l1 e1 s2 l2 e2 = some (twoS (vl s1 l1 e1 - vl s2 l2 e2) (val l1) e1 (val l2) e2) := by
 unfold dyad_Sub.f twoS
 rw [right_eq s1 l1 e1 k w1.ws w1.len (by omega), bind_s]
 by_cases h1 : fits (val l1) e1 = true
 ·rw [if_pos h1, right_eq s2 l2 e2 k w2.ws w2.len (by omega), bind_s]
  by_cases h2 : fits (val l2) e2 = true
  ·have g1 := rs_fits w1.ws w1.len h1
   have g2 := rs_fits w2.ws w2.len h2
   have c := wl_cz lowE (Nat.lt_of_le_of_lt (len_vsub (s1 := s1) (s2 := s2) g1.t g2.t) (by decide))
   rw [if_pos h2, if_pos ⟨h1, h2⟩, Sub_eq s1 s2 l1 l2 e1 e2 k g1.t g2 hk, bind_s, room_eq _ _ _ k c.ws c.len (by omega), bind_s]
  rw [if_neg h2, if_neg (fun c => h2 c.2)]; rfl
 rw [if_neg h1, if_neg (fun c => h1 c.1)]; rfl
def cmpS (s1 : Bool) (l1 : List Int) (e1 : Int) (s2 : Bool) (l2 : List Int) (e2 : Int) : Int × Int := if fits (val l1) e1 = true ∧ fits (val l2) e2 = true then (cmpZ (vl s1 l1 e1) (vl s2 l2 e2), 0) else (0, 2)
theorem dCmp_eq (s1 s2 : Bool) (l1 l2 : List Int) (e1 e2 : Int) (k : Nat) (w1 : Wl l1) (w2 : Wl l2) (hk : 200000000000000000 ≤ k) : dyad_Cmp.f k s1 l1 e1 s2 l2 e2 = some (cmpS s1 l1 e1 s2 l2 e2) := by
 unfold dyad_Cmp.f cmpS
 rw [right_eq s1 l1 e1 k w1.ws w1.len (by omega), bind_s]
 by_cases h1 : fits (val l1) e1 = true
 ·rw [if_pos h1, right_eq s2 l2 e2 k w2.ws w2.len (by omega), bind_s]
  by_cases h2 : fits (val l2) e2 = true
  ·have g1 := rs_fits w1.ws w1.len h1
   have g2 := rs_fits w2.ws w2.len h2
   rw [if_pos h2, if_pos ⟨h1, h2⟩, Cmp_eq' s1 s2 l1 l2 e1 e2 k g1.t g2.t (by omega), bind_s]
  rw [if_neg h2, if_neg (fun c => h2 c.2)]
 rw [if_neg h1, if_neg (fun c => h1 c.1)]
theorem bl_od (n : Nat) : bl n = bl (od n) + tz n := by
 by_cases h : n = 0
 ·subst h; rw [od_zero, bl_zero]; unfold tz; rw [dif_neg (by simp)]
 have := bl_shl (od_ne h) (tz n)
 rwa [od_mul] at this
def toldS (n : Nat) (e v : Int) : Int × Int := if fits n e = true then (if n = 0 then (0, 5) else (v, 0)) else (0, 2)
theorem dSize_eq (s : Bool) (l : List Int) (e : Int) (k : Nat) (w : Wl l) (hk : 200000000000000000 ≤ k) : dyad_Size.f k s l e = some (toldS (val l) e (bl (od (val l)))) := by
 unfold dyad_Size.f toldS
 rw [right_eq s l e k w.ws w.len (by omega), bind_s]
 by_cases h : fits (val l) e = true
 ·have g := rs_fits w.ws w.len h
  rw [if_pos h, if_pos h, Zero_eq s l e k w.ws w.len (by omega), bind_s]
  by_cases z : val l = 0
  ·rw [if_pos (decide_eq_true z), if_pos z]
  rw [if_neg (by rw [decide_eq_true_iff]; exact z), if_neg z, One_eq s l e k g.t (by omega), bind_s, cf_ne z]
  unfold dyad_Size_1.f
  have a := len_od (val l)
  have b := g.sm
  show ((limbs_Len.f k (ofN (od (val l)))).bind _).bind _ = _
  rw [lLen_eq _ k (ws_ofN _) (by omega) (by omega), bind_s, bind_s, val_ofN]
 rw [if_neg h, if_neg h]
theorem dTop_eq (s : Bool) (l : List Int) (e : Int) (k : Nat) (w : Wl l) (hk : 200000000000000000 ≤ k) : dyad_Top.f k s l e = some (toldS (val l) e (e + (bl (val l) : Int) - 1)) := by
 unfold dyad_Top.f toldS
 rw [right_eq s l e k w.ws w.len (by omega), bind_s]
 by_cases h : fits (val l) e = true
 ·have g := rs_fits w.ws w.len h
  rw [if_pos h, if_pos h, Zero_eq s l e k w.ws w.len (by omega), bind_s]
  by_cases z : val l = 0
  ·rw [if_pos (decide_eq_true z), if_pos z]
  rw [if_neg (by rw [decide_eq_true_iff]; exact z), if_neg z, One_eq s l e k g.t (by omega), bind_s, cf_ne z]
  have a := len_od (val l)
  have b := g.sm
  have t := tz_small z (by omega)
  have c := g.lo; have d := g.hi
  show (raw_Top.f k s (ofN (od (val l))) (e + (tz (val l) : Int))).bind _ = _
  have hbo := bl_od (val l)
  have he : e + (tz (val l) : Int) + (bl (od (val l)) : Int) - 1 = e + (bl (val l) : Int) - 1 := by omega
  rw [Top_eq _ _ _ k (ws_ofN _) (by omega) (by omega) (by omega) (by omega), bind_s, val_ofN, he]
 rw [if_neg h, if_neg h]
noncomputable def cutAS (s : Bool) (n : Nat) (e p : Int) (up : Bool) : Bool × List Int × Int × Int := if fits n e = true ∧ 1 ≤ p then roomS (cutS s n e p up) else bad 2
theorem wl_cut (s : Bool) {n : Nat} (e p : Int) (up : Bool) (h : (ofN n).length ≤ 2000) : Wl (cutS s n e p up).2.1 := by
 unfold cutS
 split
 ·exact wl_cf _ _ (by omega)
 refine wl_cf _ _ ?_
 have a := ofN_len_le (Nat.div_le_self (od n) (2 ^ ((bl (od n) : Int) - p).toNat))
 have b := len_od n
 generalize od n / 2 ^ ((bl (od n) : Int) - p).toNat = v at *
 have c : ∀ c, c ≤ 1 → (ofN (v + c)).length ≤ 2000 + 1 := fun c hc => len_succ (by omega) (by omega) c hc
 split
 ·have := c 1 (Nat.le_refl _); omega
 have := c 0 (by omega); omega
theorem dCut_eq (s : Bool) (l : List Int) (e p : Int) (up : Bool) (k : Nat) (w : Wl l) (hp2 : p < 9223372036854775808) (hk : 200000000000000000 ≤ k) : dyad_Cut.f k s l e p up = some (cutAS s (val l) e p up) := by
 unfold dyad_Cut.f cutAS
 by_cases q : p < 1
 ·rw [if_pos q, if_neg (fun c => by omega)]; rfl
 rw [if_neg q, right_eq s l e k w.ws w.len (by omega), bind_s]
 by_cases h : fits (val l) e = true
 ·have g := rs_fits w.ws w.len h
  have c := wl_cut s e p up g.sm
  rw [if_pos h, if_pos ⟨h, by omega⟩, Cut_eq s l e p up k g.t (by omega) hp2 (by omega), bind_s, room_eq _ _ _ k c.ws c.len (by omega), bind_s]
 rw [if_neg h, if_neg (fun c => h c.1)]; rfl
end Go.Proofs.YtemfckibdojbbaaDoor.Nf

namespace Go.Proofs.YtemfckibdojbbaaDoor.Nf
open Go.RowKit Go.Proofs.YtemfckibdojbbaaDoor.PAll Go.Proofs.YtemfckibdojbbaaDoorW.PrintWords Go.Proofs.YtemfckibdojbbaaDoorW.PrintLast Go.Proofs.YtemfckibdojbbaaDoorW.PrintMore Go.Proofs.YtemfckibdojbbaaDoor.Nm
set_option linter.unusedVariables false
set_option linter.unusedSimpArgs false
theorem wsame (s : Bool) {l : List Int} (e : Int) (k : Nat) (w : Wl l) (hk : 100000000000000000 ≤ k) : ulpref04_Same.f k s l e s l e = some true := by
 have := w.len
 unfold ulpref04_Same.f
 rw [if_pos (by simp), if_pos rfl, same_eq l k (by omega) (by omega), bind_s]
end Go.Proofs.YtemfckibdojbbaaDoor.Nf

namespace Go.Proofs.YtemfckibdojbbaaDoor.Nf
open Go.RowKit Go.Proofs.YtemfckibdojbbaaDoor.PAll Go.Proofs.YtemfckibdojbbaaDoorW.PrintWords Go.Proofs.YtemfckibdojbbaaDoorW.PrintLast Go.Proofs.YtemfckibdojbbaaDoorW.PrintMore Go.Proofs.YtemfckibdojbbaaDoor.Nm
set_option linter.unusedVariables false
set_option linter.unusedSimpArgs false
theorem room_ok {d : Bool × List Int × Int} (h : (roomS d).2.2.2 = 0) : fits (val d.2.1) d.2.2 = true ∧ roomS d = (d.1, d.2.1, d.2.2, 0) := by
 unfold roomS at *
 by_cases f : fits (val d.2.1) d.2.2 = true
 ·exact ⟨f, if_pos f⟩
 rw [if_neg f] at h; cases h
theorem room_bad {d : Bool × List Int × Int} (h : (roomS d).2.2.2 ≠ 0) : (roomS d).2.1 = [] := by
 unfold roomS at *
 split
 ·rename_i f; rw [if_pos f] at h; exact absurd rfl h
 rfl
theorem room_fits {d : Bool × List Int × Int} (h : fits (val d.2.1) d.2.2 = true) : roomS d = (d.1, d.2.1, d.2.2, 0) := by unfold roomS; exact if_pos h
theorem Vz_split {j : Nat} {e : Int} (h : lowE ≤ e) (z : Int) : Vz z (e + j) = z * 2 ^ j * 2 ^ (e - lowE).toNat := by rw [← Vz_shl h]; rfl
theorem cmpZ_lt {x y : Int} (h : x < y) : cmpZ x y = -1 := if_pos h
theorem cmpZ_eq (x : Int) : cmpZ x x = 0 := by unfold cmpZ; rw [if_neg (Int.lt_irrefl x), if_pos rfl]
theorem od_small {x p : Nat} (hp : 1 ≤ p) (h : x ≤ 2 ^ p) : bl (od x) ≤ p := by
 by_cases e : x = 2 ^ p
 ·rw [od_eq (t := p) (m := 0) (by rw [e]; simp)]
  rw [bl_le_iff]
  exact Nat.lt_of_lt_of_le (by decide : 2 * 0 + 1 < 2 ^ 1) (Nat.pow_le_pow_right (by decide) hp)
 rw [bl_le_iff]
 exact Nat.lt_of_le_of_lt (od_le x) (Nat.lt_of_le_of_ne h e)
end Go.Proofs.YtemfckibdojbbaaDoor.Nf

namespace Go.Proofs.YtemfckibdojbbaaDoor.Nf
open Go.RowKit Go.Proofs.YtemfckibdojbbaaDoor.PAll Go.Proofs.YtemfckibdojbbaaDoorW.PrintWords Go.Proofs.YtemfckibdojbbaaDoorW.PrintLast Go.Proofs.YtemfckibdojbbaaDoorW.PrintMore Go.Proofs.YtemfckibdojbbaaDoor.Nm
set_option linter.unusedVariables false
set_option linter.unusedSimpArgs false
theorem val_cf (s : Bool) (n : Nat) (e : Int) : val (cf s n e).2.1 = od n := by
  by_cases h : n = 0
  · rw [h, cf_zero, od_zero]; rfl
  rw [cf_ne h]; exact val_ofN _
theorem od_od (n : Nat) : od (od n) = od n := by
  by_cases h : n = 0
  · rw [h, od_zero, od_zero]
  obtain ⟨t, m, e⟩ := low_form n h
  rw [od_eq e]
  exact od_eq (t := 0) (by rw [Nat.pow_zero, Nat.one_mul])
theorem cut_all {s : Bool} {n : Nat} {e p : Int} {up : Bool} (h : (bl (od n) : Int) ≤ p) : cutS s n e p up = cf s n e := by unfold cutS; exact if_pos h
theorem cut_two {s : Bool} {n : Nat} {e p : Int} (he : lowE ≤ e) (hp : 1 ≤ p) (h : ¬ (bl (od n) : Int) ≤ p) :
    ∃ (lo hi : Nat) (U : Int), U = e + (tz n : Int) + ((bl (od n) : Int) - p) ∧ cutS s n e p false = cf s lo U ∧ cutS s n e p true = cf s hi U ∧ (lo ≠ 0 ∨ hi ≠ 0) ∧ bl (od lo) ≤ p.toNat ∧ bl (od hi) ≤ p.toNat ∧
      Vz (sg s lo) U < Vz (sg s n) e ∧ Vz (sg s n) e < Vz (sg s hi) U ∧ Vz (sg s hi) U - Vz (sg s lo) U = Vz 1 U ∧ lo ≤ od n ∧ hi ≤ od n := by
  have z : n ≠ 0 := by rintro rfl; rw [od_zero, bl_zero] at h; omega
  have o0 := od_ne z
  obtain ⟨N, hN⟩ : ∃ N : Nat, ((bl (od n) : Int) - p).toNat = N := ⟨_, rfl⟩
  have hN2 : (bl (od n) : Int) - p = (N : Int) := by omega
  have hN0 : 0 < N := by omega
  have hb : bl (od n) = N + p.toNat := by omega
  have odd := od_odd z N hN0
  have L : lowE ≤ e + (tz n : Int) := by omega
  have hv := vl_parts he s (n := n)
  have hlt := bl_lt (od n)
  have hge := bl_le o0
  obtain ⟨q, hq⟩ : ∃ q, od n / 2 ^ N = q := ⟨_, rfl⟩
  have dm := Nat.div_add_mod (od n) (2 ^ N)
  have lt := Nat.mod_lt (od n) (Nat.pow_pos (n := N) (show 0 < 2 by decide))
  rw [hq] at dm
  have q1 : q < 2 ^ p.toNat := by
    rw [← hq, Nat.div_lt_iff_lt_mul (Nat.pow_pos (by decide)), ← Nat.pow_add]
    rw [show p.toNat + N = bl (od n) by omega]
    exact hlt
  have p1 : 1 ≤ p.toNat := by omega
  have q0 : q ≠ 0 := by
    intro c
    rw [c, Nat.mul_zero, Nat.zero_add] at dm
    have : od n < 2 ^ N := by rw [← dm]; exact lt
    have : bl (od n) ≤ N := bl_le_iff.2 this
    omega
  have ql : q + 1 ≤ od n := by
    have : 2 * q ≤ 2 ^ N * q := Nat.mul_le_mul_right _ (by
      have := Nat.pow_le_pow_right (n := 2) (by decide) hN0
      rwa [Nat.pow_one] at this)
    omega
  have V : ∀ x : Int, Vz x (e + (tz n : Int) + (N : Int)) = x * 2 ^ N * 2 ^ (e + (tz n : Int) - lowE).toNat := fun x => Vz_split L x
  have V3 : Vz (sg s n) e = sg s (od n) * 2 ^ (e + (tz n : Int) - lowE).toNat := by rw [← hv]; rfl
  have hB := pow2_pos (e + (tz n : Int) - lowE).toNat
  have hlo : cutS s n e p false = cf s (q + if s = true then 1 else 0) (e + (tz n : Int) + (N : Int)) := by
    unfold cutS
    rw [if_neg h, hN, hq, hN2]
    cases s <;> rfl
  have hhi : cutS s n e p true = cf s (q + if s = true then 0 else 1) (e + (tz n : Int) + (N : Int)) := by
    unfold cutS
    rw [if_neg h, hN, hq, hN2]
    cases s <;> rfl
  refine ⟨_, _, e + (tz n : Int) + (N : Int), by rw [hN2], hlo, hhi, ?_, ?_, ?_, ?_, ?_, ?_, ?_, ?_⟩
  · left; omega
  · cases s
    · exact od_small p1 (by show q + 0 ≤ _; omega)
    exact od_small p1 (by show q + 1 ≤ _; omega)
  · cases s
    · exact od_small p1 (by show q + 1 ≤ _; omega)
    exact od_small p1 (by show q + 0 ≤ _; omega)
  all_goals
    first
    | (cases s
       · show q + 0 ≤ _; omega
       show q + 1 ≤ _; omega)
    | (cases s
       · show q + 1 ≤ _; omega
       show q + 0 ≤ _; omega)
    | skip
  all_goals
    rw [V]
    try rw [V]
    try rw [V]
    try rw [V3]
    have eJ := pow_int N
    rw [← eJ]
    generalize (2 : Int) ^ (e + (tz n : Int) - lowE).toNat = B at *
    generalize hr : od n % 2 ^ N = r at *
    generalize (2 : Nat) ^ N = J at *
    generalize od n = o at *
    have dm2 : (o : Int) = (q : Int) * (J : Int) + (r : Int) := by rw [← dm, Int.natCast_add, Int.natCast_mul, Int.mul_comm]
    have qJ : ((q + 1 : Nat) : Int) * (J : Int) = (q : Int) * (J : Int) + (J : Int) := by rw [Int.natCast_add, Int.add_mul]; show _ + 1 * (J : Int) = _; rw [Int.one_mul]
    have qJ0 : ((q + 0 : Nat) : Int) * (J : Int) = (q : Int) * (J : Int) := by rw [Nat.add_zero]
  · refine Int.mul_lt_mul_of_pos_right ?_ hB
    cases s
    · show ((q + 0 : Nat) : Int) * (J : Int) < (o : Int)
      rw [qJ0]; omega
    show -((q + 1 : Nat) : Int) * (J : Int) < -(o : Int)
    rw [Int.neg_mul, qJ]; omega
  · refine Int.mul_lt_mul_of_pos_right ?_ hB
    cases s
    · show (o : Int) < ((q + 1 : Nat) : Int) * (J : Int)
      rw [qJ]; omega
    show -(o : Int) < -((q + 0 : Nat) : Int) * (J : Int)
    rw [Int.neg_mul, qJ0]; omega
  rw [← Int.sub_mul, Int.one_mul]
  congr 1
  cases s
  · show ((q + 1 : Nat) : Int) * (J : Int) - ((q + 0 : Nat) : Int) * (J : Int) = (J : Int)
    rw [qJ, qJ0]; omega
  show -((q + 0 : Nat) : Int) * (J : Int) - -((q + 1 : Nat) : Int) * (J : Int) = (J : Int)
  rw [Int.neg_mul, Int.neg_mul, qJ, qJ0]; omega
end Go.Proofs.YtemfckibdojbbaaDoor.Nf

namespace Go.Proofs.YtemfckibdojbbaaDoor.Pure
open Go.RowKit Go.Proofs.YtemfckibdojbbaaDoor.PAll Go.Proofs.YtemfckibdojbbaaDoorW.PrintWords Go.Proofs.YtemfckibdojbbaaDoorW.PrintLast Go.Proofs.YtemfckibdojbbaaDoorW.PrintMore
set_option linter.unusedVariables false
set_option linter.unusedSimpArgs false
open Go.Proofs.YtemfckibdojbbaaDoor.Nm Go.Proofs.YtemfckibdojbbaaDoor.Nf
theorem few_eq (s : Bool) (x : Nat) (e : Int) (p : Int) (k : Nat) (w : Wl (cf s x e).2.1) (f : fits (val (cf s x e).2.1) (cf s x e).2.2 = true) (hp : (bl (od x) : Int) ≤ p) (hk : 200000000000000000 ≤ k) : ulplaw04_few.f k (cf s x e).1 (cf s x e).2.1 (cf s x e).2.2 p = some true := by
 unfold ulplaw04_few.f
 rw [dSize_eq _ _ _ k w hk, bind_s]
 unfold toldS
 rw [if_pos f]
 by_cases z : x = 0
 ·subst z
  rw [cf_zero]
  rfl
 have : val (cf s x e).2.1 ≠ 0 := by rw [val_cf]; exact od_ne z
 rw [if_neg this]
 show (if (0 : Int) = 5 then _ else (if (0 : Int) = 0 then some (decide ((bl (od (val (cf s x e).2.1)) : Int) ≤ p)) else _)) = _
 rw [if_neg (by decide), if_pos rfl, val_cf, od_od, decide_eq_true hp]
theorem DyadCut (s0 : Bool) (l0 : List Int) (e0 : Int) (p : Int) (n0 : l0.length * 8 ≤ 140737488351232) (w0 : ∀ x ∈ l0, (Lit.int .u64 x).wf = true) (_ : (Lit.int .i64 e0).wf = true) (h1 : (Lit.int .i64 p).wf = true) : ∃ k, ulplaw04_DyadCut.f k s0 l0 e0 p = some true := by
 have h0 : Wl l0 := ⟨ws_wf w0, by omega⟩
 have hp2 := (i64_wf h1).2
 obtain ⟨k, hk⟩ : ∃ k, k = 300000000000000000 := ⟨_, rfl⟩
 have hk0 : 300000000000000000 ≤ k := by omega
 clear hk
 refine ⟨k + 4, ?_⟩
 unfold ulplaw04_DyadCut.f
 rw [begins_eq (k + 4) (by omega), bind_s, if_pos rfl, dCut_eq s0 l0 e0 p false (k + 4) h0 hp2 (by omega), bind_s, dCut_eq s0 l0 e0 p true (k + 4) h0 hp2 (by omega), bind_s]
 have emp : ∀ up, (cutAS s0 (val l0) e0 p up).2.2.2 ≠ 0 → (cutAS s0 (val l0) e0 p up).2.1 = [] := by
  intro up h
  unfold cutAS at *
  split
  ·rename_i c; rw [if_pos c] at h; exact room_bad h
  rfl
 by_cases ok : (cutAS s0 (val l0) e0 p false).2.2.2 = 0 ∧ (cutAS s0 (val l0) e0 p true).2.2.2 = 0
 ·have g : fits (val l0) e0 = true ∧ 1 ≤ p := by
   refine Classical.byContradiction fun c => ?_
   have := ok.1
   unfold cutAS at this; rw [if_neg c] at this; cases this
  obtain ⟨g, hp⟩ := g
  have cs : ∀ up, cutAS s0 (val l0) e0 p up = roomS (cutS s0 (val l0) e0 p up) := fun up => by unfold cutAS; exact if_pos ⟨g, hp⟩
  rw [cs, cs] at ok ⊢
  obtain ⟨f1, r1⟩ := room_ok ok.1
  obtain ⟨f2, r2⟩ := room_ok ok.2
  rw [r1, r2]
  clear ok cs emp
  have rd := rs_fits h0.ws h0.len g
  have wl1 := wl_cut s0 e0 p false rd.sm
  have wl2 := wl_cut s0 e0 p true rd.sm
  have le := rd.t.lowE
  obtain ⟨b1, b2, b3⟩ := fits_iff.1 g
  have hbl := bl_len (len_big b1)
  have hbo : bl (od (val l0)) ≤ bl (val l0) := bl_mono (od_le _)
  show (if (0 : Int) = 0 then ulplaw04_DyadCut.j0 (k + 4) p 0 0 ((0 : Int) != 0) s0 l0 e0 (cutS s0 (val l0) e0 p false).1 (cutS s0 (val l0) e0 p false).2.1 (cutS s0 (val l0) e0 p false).2.2 (cutS s0 (val l0) e0 p true).1 (cutS s0 (val l0) e0 p true).2.1 (cutS s0 (val l0) e0 p true).2.2 else _) = _
  rw [if_pos rfl]
  simp only [ulplaw04_DyadCut.j0]
  rw [if_neg (by decide), dCmp_eq _ _ _ _ _ _ (k + 3) wl1 h0 (by omega), bind_s, dCmp_eq _ _ _ _ _ _ (k + 3) h0 wl2 (by omega), bind_s]
  unfold cmpS
  rw [if_pos (c := fits (val (cutS s0 (val l0) e0 p false).2.1) (cutS s0 (val l0) e0 p false).2.2 = true ∧ fits (val l0) e0 = true) ⟨f1, g⟩, if_pos (c := fits (val l0) e0 = true ∧ fits (val (cutS s0 (val l0) e0 p true).2.1) (cutS s0 (val l0) e0 p true).2.2 = true) ⟨g, f2⟩]
  simp only []
  rw [if_pos trivial, if_pos trivial]
  by_cases sz : (bl (od (val l0)) : Int) ≤ p
  ·rw [cut_all sz] at *
   rw [cut_all sz] at *
   have ev : vl (cf s0 (val l0) e0).1 (cf s0 (val l0) e0).2.1 (cf s0 (val l0) e0).2.2 = vl s0 l0 e0 := vl_cf le s0 (val l0)
   rw [ev, cmpZ_eq, if_neg (by decide), if_neg (by decide), if_pos rfl, if_pos rfl]
   simp only [ulplaw04_DyadCut.j1]
   rw [if_neg (by decide), few_eq s0 (val l0) e0 p (k + 2) wl1 f1 sz (by omega), bind_s, if_pos rfl, bind_s]
   simp only [ulplaw04_DyadCut.j2]
   rw [if_neg (by decide), dSize_eq _ _ _ (k + 1) h0 (by omega), bind_s]
   unfold toldS
   rw [if_pos g]
   by_cases z : val l0 = 0
   ·rw [if_pos z]; rfl
   rw [if_neg z]
   dsimp only
   rw [if_pos rfl, if_pos trivial, decide_eq_true sz]
  obtain ⟨lo, hi, U, hU, c1, c2, nz, d1, d2, v1, v2, v3, m1, m2⟩ := cut_two (s := s0) le hp sz
  rw [c1] at f1 r1 wl1 ⊢
  rw [c2] at f2 r2 wl2 ⊢
  have z : val l0 ≠ 0 := by intro c; rw [c, od_zero, bl_zero] at sz; omega
  have lU : lowE ≤ U := by omega
  have e1 := vl_cf lU s0 lo
  have e2 := vl_cf lU s0 hi
  have e3 : vl s0 l0 e0 = Vz (sg s0 (val l0)) e0 := rfl
  have a1 : cmpZ (vl (cf s0 lo U).1 (cf s0 lo U).2.1 (cf s0 lo U).2.2) (vl s0 l0 e0) = -1 := by rw [e1, e3]; exact cmpZ_lt v1
  have a2 : cmpZ (vl s0 l0 e0) (vl (cf s0 hi U).1 (cf s0 hi U).2.1 (cf s0 hi U).2.2) = -1 := by rw [e2, e3]; exact cmpZ_lt v2
  rw [a1, a2, if_neg (by decide), if_neg (by decide), if_neg (by decide)]
  rw [show ((-1 : Int) == 0) = false from rfl]
  simp only [ulplaw04_DyadCut.j1]
  rw [if_neg (by decide), few_eq s0 lo U p (k + 2) wl1 f1 (by omega) (by omega), bind_s, if_pos rfl, few_eq s0 hi U p (k + 2) wl2 f2 (by omega) (by omega), bind_s]
  simp only [ulplaw04_DyadCut.j2]
  rw [show (!true) = false from rfl, if_neg (by decide), dSize_eq _ _ _ (k + 1) h0 (by omega), bind_s, dTop_eq _ _ _ (k + 1) h0 (by omega)]
  unfold toldS
  rw [if_pos g, if_neg z, if_pos g, if_neg z]
  show (if (0 : Int) = 0 then (if (-1 : Int) = 0 then _ else ((some (e0 + (bl (val l0) : Int) - 1, (0 : Int))).bind _)) else _) = _
  rw [if_pos rfl, if_neg (by decide), bind_s]
  show (if (0 : Int) = 0 then ulplaw04_DyadCut.j3 (k + 1) p (bl (od (val l0)) : Int) 0 (e0 + (bl (val l0) : Int) - 1) (decide ((wrap64 ((wrap64 ((e0 + (bl (val l0) : Int) - 1) - p)) + 1)) < (-32768))) (cf s0 lo U).1 (cf s0 lo U).2.1 (cf s0 lo U).2.2 (cf s0 hi U).1 (cf s0 hi U).2.1 (cf s0 hi U).2.2 else _) = _
  rw [if_pos rfl]
  have hod := bl_od (val l0)
  have eU : wrap64 ((wrap64 ((e0 + (bl (val l0) : Int) - 1) - p)) + 1) = U := by
   rw [wrapS (x := (e0 + (bl (val l0) : Int) - 1) - p) (by omega) (by omega), wrapS (by omega) (by omega)]; omega
  rw [eU]
  simp only [ulplaw04_DyadCut.j3]
  rw [eU]
  by_cases q : U < -32768
  ·rw [if_pos (decide_eq_true q)]; rfl
  rw [if_neg (by rw [decide_eq_true_iff]; exact q)]
  have U2 : U ≤ 32768 := by
   rcases nz with c | c
   ·have := (fits_iff.1 f1).2.2
    rw [cf_ne c] at this
    have : U + (tz lo : Int) ≤ 32768 := this
    omega
   have := (fits_iff.1 f2).2.2
   rw [cf_ne c] at this
   have : U + (tz hi : Int) ≤ 32768 := this
   omega
  have hb1 : 1 < big := by rw [big_lt_iff]; rw [show bl 1 = 1 by rw [bl_pos (by decide), bl_zero]]; omega
  have o1 : cf false 1 U = (false, ofN 1, U) := by
   rw [cf_ne (by decide), od_eq (t := 0) (m := 0) (by decide), tz_eq (t := 0) (m := 0) (by decide)]
   show (false, ofN 1, U + ((0 : Nat) : Int)) = _
   rw [show U + ((0 : Nat) : Int) = U by omega]
  have l1 : ofN 1 = [1] := by rw [ofN_pos (by decide)]; show ((1 % 18446744073709551616 : Nat) : Int) :: ofN 0 = _; rw [ofN_zero]; rfl
  have e4 : twoS (vl (cf s0 hi U).1 (cf s0 hi U).2.1 (cf s0 hi U).2.2 - vl (cf s0 lo U).1 (cf s0 lo U).2.1 (cf s0 lo U).2.2) (val (cf s0 hi U).2.1) (cf s0 hi U).2.2 (val (cf s0 lo U).2.1) (cf s0 lo U).2.2 = (false, [1], U, 0) := by
   unfold twoS
   rw [if_pos ⟨f2, f1⟩, e1, e2, v3, ← cz_Vz lU]
   show roomS (cz (sg false 1) U) = _
   rw [← cf_cz, o1]
   have ff : fits (val (ofN 1)) U = true := fits_iff.2 ⟨by rw [val_ofN]; exact hb1, by omega, U2⟩
   rw [room_fits (d := (false, ofN 1, U)) ff, l1]
  have w1 : Wl [1] := ⟨ws_cons.2 ⟨⟨by omega, by omega⟩, ws_nil⟩, by show 1 < 17592186044000; omega⟩
  rw [dSub_eq _ _ _ _ _ _ k wl2 wl1 (by omega), bind_s, e4]
  show (if (0 : Int) = 0 then (if (bl (od (val l0)) : Int) > p then ((ulpref04_Same.f k false [1] U false [1] U).bind _) else _) else _) = _
  rw [if_pos rfl, if_pos (by omega), wsame false U k w1 (by omega), bind_s]
 have z : ∀ b l e b2 l2 e2, ((cutAS s0 (val l0) e0 p false).2.2.2 ≠ 0 → l = []) → ((cutAS s0 (val l0) e0 p true).2.2.2 ≠ 0 → l2 = []) → ulplaw04_DyadCut.j0 (k + 4) p (cutAS s0 (val l0) e0 p false).2.2.2 (cutAS s0 (val l0) e0 p true).2.2.2 true s0 l0 e0 b l e b2 l2 e2 = some true := by
  intro b l e b2 l2 e2 c1 c2
  simp only [ulplaw04_DyadCut.j0]
  rw [if_pos trivial]
  by_cases x : (cutAS s0 (val l0) e0 p false).2.2.2 = 0
  ·rw [if_pos x]
   by_cases y : (cutAS s0 (val l0) e0 p true).2.2.2 = 0
   ·rw [if_pos y]
   rw [if_neg y, c2 y]; rfl
  rw [if_neg x, c1 x, if_pos (show ((([] : List Int).length : Nat) : Int) = 0 from rfl)]
  by_cases y : (cutAS s0 (val l0) e0 p true).2.2.2 = 0
  ·rw [if_pos y]
  rw [if_neg y, c2 y]; rfl
 by_cases x : (cutAS s0 (val l0) e0 p false).2.2.2 = 0
 ·have y : (cutAS s0 (val l0) e0 p true).2.2.2 ≠ 0 := fun c => ok ⟨x, c⟩
  rw [if_pos x, bne_iff_ne.2 y]
  exact z _ _ _ _ _ _ (emp false) (emp true)
 rw [if_neg x]
 exact z _ _ _ _ _ _ (emp false) (emp true)
end Go.Proofs.YtemfckibdojbbaaDoor.Pure
