/- Rows of floats: are all of them within the bounds; walked. -/
import Derived.Test.YteaghcchalfgmaaNXp
import Derived.Test.YteaghcchalfgmaaNXv
namespace Go.Proofs.Yteaghcchalfgmaa.PAll
open Go.RowKit Go.Proofs.YteaghcchalfgmaaW.PrintWords Go.Proofs.YteaghcchalfgmaaW.PrintLast Go.Proofs.YteaghcchalfgmaaW.PrintMore
open Go.Proofs.Yteaghcchalfgmaa.Nm Ieee
set_option linter.unusedVariables false
set_option linter.unusedSimpArgs false
attribute [local go_sem] run_store_float ext32 ext60 un_neg

abbrev kf : Kd Nat := Kd.scalar (Value.float .f64) (fun _ => rfl)
theorem at_f {w : World} {A : Option Addr} {n : Nat} {xs : List Nat} (h : Kd.C kf w A n xs) (i : Int) (h0 : 0 ≤ i) (h1 : i < n) : ∃ ad, A = some ad ∧ w.cell? (ad.add i.toNat) = some (.float .f64 (rdOf 0 xs i)) :=
  ReadsOf.at_ (Kd.reads_of_C (enc := Value.float .f64) (d := (0 : Nat)) (h1 := fun _ => rfl) h) i h0 h1
theorem rt_fOk (x : Nat) : Rt x 0 = fOk x := rt_one x
theorem wrap_up {i : Nat} (h : i ≤ 2000) : wrap64 ((i : Int) + 1) = ((i + 1 : Nat) : Int) := by
  unfold wrap64; omega
/-- why floats can't be gone through. -/
def okE (l : List Nat) : Int := if 1024 < l.length then 3 else if l.all fOk = true then 0 else 2
def at' (l : List Nat) (i : Nat) : Nat := rdOf 0 l (i : Int)
theorem at_mem {l : List Nat} {i : Nat} (h : i < l.length) : at' l i ∈ l := by
  have e : at' l i = l[i] := by unfold at' rdOf; simp [h]
  rw [e]; exact List.getElem_mem h
theorem all_of {l : List Nat} (h : ∀ j, j < l.length → fOk (at' l j) = true) : l.all fOk = true := by
  rw [List.all_eq_true]
  intro x hx
  obtain ⟨j, hj, rfl⟩ := List.getElem_of_mem hx
  have e : at' l j = l[j] := by unfold at' rdOf; simp [hj]
  rw [← e]; exact h j hj
theorem not_all {l : List Nat} {i : Nat} (h : i < l.length) (hf : fOk (at' l i) = false) : ¬ l.all fOk = true := by
  intro e
  have := List.all_eq_true.1 e _ (at_mem h)
  rw [hf] at this; cases this

set_option maxHeartbeats 4000000 in
set_option maxRecDepth 100000 in
theorem wrong_calls (A : Option Addr) (c : Nat) (l : List Nat) (hl : ∀ x ∈ l, x < 18446744073709551616) (w : World) (hr : Kd.C kf w A l.length l) :
    Calls Try.prog 29 #[.slice A l.length c] w fun e w' => e = .returned (.int .i64 (okE l)) ∧ Below w.heap.size w w' := by
  have hu26 := Try.underlying26
  have HR := Aside0.mk hr
  have HL := Aside0.mk hl
  clear hr hl
  by_cases hlen : 1024 < l.length
  · have e : okE l = 3 := if_pos hlen
    rw [e]
    have d1 : decide ((l.length : Int) > 1024) = true := decide_eq_true (by omega)
    have d2 : decide (1024 < (l.length : Int)) = true := decide_eq_true (by omega)
    go_enter Try.func29, Try.ntmps29
    go_wp2
    go_ret
    exact ⟨rfl, Below.refl _ _⟩
  have d1 : decide ((l.length : Int) > 1024) = false := decide_eq_false (by omega)
  have d2 : decide (1024 < (l.length : Int)) = false := decide_eq_false (by omega)
  go_enter Try.func29, Try.ntmps29
  go_wp2
  go_loopg [10] (l.length + 1) (fun kq v w' => ∃ (i : Nat), v = .int .i64 (i : Int) ∧ Aside0 (i + kq = l.length + 1) ∧ Aside0 (i ≤ l.length) ∧ Aside0 (∀ j, j < i → fOk (at' l j) = true) ∧ Aside0 (Below w.heap.size w w'))
  case atStart => exact ⟨0, rfl, ⟨by omega⟩, ⟨Nat.zero_le _⟩, ⟨fun j hj => absurd hj (Nat.not_lt_zero _)⟩, ⟨Below.refl _ _⟩⟩
  case round =>
    obtain ⟨i, rfl, HK, HI, HA, HB⟩ := hrel
    cases gk with
    | zero => exact absurd HK.out (by have := HI.out; omega)
    | succ k1 =>
      by_cases c2 : i < l.length
      · have c2b : decide ((i : Int) < (l.length : Int)) = true := decide_eq_true (by omega)
        have p1 : 0 ≤ (i : Int) := by omega
        have q1 : (i : Int) < (l.length : Int) := by omega
        obtain ⟨ad, e, hx⟩ := at_f (Kd.C_below HR.out HB.out) (i : Int) p1 q1
        cases e
        replace hx : wr.cell? (ad.add i) = some (.float .f64 (at' l i)) := hx
        replace p1 := eq_true p1
        replace q1 := eq_true q1
        have hlt := HL.out _ (at_mem c2)
        cases hf : fOk (at' l i)
        · have e2 : okE l = 2 := by unfold okE; rw [if_neg hlen, if_neg (not_all c2 hf)]
          go_wp2_with (first | ((with_reducible refine gate_dst (N := 16) rfl ?_); refine goesL_ (some 16) rfl rfl Try.func22 (by kernel_rfl) rfl #[.agg #[.float .f64 (at' l i), .float .f64 0]] rfl (by (try simp only [List.map_toArray, List.map_cons, List.map_nil]); first | done | rfl) ?_; refine (Right_calls (at' l i) 0 hlt (by decide) _).mono ?_; rintro e_ w3 ⟨rfl, hb⟩; refine ⟨_, rfl, ?_⟩; have m_HB := Aside0.mk (below_step HB.out hb); clear HB hb; have HB := m_HB; clear m_HB; (try simp only [rt_fOk])) | (simp only [hf]; try go_simp))
          go_ret
          exact ⟨by first | (rw [e2]; rfl) | rfl, HB.out⟩
        · have HA' := Aside0.mk (show ∀ j, j < i + 1 → fOk (at' l j) = true from fun j hj => by
            by_cases e : j = i
            · rw [e]; exact hf
            · exact HA.out j (by omega))
          go_wp2_with (first | ((with_reducible refine gate_dst (N := 16) rfl ?_); refine goesL_ (some 16) rfl rfl Try.func22 (by kernel_rfl) rfl #[.agg #[.float .f64 (at' l i), .float .f64 0]] rfl (by (try simp only [List.map_toArray, List.map_cons, List.map_nil]); first | done | rfl) ?_; refine (Right_calls (at' l i) 0 hlt (by decide) _).mono ?_; rintro e_ w3 ⟨rfl, hb⟩; refine ⟨_, rfl, ?_⟩; have m_HB := Aside0.mk (below_step HB.out hb); clear HB hb; have HB := m_HB; clear m_HB; (try simp only [rt_fOk])) | (simp only [hf]; try go_simp))
          go_roundg k1
          case measure => have := HK.out; omega
          case rel => exact ⟨i + 1, (by first | rfl | rw [wrap_up (by omega)]), ⟨by have := HK.out; omega⟩, ⟨by omega⟩, HA', HB⟩
      · have c2b : decide ((i : Int) < (l.length : Int)) = false := decide_eq_false (by omega)
        have e2 : okE l = 0 := by
          unfold okE
          rw [if_neg hlen, if_pos (all_of (fun j hj => HA.out j (by omega)))]
        go_wp2
        go_ret
        exact ⟨by first | (rw [e2]; rfl) | rfl, HB.out⟩

set_option maxHeartbeats 4000000 in
set_option maxRecDepth 100000 in
theorem floats_calls (A : Option Addr) (c : Nat) (l : List Nat) (hl : ∀ x ∈ l, x < 18446744073709551616) (w : World) (hr : Kd.C kf w A l.length l) :
    Calls Try.prog 44 #[.slice A l.length c] w fun e w' => e = .returned (.int .i64 (okE l)) ∧ Below w.heap.size w w' := by
  have hu26 := Try.underlying26
  have HR := Aside0.mk hr
  have HL := Aside0.mk hl
  clear hr hl
  by_cases hlen : 1024 < l.length
  · have e : okE l = 3 := if_pos hlen
    rw [e]
    have d1 : decide ((l.length : Int) > 1024) = true := decide_eq_true (by omega)
    have d2 : decide (1024 < (l.length : Int)) = true := decide_eq_true (by omega)
    go_enter Try.func44, Try.ntmps44
    go_wp2
    go_ret
    exact ⟨rfl, Below.refl _ _⟩
  have d1 : decide ((l.length : Int) > 1024) = false := decide_eq_false (by omega)
  have d2 : decide (1024 < (l.length : Int)) = false := decide_eq_false (by omega)
  go_enter Try.func44, Try.ntmps44
  go_wp2
  go_loopg [3] (l.length + 1) (fun kq v w' => ∃ (i : Nat), v = .int .i64 (i : Int) ∧ Aside0 (i + kq = l.length + 1) ∧ Aside0 (i ≤ l.length) ∧ Aside0 (∀ j, j < i → fOk (at' l j) = true) ∧ Aside0 (Below w.heap.size w w'))
  case atStart => exact ⟨0, rfl, ⟨by omega⟩, ⟨Nat.zero_le _⟩, ⟨fun j hj => absurd hj (Nat.not_lt_zero _)⟩, ⟨Below.refl _ _⟩⟩
  case round =>
    obtain ⟨i, rfl, HK, HI, HA, HB⟩ := hrel
    cases gk with
    | zero => exact absurd HK.out (by have := HI.out; omega)
    | succ k1 =>
      by_cases c2 : i < l.length
      · have c2b : decide ((i : Int) < (l.length : Int)) = true := decide_eq_true (by omega)
        have p1 : 0 ≤ (i : Int) := by omega
        have q1 : (i : Int) < (l.length : Int) := by omega
        obtain ⟨ad, e, hx⟩ := at_f (Kd.C_below HR.out HB.out) (i : Int) p1 q1
        cases e
        replace hx : wr.cell? (ad.add i) = some (.float .f64 (at' l i)) := hx
        replace p1 := eq_true p1
        replace q1 := eq_true q1
        have hlt := HL.out _ (at_mem c2)
        cases hf : fOk (at' l i)
        · have e2 : okE l = 2 := by unfold okE; rw [if_neg hlen, if_neg (not_all c2 hf)]
          go_wp2_with (first | ((with_reducible refine gate_dst (N := 17) rfl ?_); refine goesL_ (some 17) rfl rfl Try.func48 (by kernel_rfl) rfl #[.float .f64 (at' l i)] rfl (by (try simp only [List.map_toArray, List.map_cons, List.map_nil]); first | done | rfl) ?_; refine (float_calls (at' l i) hlt _).mono ?_; rintro e_ w3 ⟨rfl, hw3⟩; obtain rfl := hw3.symm; refine ⟨_, rfl, ?_⟩) | (simp only [hf]; try go_simp))
          go_ret
          exact ⟨by first | (rw [e2]; rfl) | rfl, HB.out⟩
        · have HA' := Aside0.mk (show ∀ j, j < i + 1 → fOk (at' l j) = true from fun j hj => by
            by_cases e : j = i
            · rw [e]; exact hf
            · exact HA.out j (by omega))
          go_wp2_with (first | ((with_reducible refine gate_dst (N := 17) rfl ?_); refine goesL_ (some 17) rfl rfl Try.func48 (by kernel_rfl) rfl #[.float .f64 (at' l i)] rfl (by (try simp only [List.map_toArray, List.map_cons, List.map_nil]); first | done | rfl) ?_; refine (float_calls (at' l i) hlt _).mono ?_; rintro e_ w3 ⟨rfl, hw3⟩; obtain rfl := hw3.symm; refine ⟨_, rfl, ?_⟩) | (simp only [hf]; try go_simp))
          go_roundg k1
          case measure => have := HK.out; omega
          case rel => exact ⟨i + 1, (by first | rfl | rw [wrap_up (by omega)]), ⟨by have := HK.out; omega⟩, ⟨by omega⟩, HA', HB⟩
      · have c2b : decide ((i : Int) < (l.length : Int)) = false := decide_eq_false (by omega)
        have e2 : okE l = 0 := by
          unfold okE
          rw [if_neg hlen, if_pos (all_of (fun j hj => HA.out j (by omega)))]
        go_wp2
        go_ret
        exact ⟨by first | (rw [e2]; rfl) | rfl, HB.out⟩
end Go.Proofs.Yteaghcchalfgmaa.PAll
