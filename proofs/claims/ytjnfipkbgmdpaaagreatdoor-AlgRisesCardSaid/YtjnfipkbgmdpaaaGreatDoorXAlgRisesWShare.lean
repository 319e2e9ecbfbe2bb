/- Words of the printed texts, cut down to what is used. -/
import Derived.Test.YtjnfipkbgmdpaaaGreatDoorXAlgRisesWKept
namespace Go.Proofs.YtjnfipkbgmdpaaaGreatDoorW.PrintWords
open Go.RowKit
def Z2F (P : World → Prop) (W : World) (ok : Nat → Prop) : Prop := ∀ W' : World, (∀ k, ok k → k < W.heap.size → W'.heap[k]? = W.heap[k]?) → P W'
theorem ZdU {W W1 : World} {k : Nat} (h : W1.heap[k]? = W.heap[k]?) (hlt : k < W.heap.size) : k < W1.heap.size := by
 rw [Array.getElem?_eq_getElem hlt] at h
 exact (Array.getElem?_eq_some_iff.1 h).1
namespace Z2F
variable {P Q : World → Prop} {W W1 : World} {ok ok' : Nat → Prop}
theorem now (h : Z2F P W ok) : P W := h W (fun _ _ _ => rfl)
theorem mono (h : Z2F P W ok) (hok : ∀ k, ok k → ok' k) : Z2F P W ok' := fun W' hW => h W' (fun k hk hlt => hW k (hok k hk) hlt)
theorem bound (h : Z2F P W ok) : Z2F P W (fun k => ok k ∧ k < W.heap.size) := fun W' hW => h W' (fun k hk hlt => hW k ⟨hk, hlt⟩ hlt)
theorem step (h : Z2F P W ok) (hm : ∀ k, ok k → k < W.heap.size → W1.heap[k]? = W.heap[k]?) : Z2F P W1 ok := fun W' hW => h W' (fun k hk hlt => (hW k hk (ZdU (hm k hk hlt) hlt)).trans (hm k hk hlt))
theorem imp (h : Z2F P W ok) (hi : ∀ W', P W' → Q W') : Z2F Q W ok := fun W' hW => hi W' (h W' hW)
theorem old (h : Z2F P W ok) (hb : Below W.heap.size W W1) : Z2F P W1 (fun k => ok k ∧ k < W.heap.size) := (h.bound).step (fun k _ hlt => hb.block k hlt)
end Z2F
namespace Kd
def F {α : Type} (d : Kd α) (W : World) (ok : Nat → Prop) (A : Option Addr) (n : Nat) (xs : List α) : Prop := Z2F (fun W => d.C W A n xs) W ok
def FK {α : Type} (d : Kd α) (W : World) (ok : Nat → Prop) (x : α) (c : List Value) : Prop := Z2F (fun W => d.K W x c) W ok
section
variable {α β : Type} {d : Kd α} {e base n n' cc g N : Nat} {ok ok' okp S : Nat → Prop} {w w0 w1 W W1 : World} {A A' : Option Addr} {u v v1 : Value} {xs : List α} {xs' : List β} {d' : Kd β} {x : α} {c : List Value}
theorem Zg3 (h : F d W ok A n xs) : d.C W A n xs := Z2F.now h
theorem Z5z (h : F d W ok A n xs) (hok : ∀ k, ok k → ok' k) : F d W ok' A n xs := Z2F.mono h hok
theorem Z78 (h : F d W ok A n xs) : F d W (fun k => ok k ∧ k < W.heap.size) A n xs := Z2F.bound h
theorem Z8g (h : F d W ok A n xs) (hm : ∀ k, ok k → k < W.heap.size → W1.heap[k]? = W.heap[k]?) : F d W1 ok A n xs := Z2F.step h hm
theorem Zdx (h : F d W ok A n xs) (hi : ∀ W', d.C W' A n xs → d'.C W' A' n' xs') : F d' W ok A' n' xs' := Z2F.imp h hi
theorem Z0u (h : F d W ok A n xs) (hb : Below W.heap.size W W1) : F d W1 ok A n xs := Z8g h (fun k _ hlt => hb.block k hlt)
theorem ZdV (h : F d W ok A n xs) (o : Obj) : F d (W.alloc o) ok A n xs := Z0u h (Z0q (Below.refl _ _) o)
theorem Zf6 (h : F d W ok A n xs) : F d W.drew ok A n xs := Z0u h (Z59 (Below.refl _ _))
theorem ZdW (h : F d W ok A n xs) (m : Nat) : F d (W.drewN m) ok A n xs := Z0u h (Z0p (Below.refl _ _) m)
theorem Zg4 (h : F d W ok A n xs) {p : Addr} (hok : ∀ k, ok k → k ≠ p.block) (u : Value) : F d (W.setCell p u) ok A n xs := Z8g h (fun k hk _ => Below.heap_setCell W p u k (hok k hk))
theorem Zf7 (h : F d W ok A n xs) (hk : Kept W W1 S) (hok : ∀ k, ok k → ¬ S k) : F d W1 ok A n xs := Z8g h (fun k ho hlt => hk.2 k hlt (hok k ho))
theorem Zg5 (d : Kd α) (W : World) (ok : Nat → Prop) : F d W ok none ([] : List α).length [] := fun W' _ => ZfY d W'
theorem Zct (h : F d W ok A n xs) (hbase : ∀ k, v.ownBlock = some k → W.heap.size ≤ k) (hb : Below W.heap.size W W1) : F d W1 (fun k => ok k ∧ some k ≠ v.ownBlock) A n xs :=
 Z5z (Z2F.old h hb) (fun k hk => ⟨hk.1, fun he => by have := hbase k he.symm; have := hk.2; omega⟩)
theorem Zcu (h : F d W ok A n xs) (a : Nat) (ha : W.heap.size ≤ a) : F d W (fun k => ok k ∧ k ≠ a) A n xs := Z5z (Z78 h) (fun k hk => ⟨hk.1, by have := hk.2; omega⟩)
theorem ZdX (h : F d W (fun k => ok k ∧ some k ≠ v.ownBlock) A n xs) (hg : W.grownBy W1 v.ownBlock) (hat : v1.ownBlock = v.ownBlock ∨ ∃ b, v1.ownBlock = some b ∧ W.heap.size ≤ b) : F d W1 (fun k => ok k ∧ some k ≠ v1.ownBlock) A n xs := by
 refine Z5z (Z2F.step (Z78 h) (fun k hk hlt => hg.block k hlt hk.1.2)) (fun k hk => ⟨hk.1.1, ?_⟩)
 rcases hat with hat | ⟨b, hb, hle⟩
 ·rw [hat]; exact hk.1.2
 rw [hb]
 intro he
 injection he with he
 have := hk.2
 omega
theorem Zg6 (h : F d W ok A n xs) (hb : Below W.heap.size W W1) : F d W1 (fun k => ok k ∧ k < W.heap.size) A n xs := Z2F.old h hb
theorem Zf8 (h : F d W1 (fun k => ok k ∧ k < N) A n xs) (hbase : ∀ k, v.ownBlock = some k → N ≤ k) : F d W1 (fun k => (ok k ∧ some k ≠ v.ownBlock) ∧ k < N) A n xs :=
 Z5z h (fun k hk => ⟨⟨hk.1, fun he => Nat.lt_irrefl _ (Nat.lt_of_lt_of_le hk.2 (hbase k he.symm))⟩, hk.2⟩)
theorem C_F (hd : Heap d) (h : d.C w A n xs) : F d w (fun k => k < w.heap.size) A n xs := fun _ hW => hd.C (fun k hlt => hW k hlt hlt) h
theorem R_F (h : d.R e W base ok (.slice A n cc) xs) : F d W ok A n xs := fun W' hW => by
 have h2 := Z8 (Z6s h hW)
 rw [h2.1]
 exact h2.2.2
theorem ZdY (h : d.M W base ok x c) : FK d W ok x c := fun _ hW => d.K_of_M (ZaY h hW)
end
end Kd
end Go.Proofs.YtjnfipkbgmdpaaaGreatDoorW.PrintWords
