/- Printed functions. -/
import Derived.Test.YtjnfipkbgmdpaaaGreatDoorXAlgRisesP1
namespace Go.Proofs.YtjnfipkbgmdpaaaGreatDoor.PAll
open RowKit YtjnfipkbgmdpaaaGreatDoorW.PrintWords YtjnfipkbgmdpaaaGreatDoorW.PrintLast YtjnfipkbgmdpaaaGreatDoorW.PrintMore YtjnfipkbgmdpaaaGreatDoorW.PrintWords.Kd
attribute [local go_sem] Z1k Z1l Z1G Z1H Z16 Z17 Z1m Z1n
set_option linter.unusedVariables false
set_option maxHeartbeats 8000000
set_option maxRecDepth 100000
set_option linter.unusedSimpArgs false
attribute [local go_sem] fld77_0 fld77_1 fld77_2 ext153 ext154
mutual
def Zn.l0 : Nat → List Int → Int → Int → Bool → List Int → Int → Int → Option (List Int × Bool)
 | 0, _, _, _, _, _, _, _ => none
 | k + 1, x0, x6, x7, x8, x35, x36, x37 => if x37 < x36 then (if 0 ≤ x37 then (if x37 < (x35.length : Int) then (if x8 = true then (Zn.l0 k x0 x6 x7 true x35 x36 (wrap64 (x37 + 1))) else (Zn.l0 k x0 x6 x7 ((rd x35 x37) != 0) x35 x36 (wrap64 (x37 + 1)))) else (none)) else (none)) else (if 0 ≤ (wrap64 ((x0.length : Int) - x6)) then (if (wrap64 ((x0.length : Int) - x6) : Int).toNat ≤ 35184372088832 then ((some (List.replicate (wrap64 ((x0.length : Int) - x6) : Int).toNat 0 : List Int)).bind fun a1 => (Zn.l1 k x0 x6 x7 x8 a1 (a1.length : Int) 0)) else (none)) else (none))
def Zn.l1 : Nat → List Int → Int → Int → Bool → List Int → Int → Int → Option (List Int × Bool)
 | 0, _, _, _, _, _, _, _ => none
 | k + 1, x0, x6, x7, x8, x11, x53, x54 => if x54 < x53 then (if 0 ≤ (wrap64 (x54 + x6)) then (if (wrap64 (x54 + x6)) < (x0.length : Int) then (if 0 ≤ x7 then (if 0 ≤ x54 then (if x54 < (x11.length : Int) then ((some (x11.set (x54 : Int).toNat (shr .u64 (rd x0 (wrap64 (x54 + x6))) x7) : List Int)).bind fun a1 => (if x7 > 0 then (if (wrap64 ((wrap64 (x54 + x6)) + 1)) < (x0.length : Int) then (if 0 ≤ (wrap64 ((wrap64 (x54 + x6)) + 1)) then (if 0 ≤ (wrap64 (64 - x7)) then (Zn.l1 k x0 x6 x7 x8 (a1.set (x54 : Int).toNat (Go.bits .or .u64 (rd a1 x54) (shl .u64 (rd x0 (wrap64 ((wrap64 (x54 + x6)) + 1))) (wrap64 (64 - x7))))) x53 (wrap64 (x54 + 1))) else (none)) else (none)) else (Zn.l1 k x0 x6 x7 x8 a1 x53 (wrap64 (x54 + 1)))) else (Zn.l1 k x0 x6 x7 x8 a1 x53 (wrap64 (x54 + 1))))) else (none)) else (none)) else (none)) else (none)) else (none)) else ((ZY.f k x11).bind fun a2 => (some (a2, x8)))
end
def Zn.f (k : Nat) (l0 : List Int) (a1 : Int) : Option (List Int × Bool) := if (wrap64 (Int.tdiv a1 64)) ≥ (l0.length : Int) then (some (([] : List Int), decide ((l0.length : Int) > 0))) else (if 0 ≤ (wrap64 (Int.tdiv a1 64)) then (if (wrap64 (Int.tdiv a1 64)) < (l0.length : Int) then (if 0 ≤ (Int.tmod a1 64) then (if (wrap64 (Int.tdiv a1 64)) ≤ (l0.length : Int) then (Zn.l0 k l0 (wrap64 (Int.tdiv a1 64)) (Int.tmod a1 64) ((Go.bits .and .u64 (rd l0 (wrap64 (Int.tdiv a1 64))) (IntKind.u64.wrap ((shl .u64 1 (Int.tmod a1 64)) - 1))) != 0) (l0.take ((wrap64 (Int.tdiv a1 64)) : Int).toNat) (max (wrap64 (Int.tdiv a1 64)) 0) 0) else (none)) else (none)) else (none)) else (none))
def Zn.T4 : Bool × List (List Nat × List Nat) := (true, [([], []), ([], []), ([0, 1], [0, 1]), ([2], [2]), ([], []), ([4], [4]), ([5], [5]), ([3, 6], [3, 6]), ([7], [7]), ([8, 0, 1, 2, 3, 4, 5, 6, 7, 8], [8])])
def Zn.B4 : List Nat := [0, 0, 3, 7, 0, 16, 48, 127, 255, 511]
theorem Zn.tab4 : Z1r .any (Z2T Tryz.f127 4) = Zn.T4 := by kernel_rfl
theorem Zn.bits4 : Z1y Zn.T4.2 Zn.B4 = true := by kernel_rfl
def Zn.T16 : Bool × List (List Nat × List Nat) := (true, [([], []), ([], []), ([0, 1], [0, 1]), ([2], [2]), ([], []), ([], []), ([], []), ([5, 6], [5, 6]), ([7], [7]), ([4, 8], [4, 8]), ([9], [9]), ([], []), ([11], [11]), ([10, 12], [10, 12]), ([3, 13], [3, 13]), ([0, 1, 0, 1, 2, 3, 4, 5, 6, 7, 8, 9, 10, 11, 12, 13, 14], [0, 1]), ([15, 14, 0, 1, 2, 3, 4, 5, 6, 7, 8, 9, 10, 11, 12, 13, 14], [14, 15])])
def Zn.B16 : List Nat := [0, 0, 3, 7, 0, 0, 0, 96, 224, 496, 1008, 0, 2048, 8176, 16383, 32767, 65535]
theorem Zn.tab16 : Z1r .any (Z2T Tryz.f127 16) = Zn.T16 := by kernel_rfl
theorem Zn.bits16 : Z1y Zn.T16.2 Zn.B16 = true := by kernel_rfl
theorem Zn.calls (k : Nat) (A0 : Option Addr) (c0 : Nat) (l0 : List Int) (a1 : Int) (r1 : List Int) (r2 : Bool) (w : World) (hr0 : Kd.C Zu w A0 l0.length l0) (hc0 : l0.length ≤ c0) (h : Zn.f k l0 a1 = some (r1, r2)) :
  Calls Tryz.prog 127 #[.slice A0 l0.length c0, .int .i64 a1] w fun e w' => ∃ v0_ : Value, e = .returned (.tuple #[v0_, .bool r2]) ∧ Kd.V Zu 22 w' w.heap.size (fun k_ => (w.heap.size ≤ k_)) v0_ r1 ∧ Below w.heap.size w w' := by
 have aD := zA hr0;have b1 := zA hc0;clear hr0 hc0;have HB := zA (Below.refl w.heap.size w);have H := h
 unfold Zn.f at H
 clear h
 by_cases c3 : (wrap64 (Int.tdiv a1 64)) ≥ (l0.length : Int)
 ·rw [if_pos c3] at H;have aO := dT c3;clear c3;simp only [zk3, zk5] at H;obtain ⟨rfl, rfl⟩ := H;go_enter Tryz.func127, Tryz.ntmps127
  go_wp2
  go_ret2
  exact ⟨_, er, Z11 _ _ _ _ _, bq⟩
 rw [if_neg c3] at H;have aO := dF c3;clear c3;generalize a9 : wrap64 (Int.tdiv a1 64) = a7 at H;(try rw [a9] at aO);have hji4w : (IntKind.i64.wrap (Int.tdiv a1 64)) = a7 := (Z1a _).trans a9;replace H := dn H;obtain ⟨c5, H⟩ := H;have bl := dT c5;clear c5;replace H := dn H;obtain ⟨c6, H⟩ := H;have bm := dT c6;clear c6;generalize ad : Int.tmod a1 64 = ac at H;replace H := dn H;obtain ⟨c8, H⟩ := H;have bn := eq_true c8;have bo := dT c8;clear c8;generalize aa : shl .u64 1 (ac) = aJ at H;have hji9_ : (IntKind.u64.wrap (1 * 2 ^ min (ac).toNat 64)) = aJ := aa;have hji9z : (ac) ≤ 64 → (IntKind.u64.wrap (1 * 2 ^ (ac).toNat)) = aJ := Z2m aa
 have hji9u : (IntKind.u64.wrap (2 ^ min (ac).toNat 64)) = aJ := by have h_ := hji9_; rw [Int.one_mul] at h_; exact h_
 have hji9v : (ac) ≤ 64 → (IntKind.u64.wrap (2 ^ (ac).toNat)) = aJ := fun hle_ => by have h_ := hji9z hle_; rw [Int.one_mul] at h_; exact h_
 have b4 := eq_true (od : 0 ≤ (a7));replace H := dn H;obtain ⟨c11, H⟩ := H;have b5 := eq_true c11;have b6 := dT c11;clear c11;have H' := zA H;clear H;go_enter Tryz.func127, Tryz.ntmps127
 try go_wp2
 replace HB := zA (ZP HB.out);have p225 : 0 ≤ ((a7) : Int) := od;have q225 : (a7) < (l0.length : Int) := od;obtain ⟨ad225, e225, ah⟩ := Kd.Zw aD.out (a7) p225 q225;have hw225_0 := ah;cases e225;replace ah := (HB.out.cell (World.block_lt_of_cell? w _ ah)).trans ah;replace p225 := eq_true p225;replace q225 := eq_true q225;refine Z1Y (n := 10) (S := fun w' => w'.cell? (ad225.add ((a7)).toNat) = some (.int .u64 (rd l0 (a7)))) (ds := []) #[O, O, O, O, O, O, O, O, O, O] (by kernel_rfl) rfl rfl (((HB.out.cell (World.block_lt_of_cell? w _ hw225_0)).trans hw225_0)) (fun hHeld => ?_); refine Z15 Zn.tab4 Zn.bits4 (fun HT_ HW_ => ?_);generalize w.drew = w12 at HB ah hHeld ⊢;refine zP 0 24 #[I, O, O, O, O, O, O, O, O, O] ?_;refine zP 1 25 #[I, I, O, O, O, O, O, O, O, O] ?_;refine zP 2 26 #[I, I, I, O, O, O, O, O, O, O] ?_;refine zP 4 28 #[I, I, I, O, I, O, O, O, O, O] ?_;refine zP 5 29 #[I, I, I, O, I, I, O, O, O, O] ?_;refine zP 6 30 #[I, I, I, O, I, I, I, O, O, O] ?_;refine zT 3 27 #[I, I, I, I, I, I, I, O, O, O] ?_;refine zP 7 31 #[I, I, I, I, I, I, I, I, O, O] ?_;refine zP 8 32 #[I, I, I, I, I, I, I, I, I, O] ?_;refine zP 9 8 #[I, I, I, I, I, I, I, I, I, I] ?_;refine Z2i (Z1F HT_.out (by kernel_rfl)) ?_;obtain ⟨i013, hi013, _, hsz13, _⟩ := info_parts info22;obtain ⟨hcut13, hA13, hC13⟩ := Z3q (P := Tryz.prog) (Value.int .u64) 0 97 22 .i64 Tryz.underlying97 hi013 hsz13 (some ad225) c0 l0 (a7) (od) (od) b1.out;have aL := zA (Z4a (h1 := fun _ => rfl) (hA13 _ (Kd.Z3i aD.out)));have b7 := zA hC13;clear hA13 hC13 hi013 hsz13
 try go_wp2
 go_loopg [8, 37] k (fun kq v8 v37 w' => ∃ (ay : Bool) (a5 : Int), v8 = .bool ay ∧ v37 = .int .i64 a5 ∧ Aside0 (Zn.l0 kq l0 a7 ac ay (l0.take ((a7) : Int).toNat) (max (a7) 0) a5 = some (r1, r2)) ∧ Aside0 (kq ≤ k) ∧ Aside0 (Below w.heap.size w w'))
 case atStart => exact ⟨(((Go.bits .and .u64 (rd l0 (a7)) (IntKind.u64.wrap ((aJ) - 1))) != 0)), (0), (by first | rfl | (simp; done) | (simp only [← a9, ← aa] <;> (first | rfl | simp)) | (simp [*]; done)), zi, H', zB2, ⟨bq⟩⟩
 case round =>
  clear H';obtain ⟨ay, a5, rfl, rfl, HA, HK1, HB⟩ := hrel
  cases gk with
  | zero => exact absurd HA.out (by simp [Zn.l0])
  | succ k1 =>
   have H := HA.out;clear HA;simp only [Zn.l0] at H
   by_cases c14 : a5 < (max (a7) 0)
   ·rw [if_pos c14] at H;have aS := dT c14;have c14bx : (a5 < (max (a7) 0)) = True := eq_true c14;clear c14;replace H := dn H;obtain ⟨c15, H⟩ := H;have b8 := dT c15;clear c15;replace H := dn H;obtain ⟨c16, H⟩ := H;have b9 : decide (a5 < ((l0.take ((a7) : Int).toNat).length : Int)) = true := dT c16;clear c16
    by_cases c17 : ay = true
    ·subst c17;rw [if_pos rfl] at H;have H' := zA H;clear H;have p227 : 0 ≤ (a5 : Int) := od;have q227 : a5 < ((l0.take ((a7) : Int).toNat).length : Int) := od;obtain ⟨ad227, e227, ab⟩ := Kd.Zw aL.out a5 p227 q227;obtain rfl : ad225 = ad227 := (by injection e227);replace ab := (HB.out.cell (World.block_lt_of_cell? w _ ab)).trans ab;replace p227 := eq_true p227;replace q227 := eq_true q227
     go_wp2
     go_roundg k1
     case measure => have := HK1.out; omega
     case rel => exact ⟨(true), (wrap64 (a5 + 1)), zi, zi, (by first | exact H' | (simp only [a9, ad, aa]; exact H') | (simp only [a9, ad, aa] at H' ⊢; exact H')), zB1, ⟨bq⟩⟩
    replace c17 := Bool.eq_false_iff.mpr c17;subst c17;rw [if_neg (show ¬ (false = true) by decide)] at H;have H' := zA H;clear H;have p227 : 0 ≤ (a5 : Int) := od;have q227 : a5 < ((l0.take ((a7) : Int).toNat).length : Int) := od;obtain ⟨ad227, e227, ab⟩ := Kd.Zw aL.out a5 p227 q227;obtain rfl : ad225 = ad227 := (by injection e227);replace ab := (HB.out.cell (World.block_lt_of_cell? w _ ab)).trans ab;replace p227 := eq_true p227;replace q227 := eq_true q227
    go_wp2
    go_roundg k1
    case measure => have := HK1.out; omega
    case rel => exact ⟨(((rd (l0.take ((a7) : Int).toNat) a5) != 0)), (wrap64 (a5 + 1)), (by first | rfl | (simp; done) | (simp only [← a9] <;> (first | rfl | simp)) | (simp [*]; done)), zi, (by first | exact H' | (simp only [a9, ad, aa]; exact H') | (simp only [a9, ad, aa] at H' ⊢; exact H')), zB1, ⟨bq⟩⟩
   rw [if_neg c14] at H;have aS := dF c14;clear c14;generalize ae : wrap64 ((l0.length : Int) - a7) = aE at H;have hji18w : (IntKind.i64.wrap ((l0.length : Int) - a7)) = aE := (Z1a _).trans ae;replace H := dn H;obtain ⟨c19, H⟩ := H;have ba := eq_true c19;have bb := dT c19;clear c19;replace H := dn H;obtain ⟨c20, H⟩ := H;have bc := eq_true c20;have bd := dT c20;clear c20;obtain ⟨aF, ap⟩ : ∃ y_ : List Int, y_ = (List.replicate (aE : Int).toNat 0) := ⟨_, rfl⟩;(first | replace H := zRb ap H | rw [← ap] at H | skip);have aM := zA ap;clear ap;have H' := zA H;clear H
   go_wp2_with (first | ((with_reducible refine zD 51 rfl ?_); (try (refine Z10 (by rfl) ?_; dsimp only)); refine Z2t Zu _ 22 rfl (N := 51) rfl 97 _ _ rfl aE rfl rfl Tryz.underlying97 (.int .u64 0) 8 info22 rfl (by decide) (by omega) 0 (ok := fun _ => True) (okp := fun _ => True) rfl (fun _ hk => hk) trivial (od) (zk2 (zka _ (od : aE.toNat ≤ 35184372088832)) (by omega)) (Below.refl _ _) (zk6 _) ?_; intro v229 w21 aA hb hg_ hnew_; clear hg_ hnew_; (first | rw [← aM.out] at aA | (simp only [Int.reduceToNat] at aA; rw [← aM.out] at aA)); have aN := zA (Zl (Z25 (M := fun k_ => (w.heap.size ≤ k_)) aA (Z2 bq) (fun k_ h_ => h_)) (Z2 bq)); replace HB := ze hb; clear hb aA; obtain ⟨aP, aB, aY⟩ := Zx aN.out; subst aY))
   go_loopg [54] k1 (fun kq v54 w' => ∃ (a6 : List Int) (a2 : Int), v54 = .int .i64 a2 ∧ Aside0 (Zn.l1 kq l0 a7 ac ay a6 (aF.length : Int) a2 = some (r1, r2)) ∧ Aside0 (kq ≤ k1) ∧ Aside0 (Kd.R Zu 22 w' w.heap.size (fun k_ => (w.heap.size ≤ k_)) (.slice aP aF.length aB) a6) ∧ Aside0 (Below w.heap.size w w'))
   case atStart => exact ⟨(aF), (0), zi, H', zB2, ⟨ru (ZB aN.out (fun _ hk => hk.1))⟩, ⟨bq⟩⟩
   case round =>
    clear H';obtain ⟨a6, a2, rfl, HA, HK2, a3, HB⟩ := hrel;have hl11_2 := (Z8 a3.out).1;rw [hl11_2] at a3;(try simp only [hl11_2])
    cases gk with
    | zero => exact absurd HA.out (by simp [Zn.l1])
    | succ k2 =>
     have H := HA.out;clear HA;simp only [Zn.l1] at H
     by_cases c24 : a2 < (aF.length : Int)
     ·rw [if_pos c24] at H;have aG := dT c24;(try rw [hl11_2] at aG);clear c24;generalize ak : wrap64 (a2 + a7) = a8 at H;have hji25w : (IntKind.i64.wrap (a2 + a7)) = a8 := (Z1a _).trans ak;replace H := dn H;obtain ⟨c26, H⟩ := H;have be := dT c26;clear c26;replace H := dn H;obtain ⟨c27, H⟩ := H;have aT := dT c27;(try rw [hl11_2] at aT);clear c27;replace H := dn H;obtain ⟨c28, H⟩ := H;have bf := eq_true c28;have bg := dT c28;clear c28;generalize af : shr .u64 (rd l0 (a8)) ac = al at H;have hji29_ : ((rd l0 (a8)) / 2 ^ min ac.toNat 64) = al := af;have hji29z : ac ≤ 64 → ((rd l0 (a8)) / 2 ^ ac.toNat) = al := Z2n af;replace H := dn H;obtain ⟨c30, H⟩ := H;have bh := dT c30;clear c30;replace H := dn H;obtain ⟨c31, H⟩ := H;have aU := dT c31;(try rw [hl11_2] at aU);clear c31;obtain ⟨ag, aq⟩ : ∃ y_ : List Int, y_ = (a6.set (a2 : Int).toNat (al)) := ⟨_, rfl⟩;(first | replace H := zRb aq H | rw [← aq] at H | skip);have ar := zA aq;clear aq
      by_cases c33 : ac > 0
      ·rw [if_pos c33] at H;have aV := dT c33;clear c33
       by_cases c34 : (wrap64 ((a8) + 1)) < (l0.length : Int)
       ·rw [if_pos c34] at H;have au := dT c34;(try rw [hl11_2] at au);clear c34;generalize av : wrap64 ((a8) + 1) = am at H;(try rw [av] at au);have hji35w : (IntKind.i64.wrap ((a8) + 1)) = am := (Z1a _).trans av;replace H := dn H;obtain ⟨c36, H⟩ := H;have bi := dT c36;clear c36;generalize aH : wrap64 (64 - ac) = aC at H;have hji37w : (IntKind.i64.wrap (64 - ac)) = aC := (Z1a _).trans aH;replace H := dn H;obtain ⟨c38, H⟩ := H;have bj := eq_true c38;have bk := dT c38;clear c38;generalize aw : shl .u64 (rd l0 (am)) (aC) = aI at H;have hji39_ : (IntKind.u64.wrap ((rd l0 (am)) * 2 ^ min (aC).toNat 64)) = aI := aw;have hji39z : (aC) ≤ 64 → (IntKind.u64.wrap ((rd l0 (am)) * 2 ^ (aC).toNat)) = aI := Z2m aw;obtain ⟨az, ax⟩ : ∃ y_ : List Int, y_ = (ag.set (a2 : Int).toNat (Go.bits .or .u64 (rd ag a2) (aI))) := ⟨_, rfl⟩;(first | replace H := zRb ax H | rw [← ax] at H | skip);have aW := zA ax;clear ax;have H' := zA H;clear H;have p231 : 0 ≤ ((a8) : Int) := od;have q231 : (a8) < (l0.length : Int) := od;obtain ⟨ad231, e231, a4⟩ := Kd.Zw aD.out (a8) p231 q231;obtain rfl : ad225 = ad231 := (by injection e231);replace a4 := (HB.out.cell (World.block_lt_of_cell? w _ a4)).trans a4;replace p231 := eq_true p231;replace q231 := eq_true q231;have p32 : 0 ≤ (a2 : Int) := od;have q32 : (a2 : Int) < ((a6.length : Int) : Int) := od;obtain ⟨go32, aQ, an, ao, gl32, cl32, HG32⟩ := Z0K a3.out (by omega)
        (first | cases an | (injection an with ea_ en_ ec_; (first | subst ea_ | (injection ea_ with ea_; subst ea_)); subst ec_; clear en_))
        have GB32 := zA ao;have GG32 := zA HG32;clear ao gl32 HG32;obtain ⟨aK, hf32_0⟩ := Z03 0 a3.out (a2 : Int) p32 q32;replace p32 := eq_true p32;replace q32 := eq_true q32;have HP41 := Z0V a3.out (a2 : Int) al
        try go_wp2_with (first | ((with_reducible refine ZQ (t := 22) (p := 67) rfl ?_); refine ZN (t := 22) (p := 67) (v := ?vo_w42) (w1 := (wr.setCell ⟨go32, (a2 : Int).toNat, none⟩ (.int .u64 al))) ?hg ?ho ?hn ?hr ?_; (case ho => rfl); (case hg => rfl); (case hn => rfl); (case hr => first | (go_simp; done) | (go_simp; rfl)); intro w42 hw; have hg : wr.grownBy w42 (some go32) := (by rw [hw]; exact HP41.2); have hp_ : Kd.R Zu 22 w42 w.heap.size (fun k_ => (w.heap.size ≤ k_)) (.slice (some ⟨go32, 0, none⟩) a6.length aB) ag := (by rw [hw, ar.out]; exact HP41.1); clear HP41; replace a3 := zA (hp_); replace HB := zA ((by rw [hw]; exact Zy (HB.out) GB32.out : Below w.heap.size w w42)); clear hg hw hp_))
        replace a3 := zA (Z0U a3.out);replace HB := zA (ZP HB.out);have p233 : 0 ≤ (a2 : Int) := od;have q233 : a2 < (ag.length : Int) := (by have h_ : (a2 : Int) < ((a6.length : Int) : Int) := od; first | (have e_ := (Z8 a3.out).1; omega) | simpa only [ar.out, zk9] using h_);have ql233 : ((a2 : Int) < ((a6.length : Int) : Int)) = True := eq_true (od);obtain ⟨ad233, e233, ai⟩ := Kd.Zw (Z8 a3.out).2.2 a2 p233 q233;obtain rfl : (⟨go32, 0, none⟩ : Addr) = ad233 := (by injection e233)
        (first | simp only [Z2z] at ai | simp only [Zb1] at ai | simp only [Addr.add, zkU] at ai | skip)
        replace p233 := eq_true p233;replace q233 := eq_true q233;have p234 : 0 ≤ ((am) : Int) := od;have q234 : (am) < (l0.length : Int) := od;obtain ⟨ad234, e234, aj⟩ := Kd.Zw aD.out (am) p234 q234;have hw234_0 := aj;obtain rfl : ad225 = ad234 := (by injection e234);replace aj := (HB.out.cell (World.block_lt_of_cell? w _ aj)).trans aj;replace p234 := eq_true p234;replace q234 := eq_true q234;have p40 : 0 ≤ (a2 : Int) := od;have q40 : (a2 : Int) < ((a6.length : Int) : Int) := od;obtain ⟨aR, hf40_0⟩ := Z03 0 a3.out (a2 : Int) p40 q40;replace p40 := eq_true p40;replace q40 := eq_true q40;have HP44 := Z4O a3.out (a2 : Int) (Go.bits .or .u64 (rd ag a2) (aI));rw [← aW.out] at HP44;have HQ44 := zA HP44;clear HP44;refine Z1Y (n := 17) (S := fun w' => w'.cell? ⟨go32, (a2).toNat, none⟩ = some (.int .u64 (rd ag a2)) ∧ w'.cell? (ad225.add ((am)).toNat) = some (.int .u64 (rd l0 (am)))) (ds := [16]) #[O, O, O, O, O, O, O, O, O, O, O, O, O, O, O, O, O] (by kernel_rfl) rfl rfl ⟨ai, ((HB.out.cell (World.block_lt_of_cell? w _ hw234_0)).trans hw234_0)⟩ (fun hHeld => ?_); refine Z15 Zn.tab16 Zn.bits16 (fun HT_ HW_ => ?_);generalize w42.drew = w43 at a3 HB HQ44 hf40_0 ai aj aR hHeld ⊢;refine zP 0 79 #[I, O, O, O, O, O, O, O, O, O, O, O, O, O, O, O, O] ?_;refine zP 1 80 #[I, I, O, O, O, O, O, O, O, O, O, O, O, O, O, O, O] ?_;refine zP 2 81 #[I, I, I, O, O, O, O, O, O, O, O, O, O, O, O, O, O] ?_;refine zP 4 83 #[I, I, I, O, I, O, O, O, O, O, O, O, O, O, O, O, O] ?_;refine zP 5 84 #[I, I, I, O, I, I, O, O, O, O, O, O, O, O, O, O, O] ?_;refine zP 6 85 #[I, I, I, O, I, I, I, O, O, O, O, O, O, O, O, O, O] ?_;refine zP 7 86 #[I, I, I, O, I, I, I, I, O, O, O, O, O, O, O, O, O] ?_;refine zP 8 87 #[I, I, I, O, I, I, I, I, I, O, O, O, O, O, O, O, O] ?_;refine zP 9 88 #[I, I, I, O, I, I, I, I, I, I, O, O, O, O, O, O, O] ?_;refine zP 11 90 #[I, I, I, O, I, I, I, I, I, I, O, I, O, O, O, O, O] ?_;refine zP 12 91 #[I, I, I, O, I, I, I, I, I, I, O, I, I, O, O, O, O] ?_;refine zT 3 82 #[I, I, I, I, I, I, I, I, I, I, O, I, I, O, O, O, O] ?_;refine zT 10 89 #[I, I, I, I, I, I, I, I, I, I, I, I, I, O, O, O, O] ?_;refine zP 13 92 #[I, I, I, I, I, I, I, I, I, I, I, I, I, I, O, O, O] ?_;refine zP 14 93 #[I, I, I, I, I, I, I, I, I, I, I, I, I, I, I, O, O] ?_;refine zP 15 94 #[I, I, I, I, I, I, I, I, I, I, I, I, I, I, I, I, O] ?_;refine Z4C (i := 16) (N := none) #[I, I, I, I, I, I, I, I, I, I, I, I, I, I, I, I, I] rfl rfl (Z0B HT_.out (by kernel_rfl)) (by decide) (fun K hK => ?_);refine Z2u (w1 := ?_) (by rfl) rfl ?_ ?_;rotate_left;·go_simp;rfl
        refine hK.out _ _ ?_;clear hK K;refine Z2i (Z1F HT_.out (by kernel_rfl)) ?_
        try go_wp2
        (try simp only [← hl11_2])
        go_roundg k2
        case measure => have := HK1.out; have := HK2.out; omega
        case rel => exact ⟨(az), (wrap64 (a2 + 1)), zi, (by first | exact H' | (simp only [a9, ad, aa, ae, ak, af, av, aH, aw]; exact H') | (simp only [a9, ad, aa, ae, ak, af, av, aH, aw] at H' ⊢; exact H')), ⟨by have := HK1.out; have := HK2.out; omega⟩, ⟨by (try simp only [hl11_2]); (with_reducible repeat (first | apply Z38 | apply Z39 | apply Z0U)); exact HQ44.out⟩, ⟨by repeat (first | (with_reducible first | exact HB.out | apply Z0q | apply Z0p | apply ZP | refine Zy ?_ GB32.out) | exact HB.out)⟩⟩
       rw [if_neg c34] at H;have au := dF c34;(try rw [hl11_2] at au);clear c34;have H' := zA H;clear H;have p231 : 0 ≤ ((a8) : Int) := od;have q231 : (a8) < (l0.length : Int) := od;obtain ⟨ad231, e231, a4⟩ := Kd.Zw aD.out (a8) p231 q231;obtain rfl : ad225 = ad231 := (by injection e231);replace a4 := (HB.out.cell (World.block_lt_of_cell? w _ a4)).trans a4;replace p231 := eq_true p231;replace q231 := eq_true q231;have p32 : 0 ≤ (a2 : Int) := od;have q32 : (a2 : Int) < ((a6.length : Int) : Int) := od;obtain ⟨go32, aQ, an, ao, gl32, cl32, HG32⟩ := Z0K a3.out (by omega)
       (first | cases an | (injection an with ea_ en_ ec_; (first | subst ea_ | (injection ea_ with ea_; subst ea_)); subst ec_; clear en_))
       have GB32 := zA ao;have GG32 := zA HG32;clear ao gl32 HG32;obtain ⟨aK, hf32_0⟩ := Z03 0 a3.out (a2 : Int) p32 q32;replace p32 := eq_true p32;replace q32 := eq_true q32;have HP45 := Z0V a3.out (a2 : Int) al
       go_wp2_with (first | ((with_reducible refine ZQ (t := 22) (p := 67) rfl ?_); refine ZN (t := 22) (p := 67) (v := ?vo_w46) (w1 := (wr.setCell ⟨go32, (a2 : Int).toNat, none⟩ (.int .u64 al))) ?hg ?ho ?hn ?hr ?_; (case ho => rfl); (case hg => rfl); (case hn => rfl); (case hr => first | (go_simp; done) | (go_simp; rfl)); intro w46 hw; have hg : wr.grownBy w46 (some go32) := (by rw [hw]; exact HP45.2); have hp_ : Kd.R Zu 22 w46 w.heap.size (fun k_ => (w.heap.size ≤ k_)) (.slice (some ⟨go32, 0, none⟩) a6.length aB) ag := (by rw [hw, ar.out]; exact HP45.1); clear HP45; replace a3 := zA (hp_); replace HB := zA ((by rw [hw]; exact Zy (HB.out) GB32.out : Below w.heap.size w w46)); clear hg hw hp_))
       (try simp only [← hl11_2])
       go_roundg k2
       case measure => have := HK1.out; have := HK2.out; omega
       case rel => exact ⟨(ag), (wrap64 (a2 + 1)), zi, (by first | exact H' | (simp only [a9, ad, aa, ae, ak, af]; exact H') | (simp only [a9, ad, aa, ae, ak, af] at H' ⊢; exact H')), ⟨by have := HK1.out; have := HK2.out; omega⟩, ⟨by (try simp only [hl11_2]); (with_reducible repeat (first | apply Z38 | apply Z39 | apply Z0U)); exact a3.out⟩, ⟨bq⟩⟩
      rw [if_neg c33] at H;have aV := dF c33;clear c33;have H' := zA H;clear H;have p231 : 0 ≤ ((a8) : Int) := od;have q231 : (a8) < (l0.length : Int) := od;obtain ⟨ad231, e231, a4⟩ := Kd.Zw aD.out (a8) p231 q231;obtain rfl : ad225 = ad231 := (by injection e231);replace a4 := (HB.out.cell (World.block_lt_of_cell? w _ a4)).trans a4;replace p231 := eq_true p231;replace q231 := eq_true q231;have p32 : 0 ≤ (a2 : Int) := od;have q32 : (a2 : Int) < ((a6.length : Int) : Int) := od;obtain ⟨go32, aQ, an, ao, gl32, cl32, HG32⟩ := Z0K a3.out (by omega)
      (first | cases an | (injection an with ea_ en_ ec_; (first | subst ea_ | (injection ea_ with ea_; subst ea_)); subst ec_; clear en_))
      have GB32 := zA ao;have GG32 := zA HG32;clear ao gl32 HG32;obtain ⟨aK, hf32_0⟩ := Z03 0 a3.out (a2 : Int) p32 q32;replace p32 := eq_true p32;replace q32 := eq_true q32;have HP47 := Z0V a3.out (a2 : Int) al
      go_wp2_with (first | ((with_reducible refine ZQ (t := 22) (p := 67) rfl ?_); refine ZN (t := 22) (p := 67) (v := ?vo_w48) (w1 := (wr.setCell ⟨go32, (a2 : Int).toNat, none⟩ (.int .u64 al))) ?hg ?ho ?hn ?hr ?_; (case ho => rfl); (case hg => rfl); (case hn => rfl); (case hr => first | (go_simp; done) | (go_simp; rfl)); intro w48 hw; have hg : wr.grownBy w48 (some go32) := (by rw [hw]; exact HP47.2); have hp_ : Kd.R Zu 22 w48 w.heap.size (fun k_ => (w.heap.size ≤ k_)) (.slice (some ⟨go32, 0, none⟩) a6.length aB) ag := (by rw [hw, ar.out]; exact HP47.1); clear HP47; replace a3 := zA (hp_); replace HB := zA ((by rw [hw]; exact Zy (HB.out) GB32.out : Below w.heap.size w w48)); clear hg hw hp_))
      (try simp only [← hl11_2])
      go_roundg k2
      case measure => have := HK1.out; have := HK2.out; omega
      case rel => exact ⟨(ag), (wrap64 (a2 + 1)), zi, (by first | exact H' | (simp only [a9, ad, aa, ae, ak, af]; exact H') | (simp only [a9, ad, aa, ae, ak, af] at H' ⊢; exact H')), ⟨by have := HK1.out; have := HK2.out; omega⟩, ⟨by (try simp only [hl11_2]); (with_reducible repeat (first | apply Z38 | apply Z39 | apply Z0U)); exact a3.out⟩, ⟨bq⟩⟩
     rw [if_neg c24] at H;have aG := dF c24;(try rw [hl11_2] at aG);clear c24;obtain ⟨aZ, b2, H⟩ := zh H;simp only [zk3, zk5] at H;obtain ⟨rfl, rfl⟩ := H
     go_wp2_with (first | ((with_reducible refine zG 87 rfl ?_); refine zC (some 97) Tryz.func87 (ZY.calls k2 (fun k_ => some k_ = (.slice aP a6.length aB : Value).ownBlock) _ _ a6 aZ _ (R_V (Z1j rfl (a3.out))) b2.out) ?_; rintro e w50 ⟨v237, rfl, b3, hb⟩; refine ⟨_, rfl, ?_⟩; have aX := zA (Zj (Z5 (ok' := fun k_ => (w.heap.size ≤ k_)) b3 (fun k_ hk_ => Or.elim hk_ (fun hs_ => ((a3.out).1 k_ hs_.symm)) (fun hn_ => (zk2 (Z2 bq) hn_)))) (Z2 bq)); replace a3 := zA (Zt (ru a3.out) hb); replace HB := ze hb))
     go_ret2
     exact ⟨_, by first | rfl | (simp [errW_none, errW_some] <;> rfl) | (simp only [← a9, ← ad, ← aa, ← ae]; first | rfl | (simp [errW_none, errW_some] <;> rfl)) | (simp [*, errW_none, errW_some] <;> rfl), vu aX.out, bq⟩
def Z2L.f (k : Nat) (l0 : List Int) (a1 : Int) : Option (List Int × Bool × Int) := (Z1I.f k l0).bind fun a2 => (if a2.2 = 0 then (if a1 < 0 then (some (([] : List Int), false, 2)) else ((Zn.f k a2.1 a1).bind fun a3 => ((ZZ.f a3.1).bind fun a4 => (some (a4, a3.2, 0))))) else (some (([] : List Int), false, a2.2)))
theorem Z2L.calls (k : Nat) (A0 : Option Addr) (c0 : Nat) (l0 : List Int) (a1 : Int) (r1 : List Int) (r2 : Bool) (r3 : Int) (w : World) (hr0 : Kd.C Zu w A0 l0.length l0) (hc0 : l0.length ≤ c0) (h : Z2L.f k l0 a1 = some (r1, r2, r3)) :
  Calls Tryz.prog 115 #[.slice A0 l0.length c0, .int .i64 a1] w fun e w' => ∃ v0_ : Value, e = .returned (.tuple #[v0_, .bool r2, .int .i64 r3]) ∧ Kd.R Zu 22 w' w.heap.size (fun _ => True) v0_ r1 ∧ Below w.heap.size w w' := by
 have ag := zA hr0;have ah := zA hc0;clear hr0 hc0;have HB := zA (Below.refl w.heap.size w);have H := h
 unfold Z2L.f at H
 clear h;obtain ⟨⟨a5, a6⟩, A3, H⟩ := zh H;(try dsimp only at H)
 by_cases c4 : a6 = 0
 rw [if_pos c4] at H;have a9 := eT c4;have aa := nF c4;clear c4
 by_cases c5 : a1 < 0
 rw [if_pos c5] at H;have ab := dT c5;clear c5;rotate_left;rw [if_neg c5] at H;have ab := dF c5;clear c5;obtain ⟨⟨a7, ac⟩, A7, H⟩ := zh H;(try dsimp only at H);obtain ⟨ad, A8, H⟩ := zh H;rotate_left;rw [if_neg c4] at H;have a9 := eF c4;have aa := nT c4;rotate_left
 all_goals
  simp only [zk3, zk5] at H;obtain ⟨rfl, rfl, rfl⟩ := H;go_enter Tryz.func115, Tryz.ntmps115
  go_wp2_with (first | ((with_reducible refine zG 83 rfl ?_); refine zC (some 13) Tryz.func83 (Z1I.calls k (fun k_ => k_ < w.heap.size) _ _ l0 a5 a6 _ (Z1E ah.out (Kd.Z0u (C_F (Kd.Z0r .u64) ag.out) bq)) A3.out) ?_; rintro e w6 ⟨v452, rfl, a4, hb⟩; refine ⟨_, rfl, ?_⟩; have a2 := zA (Zj (Z5 (ok' := fun k_ => True) a4 (fun k_ hk_ => trivial)) (Z2 bq)); replace HB := ze hb; (try (obtain ⟨ai, aj, ae⟩ := Zm a2.out; subst ae))) | ((with_reducible refine zG 127 rfl ?_); refine zC (some 26) Tryz.func127 (Zn.calls k _ _ a5 a1 a7 ac _ (zk (Z7 a2.out).2.2) ((Z7 a2.out).2.1) A7.out) ?_; rintro e w11 ⟨v456, rfl, a4, hb⟩; refine ⟨_, rfl, ?_⟩; replace a2 := zA (Z6 (vu a2.out) hb); have a3 := zA (Zj (Z5 (ok' := fun k_ => True) a4 (fun k_ hk_ => trivial)) (Z2 bq)); replace HB := ze hb; (try (obtain ⟨ak, al, af⟩ := Zm a3.out; subst af))) | ((with_reducible refine zG 88 rfl ?_); refine zC (some 30) Tryz.func88 (ZZ.calls _ _ a7 ad _ (zk (Z7 a3.out).2.2) ((Z7 a3.out).2.1) A8.out) ?_; rintro e w13 ⟨v460, rfl, a4, hb⟩; refine ⟨_, rfl, ?_⟩; replace a2 := zA (ZR (vu a2.out) (Zc a4) hb); replace a3 := zA (ZR (vu a3.out) (Zc a4) hb); have a8 := zA (Zl a4 (Z2 bq)); replace HB := ze hb))
 ·go_ret3
  exact ⟨_, er, by first | exact Z1Q _ _ _ _ _ | exact Kd.Z2k _ _ _ _ _ | exact Z11 _ _ _ _ _ | exact Kd.Z2h _ _ _ _ _ | exact Kd.Z2j _ _ _ _ _, bq⟩
 ·go_ret3
  exact ⟨_, er, ru a8.out, bq⟩
 go_ret3
 exact ⟨_, er, by first | exact Z1Q _ _ _ _ _ | exact Kd.Z2k _ _ _ _ _ | exact Z11 _ _ _ _ _ | exact Kd.Z2h _ _ _ _ _ | exact Kd.Z2j _ _ _ _ _, bq⟩
def Z29.f (l0 : List Int) : Option (Int) := if (l0.length : Int) = 0 then (some 0) else (if 0 < (l0.length : Int) then (some (rd l0 0)) else (none))
theorem Z29.calls (A0 : Option Addr) (c0 : Nat) (l0 : List Int) (r : Int) (w : World) (hr0 : Kd.C Zu w A0 l0.length l0) (hc0 : l0.length ≤ c0) (h : Z29.f l0 = some r) :
  Calls Tryz.prog 158 #[.slice A0 l0.length c0] w fun e w' => e = .returned (.int .u64 r) ∧ Drawn0 w w' := by
 have a4 := zA hr0;have a8 := zA hc0;clear hr0 hc0;have H := h
 unfold Z29.f at H
 clear h
 by_cases c2 : (l0.length : Int) = 0
 ·rw [if_pos c2] at H;have a2 := eT c2;have a3 := nF c2;clear c2;obtain rfl := zk4 H;go_enter Tryz.func158, Tryz.ntmps158
  go_wp2
  go_ret;exact ⟨by first | rfl | (simp; done) | (simp [*]; done), by repeat (first | exact Drawn0.refl _ | apply Drawn0.step)⟩
 rw [if_neg c2] at H;have a2 := eF c2;have a3 := nT c2
 have a5 : ¬ (l0 = []) := fun h_ => c2 (by rw [h_]; rfl)
 replace H := dn H;obtain ⟨c3, H⟩ := H;have a6 := dT c3;have a7 : decide (0 < l0.length) = true := dT (by omega);clear c3;obtain rfl := zk4 H;have p462 : 0 ≤ (0 : Int) := (by omega);have q462 : 0 < (l0.length : Int) := od;obtain ⟨ad462, e462, a1⟩ := Kd.Zw a4.out 0 p462 q462;cases e462;have qi462 : (0 < l0.length) = True := eq_true (by omega);(try rw [show ((0 : Int)).toNat = 0 from rfl] at a1);(try rw [Addr.add_zero'] at a1);replace p462 := eq_true p462;replace q462 := eq_true q462;go_enter Tryz.func158, Tryz.ntmps158
 go_wp2
 go_ret;exact ⟨by first | rfl | (simp; done) | (simp [*]; done), by repeat (first | exact Drawn0.refl _ | apply Drawn0.step)⟩
def Z3x.f (k : Nat) (l0 : List Int) (a1 : Int) : Option (Bool × Int) := (Z1I.f k l0).bind fun a2 => (if a2.2 = 0 then (if a1 < 0 then (some (false, 2)) else (if (wrap64 (Int.tdiv a1 64)) < (a2.1.length : Int) then (if 0 ≤ (wrap64 (Int.tdiv a1 64)) then (if 0 ≤ (Int.tmod a1 64) then (some (((Go.bits .and .u64 (shr .u64 (rd a2.1 (wrap64 (Int.tdiv a1 64))) (Int.tmod a1 64)) 1) == 1), 0)) else (none)) else (none)) else (some (false, 0)))) else (some (false, a2.2)))
theorem Z3x.calls (k : Nat) (A0 : Option Addr) (c0 : Nat) (l0 : List Int) (a1 : Int) (r1 : Bool) (r2 : Int) (w : World) (hr0 : Kd.C Zu w A0 l0.length l0) (hc0 : l0.length ≤ c0) (h : Z3x.f k l0 a1 = some (r1, r2)) :
  Calls Tryz.prog 159 #[.slice A0 l0.length c0, .int .i64 a1] w fun e w' => e = .returned (.tuple #[.bool r1, .int .i64 r2]) ∧ Below w.heap.size w w' := by
 have aj := zA hr0;have ak := zA hc0;clear hr0 hc0;have HB := zA (Below.refl w.heap.size w);have H := h
 unfold Z3x.f at H
 clear h;obtain ⟨⟨a2, aa⟩, A3, H⟩ := zh H;(try dsimp only at H)
 by_cases c4 : aa = 0
 rw [if_pos c4] at H;have ad := eT c4;have ae := nF c4;clear c4
 by_cases c5 : a1 < 0
 rw [if_pos c5] at H;have af := dT c5;clear c5;rotate_left;rw [if_neg c5] at H;have af := dF c5;clear c5
 by_cases c7 : (wrap64 (Int.tdiv a1 64)) < (a2.length : Int)
 rw [if_pos c7] at H;have ab := dT c7;clear c7;generalize a5 : wrap64 (Int.tdiv a1 64) = a4 at H;(try rw [a5] at ab);(try rw [a5] at A3);have hji8w : (IntKind.i64.wrap (Int.tdiv a1 64)) = a4 := (Z1a _).trans a5;replace H := dn H;obtain ⟨c9, H⟩ := H;have ao := dT c9;clear c9;generalize a9 : Int.tmod a1 64 = a6 at H;(try rw [a9] at A3);replace H := dn H;obtain ⟨c11, H⟩ := H;have am := eq_true c11;have an := dT c11;clear c11;generalize a3 : shr .u64 (rd a2 (a4)) (a6) = ac at H;(try rw [a3] at A3);have hji12_ : ((rd a2 (a4)) / 2 ^ min (a6).toNat 64) = ac := a3;have hji12z : (a6) ≤ 64 → ((rd a2 (a4)) / 2 ^ (a6).toNat) = ac := Z2n a3;rotate_left;rw [if_neg c7] at H;have ab := dF c7;clear c7;rotate_left;rw [if_neg c4] at H;have ad := eF c4;have ae := nT c4;rotate_left
 all_goals
  simp only [zk3, zk5] at H;obtain ⟨rfl, rfl⟩ := H;go_enter Tryz.func159, Tryz.ntmps159
  go_wp2_with (first | ((with_reducible refine zG 83 rfl ?_); refine zC (some 10) Tryz.func83 (Z1I.calls k (fun k_ => k_ < w.heap.size) _ _ l0 a2 aa _ (Z1E ak.out (Kd.Z0u (C_F (Kd.Z0r .u64) aj.out) bq)) A3.out) ?_; rintro e w6 ⟨v464, rfl, al, hb⟩; refine ⟨_, rfl, ?_⟩; have a7 := zA (Zj (Z5 (ok' := fun k_ => True) al (fun k_ hk_ => trivial)) (Z2 bq)); replace HB := ze hb; (try (obtain ⟨ag, ah, a8⟩ := Zm a7.out; subst a8; have p467 : 0 ≤ ((a4) : Int) := od; have q467 : (a4) < (a2.length : Int) := od; obtain ⟨ad467, e467, ai⟩ := Kd.Zw (Z7 a7.out).2.2 (a4) p467 q467; cases e467; replace p467 := eq_true p467; replace q467 := eq_true q467)); (try (obtain ⟨ag, ah, a8⟩ := Zm a7.out; subst a8))))
 ·go_ret2
  exact ⟨er, bq⟩
 ·go_ret2
  exact ⟨by first | rfl | (simp [errW_none, errW_some] <;> rfl) | (simp only [← a5, ← a9, ← a3]; first | rfl | (simp [errW_none, errW_some] <;> rfl)) | (simp [*, errW_none, errW_some] <;> rfl), bq⟩
 ·go_ret2
  exact ⟨er, bq⟩
 go_ret2
 exact ⟨er, bq⟩
def tzI (x : Int) : Int := IntKind.u64.wrap (bits BinOp.and IntKind.u64 x (IntKind.u64.wrap (-x)) * 285870213051353865) / 288230376151711744
def Z0T.f (a0 : Int) : Option (Int) := if a0 = 0 then some 64 else if 0 ≤ tzI a0 then (if tzI a0 < 64 then some (tzTab.getD (tzI a0).toNat 0) else none) else none
theorem tzTab_bd : ∀ i : Nat, i < 64 → 0 ≤ tzTab.getD i 0 ∧ tzTab.getD i 0 < 64 := by decide
theorem Z0T.calls (a0 : Int) (r : Int) (w : World) (hT : Laid w) (h : Z0T.f a0 = some r) :
  Calls Tryz.prog 162 #[.int .u64 a0] w fun e w' => e = .returned (.int .i64 r) ∧ Drawn0 w w' := by
 unfold Z0T.f at h
 by_cases c : a0 = 0
 ·rw [if_pos c] at h;obtain rfl := zk4 h;subst c;go_enter Tryz.func162, Tryz.ntmps162
  go_wp2
  go_ret;exact ⟨rfl, Drawn0.refl _⟩
 rw [if_neg c] at h;have c0 : (a0 == 0) = false := eF c
 by_cases p : 0 ≤ tzI a0
 ·rw [if_pos p] at h
  by_cases q : tzI a0 < 64
  ·rw [if_pos q] at h;have hc := hT (tzI a0).toNat (by omega);have hb := tzTab_bd (tzI a0).toNat (by omega);have hr := zk4 h;rw [hr] at hc hb;have hb0 := hb.1;have hb1 := hb.2;clear h hr hb hT c
   unfold tzI at p q hc
   go_enter Tryz.func162, Tryz.ntmps162
   go_wp2
   go_ret;exact ⟨by first | rfl | simp, Drawn0.refl _⟩
  rw [if_neg q] at h;cases h
 rw [if_neg p] at h;cases h
def Z1u.l0 : Nat → Int → List Int → Int → Int → Option (Int × Int)
 | 0, _, _, _, _ => none
 | k + 1, x5, x13, x14, x15 => if x15 < x14 then (if 0 ≤ x15 then (if x15 < (x13.length : Int) then (if (rd x13 x15) = 0 then (Z1u.l0 k x5 x13 x14 (wrap64 (x15 + 1))) else ((Z0T.f (rd x13 x15)).bind fun a1 => (some (wrap64 ((wrap64 (64 * x15)) + a1), x5)))) else (none)) else (none)) else (some (0, x5))
def Z1u.f (k : Nat) (l0 : List Int) : Option (Int × Int) := (Z1I.f k l0).bind fun a1 => (Z1u.l0 k a1.2 a1.1 (a1.1.length : Int) 0)
theorem Z1u.calls (k : Nat) (A0 : Option Addr) (c0 : Nat) (l0 : List Int) (r1 : Int) (r2 : Int) (w : World) (hr0 : Kd.C Zu w A0 l0.length l0) (hc0 : l0.length ≤ c0) (hT : Laid w) (h : Z1u.f k l0 = some (r1, r2)) :
  Calls Tryz.prog 160 #[.slice A0 l0.length c0] w fun e w' => e = .returned (.tuple #[.int .i64 r1, .int .i64 r2]) ∧ Below w.heap.size w w' := by
 have ab := zA hr0;have ac := zA hc0;clear hr0 hc0;have HB := zA (Below.refl w.heap.size w);have H := h
 unfold Z1u.f at H
 clear h;obtain ⟨⟨a2, a6⟩, A2, H⟩ := zh H;(try dsimp only at H);have H' := zA H;clear H;go_enter Tryz.func160, Tryz.ntmps160
 go_wp2_with (first | ((with_reducible refine zG 83 rfl ?_); refine zC (some 10) Tryz.func83 (Z1I.calls k (fun k_ => k_ < w.heap.size) _ _ l0 a2 a6 _ (Z1E ac.out (Kd.Z0u (C_F (Kd.Z0r .u64) ab.out) bq)) A2.out) ?_; rintro e w3 ⟨v469, rfl, ad, hb⟩; refine ⟨_, rfl, ?_⟩; have a4 := zA (Zj (Z5 (ok' := fun k_ => True) ad (fun k_ hk_ => trivial)) (Z2 bq)); replace HB := ze hb; obtain ⟨ae, af, ag⟩ := Zm a4.out; subst ag))
 go_loopg [15] k (fun kq v15 w' => ∃ (a1 : Int), v15 = .int .i64 a1 ∧ Aside0 (Z1u.l0 kq a6 a2 (a2.length : Int) a1 = some (r1, r2)) ∧ Aside0 (kq ≤ k) ∧ Aside0 (Kd.V Zu 22 w' w.heap.size (fun _ => True) (.slice ae a2.length af) a2) ∧ Aside0 (Below w.heap.size w w'))
 case atStart => exact ⟨(0), zi, H', zB2, ⟨vu a4.out⟩, ⟨bq⟩⟩
 case round =>
  clear H';obtain ⟨a1, rfl, HA, HK1, a3, HB⟩ := hrel
  cases gk with
  | zero => exact absurd HA.out (by simp [Z1u.l0])
  | succ k1 =>
   have H := HA.out;clear HA;simp only [Z1u.l0] at H
   by_cases c5 : a1 < (a2.length : Int)
   ·rw [if_pos c5] at H;have a7 := dT c5;clear c5;replace H := dn H;obtain ⟨c6, H⟩ := H;have ah := dT c6;clear c6;replace H := dn H;obtain ⟨c7, H⟩ := H;have ai := dT c7;clear c7
    by_cases c8 : (rd a2 a1) = 0
    ·rw [if_pos c8] at H;have a8 := eT c8;have a9 := nF c8;clear c8;have H' := zA H;clear H;have p472 : 0 ≤ (a1 : Int) := od;have q472 : a1 < (a2.length : Int) := od;obtain ⟨ad472, e472, a5⟩ := Kd.Zw (Z7 a3.out).2.2 a1 p472 q472;cases e472;replace p472 := eq_true p472;replace q472 := eq_true q472
     go_wp2
     go_roundg k1
     case measure => have := HK1.out; omega
     case rel => exact ⟨(wrap64 (a1 + 1)), zi, H', zB1, ⟨vu a3.out⟩, ⟨bq⟩⟩
    rw [if_neg c8] at H;have a8 := eF c8;have a9 := nT c8;obtain ⟨aa, A9, H⟩ := zh H;simp only [zk3, zk5] at H;obtain ⟨rfl, rfl⟩ := H;have p472 : 0 ≤ (a1 : Int) := od;have q472 : a1 < (a2.length : Int) := od;obtain ⟨ad472, e472, a5⟩ := Kd.Zw (Z7 a3.out).2.2 a1 p472 q472;cases e472;replace p472 := eq_true p472;replace q472 := eq_true q472
    go_wp2_with (first | ((with_reducible refine zG 162 rfl ?_); refine zC (some 25) Tryz.func162 (Z0T.calls (rd a2 a1) aa _ (laid_below hT bq) A9.out) ?_; rintro e w' ⟨rfl, ⟨nd, rfl⟩⟩; refine ⟨_, rfl, ?_⟩))
    go_ret2
    exact ⟨er, bq⟩
   rw [if_neg c5] at H;have a7 := dF c5;clear c5;simp only [zk3, zk5] at H;obtain ⟨rfl, rfl⟩ := H
   go_wp2
   go_ret2
   exact ⟨er, bq⟩
def Z1q.f (k : Nat) (a5 : List Int) (a3 : Int) (a1 : Int) : Option (Int × Bool) := if a3 ≥ a1 then ((Z2b.f k a5 (wrap64 (a3 - a1))).bind fun a6 => ((Z29.f a6.1).bind fun a9 => (some (a9, false)))) else ((Z2L.f k a5 (wrap64 (a1 - a3))).bind fun a2 => ((Z29.f a2.1).bind fun a4 => ((Z3x.f k a5 (wrap64 ((wrap64 (a1 - a3)) - 1))).bind fun a7 => ((Z1u.f k a5).bind fun a8 => (if a7.1 = true then (if a8.1 < (wrap64 ((wrap64 (a1 - a3)) - 1)) then (some (IntKind.u64.wrap (a4 + 1), a2.2.1)) else (if (Go.bits .and .u64 a4 1) = 1 then (some (IntKind.u64.wrap (a4 + 1), a2.2.1)) else (some (a4, a2.2.1)))) else (some (a4, a2.2.1)))))))
theorem hand_at_lit (g : Nat) (m : Int) (up : Bool) (w : World) (hb : w.heap[g]? = some (.cells #[.int .u64 m] 22 (0, 0))) :
  Calls Tryz.prog 161 #[.bool up, .pointer (some ⟨g, 0, none⟩)] w fun e w' => e = .returned (.int .u64 (if up then IntKind.u64.wrap (m + 1) else m)) ∧ Below w.heap.size w w' := by
 have hc := (Zs hb 0).trans rfl;have hf := Z3 hb 0;have HB := zA (Below.refl w.heap.size w);clear hb;cases up
 ·go_enter Tryz.func161, Tryz.ntmps161
  go_wp2
  go_ret;exact ⟨rfl, HB.out⟩
 go_enter Tryz.func161, Tryz.ntmps161
 go_wp2
 go_ret;exact ⟨rfl, HB.out⟩
theorem Z1q.calls (k : Nat) (a4 : Option Addr) (a5 : Nat) (a2 : List Int) (a3 : Int) (a1 : Int) (r1 : Int) (r2 : Bool) (w : World) (ad : Kd.C Zu w a4 a2.length a2) (ae : a2.length ≤ a5) (hT : Laid w) (h : Z1q.f k a2 a3 a1 = some (r1, r2)) :
  Calls Tryz.prog 148 #[.agg #[.slice a4 a2.length a5, .int .i64 a3], .int .i64 a1] w fun e w' => e = .returned (.tuple #[.int .u64 r1, .bool r2]) ∧ Below w.heap.size w w' := by
 have hu64 := Tryz.underlying118
 have hmf : ∀ (fn : Fn) (first cap : Array Value) (w : World), (Instr.makeFunc fn first cap).run Tryz.prog w = .ok (.func fn first cap) w := fun _ _ _ _ => rfl
 have a7 := zA ad;have a8 := zA ae;clear ad ae;have HB := zA (Below.refl w.heap.size w)
 unfold Z1q.f at h
 by_cases c3 : a3 ≥ a1
 ·rw [if_pos c3] at h;have ax := dT c3;clear c3;replace h := Option.bind_eq_some_iff.mp h;obtain ⟨⟨ac, ay⟩, ap, h⟩ := h;have A4 := zA ap;clear ap;replace h := Option.bind_eq_some_iff.mp h;obtain ⟨aA, aq, h⟩ := h;have A5 := zA aq;clear aq;simp only [zk3, zk5] at h;obtain ⟨rfl, rfl⟩ := h;go_enter Tryz.func148, Tryz.ntmps148
  go_wp2_with (first | ((with_reducible refine zD 2 rfl ?_); refine zn (N := 2) (cs := #[.slice a4 a2.length a5, .int .i64 a3]) (t := 118) rfl rfl ?_; intro gA hg w1 hbox hb; have GA := zA (hg ▸ Z2 HB.out : w.heap.size ≤ gA); have m_HB := zA (ZG HB.out hb); clear HB hb hg; have HB := m_HB; clear m_HB; have BA := zA hbox; clear hbox; have hcA0 := (Zs BA.out 0).trans rfl; have hfA0 := Z3 BA.out 0; have hcA1 := (Zs BA.out 1).trans rfl; have hfA1 := Z3 BA.out 1) | ((with_reducible refine zG 43 rfl ?_); refine Z0H (some 30) rfl rfl Tryz.func43 (by kernel_rfl) rfl #[.slice a4 a2.length a5, .int .i64 (wrap64 (a3 - a1))] rfl (by (try simp only [zk7, zkd, zkf]); first | done | rfl) ?_; refine (Z2b.calls k _ _ a2 (wrap64 (a3 - a1)) ac ay _ (ZF a7.out HB.out) a8.out A4.out).mono ?_; rintro e w8 ⟨v222, rfl, aa, hb⟩; refine ⟨_, rfl, ?_⟩; have m_HB := zA (ZG HB.out hb); have m_BA := zA (Zv BA.out hb); clear hb HB BA; have HB := m_HB; have BA := m_BA; clear m_HB m_BA; have HO := zA aa; clear aa; obtain ⟨Ao, co, eo⟩ := Zx HO.out; subst eo) | ((with_reducible refine zG 158 rfl ?_); refine Z0H (some 34) rfl rfl Tryz.func158 (by kernel_rfl) rfl #[.slice Ao ac.length co] rfl (by (try simp only [zk7, zkd, zkf]); first | done | rfl) ?_; refine (Z29.calls _ _ ac aA _ (Z8 HO.out).2.2 (Z8 HO.out).2.1 A5.out).mono ?_; rintro e w' ⟨rfl, hd⟩; refine ⟨_, rfl, ?_⟩; have hb := hd.below; clear hd; have m_HB := zA (ZG HB.out hb); have m_BA := zA (Zv BA.out hb); clear hb HB BA; have HB := m_HB; have BA := m_BA; clear m_HB m_BA))
  go_ret2
  exact ⟨rfl, HB.out⟩
 rw [if_neg c3] at h;have ax := dF c3;clear c3;replace h := Option.bind_eq_some_iff.mp h;obtain ⟨⟨a9, af, ag⟩, ah, h⟩ := h;have ar := zA ah;clear ah;replace h := Option.bind_eq_some_iff.mp h;obtain ⟨a6, ai, h⟩ := h;have au := zA ai;clear ai;replace h := Option.bind_eq_some_iff.mp h;obtain ⟨⟨aB, aj⟩, ak, h⟩ := h;have av := zA ak;clear ak;replace h := Option.bind_eq_some_iff.mp h;obtain ⟨⟨ab, al⟩, am, h⟩ := h;have aw := zA am;clear am
 cases aB with
 | false =>
  replace h : (if false = true then _ else _) = _ := h;rw [if_neg (by decide)] at h;simp only [zk3, zk5] at h;obtain ⟨rfl, rfl⟩ := h;go_enter Tryz.func148, Tryz.ntmps148
  go_wp2_with (first | ((with_reducible refine zD 2 rfl ?_); refine zn (N := 2) (cs := #[.slice a4 a2.length a5, .int .i64 a3]) (t := 118) rfl rfl ?_; intro gA hg w1 hbox hb; have GA := zA (hg ▸ Z2 HB.out : w.heap.size ≤ gA); have m_HB := zA (ZG HB.out hb); clear HB hb hg; have HB := m_HB; clear m_HB; have BA := zA hbox; clear hbox; have hcA0 := (Zs BA.out 0).trans rfl; have hfA0 := Z3 BA.out 0; have hcA1 := (Zs BA.out 1).trans rfl; have hfA1 := Z3 BA.out 1) | ((with_reducible refine zG 115 rfl ?_); refine Z0H (some 43) rfl rfl Tryz.func115 (by kernel_rfl) rfl #[.slice a4 a2.length a5, .int .i64 (wrap64 (a1 - a3))] rfl (by (try simp only [zk7, zkd, zkf]); first | done | rfl) ?_; refine (Z2L.calls k _ _ a2 (wrap64 (a1 - a3)) a9 af ag _ (ZF a7.out HB.out) a8.out ar.out).mono ?_; rintro e w8 ⟨v228, rfl, aa, hb⟩; refine ⟨_, rfl, ?_⟩; have m_HB := zA (ZG HB.out hb); have m_BA := zA (Zv BA.out hb); clear hb HB BA; have HB := m_HB; have BA := m_BA; clear m_HB m_BA; have HO := zA aa; clear aa; obtain ⟨Ao, co, eo⟩ := Zx HO.out; subst eo) | ((with_reducible refine zG 158 rfl ?_); refine Z0H (some 48) rfl rfl Tryz.func158 (by kernel_rfl) rfl #[.slice Ao a9.length co] rfl (by (try simp only [zk7, zkd, zkf]); first | done | rfl) ?_; refine (Z29.calls _ _ a9 a6 _ (Z8 HO.out).2.2 (Z8 HO.out).2.1 au.out).mono ?_; rintro e wd ⟨rfl, hd⟩; refine ⟨_, rfl, ?_⟩; have hb := hd.below; clear hd; have m_HB := zA (ZG HB.out hb); have m_BA := zA (Zv BA.out hb); clear hb HB BA; have HB := m_HB; have BA := m_BA; clear m_HB m_BA) | ((with_reducible refine zD 12 rfl ?_); refine zn (N := 12) (cs := #[.int .u64 0]) (t := 22) rfl rfl ?_; intro gM hg w1 hbox hb; have GM := zA (hg ▸ Z2 HB.out : w.heap.size ≤ gM); have NE := zA (by have q_ := Z2E BA.out; rw [hg]; omega : gA ≠ gM); have m_HB := zA (ZG HB.out hb); have m_BA := zA (Zv BA.out hb); clear hb HB BA; have HB := m_HB; have BA := m_BA; clear m_HB m_BA; have BM := zA hbox; clear hbox hg; have hcM0 := (Zs BM.out 0).trans rfl; have hfM0 := Z3 BM.out 0) | (refine ZQ (t := 22) (p := 12) (v := .tmp 48) rfl ?_; refine ZN (t := 22) (p := 12) (v := .tmp 48) (w1 := w1.setCell ⟨gM, 0, none⟩ (.int .u64 a6)) ?hg ?ho ?hn ?hr ?_; (case ho => rfl); (case hg => rfl); (case hn => rfl); (case hr => first | (go_simp; done) | (go_simp; rfl)); intro w2 hw; have m_BM := zA (hw ▸ Zb BM.out 0 (.int .u64 a6) rfl : w2.heap[gM]? = some (.cells #[.int .u64 a6] 22 (0, 0))); have m_BA := zA (hw ▸ Zf BA.out (p := ⟨gM, 0, none⟩) NE.out _ : w2.heap[gA]? = some (.cells #[.slice a4 a2.length a5, .int .i64 a3] 118 (0, 0))); have m_HB := zA (hw ▸ Zy HB.out GM.out : Below w.heap.size w w2); clear hw BM BA HB; have BM := m_BM; have BA := m_BA; have HB := m_HB; clear m_BM m_BA m_HB; have hcA0 := (Zs BA.out 0).trans rfl; have hfA0 := Z3 BA.out 0; have hcA1 := (Zs BA.out 1).trans rfl; have hfA1 := Z3 BA.out 1; have hcM0 := (Zs BM.out 0).trans rfl; have hfM0 := Z3 BM.out 0) | ((with_reducible refine zG 159 rfl ?_); refine Z0H (some 54) rfl rfl Tryz.func159 (by kernel_rfl) rfl #[.slice a4 a2.length a5, .int .i64 (wrap64 ((wrap64 (a1 - a3)) - 1))] rfl (by (try simp only [zk7, zkd, zkf]); first | done | rfl) ?_; refine (Z3x.calls k _ _ a2 (wrap64 ((wrap64 (a1 - a3)) - 1)) false aj _ (ZF a7.out HB.out) a8.out av.out).mono ?_; rintro e w8 ⟨rfl, hb⟩; refine ⟨_, rfl, ?_⟩; have m_HB := zA (ZG HB.out hb); have m_BA := zA (Zv BA.out hb); have m_BM := zA (Zv BM.out hb); clear hb HB BA BM; have HB := m_HB; have BA := m_BA; have BM := m_BM; clear m_HB m_BA m_BM; have hcA0 := (Zs BA.out 0).trans rfl; have hfA0 := Z3 BA.out 0; have hcA1 := (Zs BA.out 1).trans rfl; have hfA1 := Z3 BA.out 1; have hcM0 := (Zs BM.out 0).trans rfl; have hfM0 := Z3 BM.out 0) | ((with_reducible refine zG 160 rfl ?_); refine Z0H (some 60) rfl rfl Tryz.func160 (by kernel_rfl) rfl #[.slice a4 a2.length a5] rfl (by (try simp only [zk7, zkd, zkf]); first | done | rfl) ?_; refine (Z1u.calls k _ _ a2 ab al _ (ZF a7.out HB.out) a8.out (laid_below hT HB.out) aw.out).mono ?_; rintro e w9 ⟨rfl, hb⟩; refine ⟨_, rfl, ?_⟩; have m_HB := zA (ZG HB.out hb); have m_BA := zA (Zv BA.out hb); have m_BM := zA (Zv BM.out hb); clear hb HB BA BM; have HB := m_HB; have BA := m_BA; have BM := m_BM; clear m_HB m_BA m_BM; have hcA0 := (Zs BA.out 0).trans rfl; have hfA0 := Z3 BA.out 0; have hcA1 := (Zs BA.out 1).trans rfl; have hfA1 := Z3 BA.out 1; have hcM0 := (Zs BM.out 0).trans rfl; have hfM0 := Z3 BM.out 0) | ((with_reducible refine zD 78 rfl ?_); refine goesV_ (some 78) rfl rfl #[] #[.pointer (some ⟨gM, 0, none⟩)] rfl rfl Tryz.func161 (by kernel_rfl) rfl #[.bool false, .pointer (some ⟨gM, 0, none⟩)] (by (try simp only [zk7, zkd, zkf]); first | done | (go_simp; done) | rfl) ?_; refine (hand_at_lit gM a6 false _ BM.out).mono ?_; rintro e_ w4 ⟨rfl, hb⟩; refine ⟨_, rfl, ?_⟩; have m_HB := zA (ZG HB.out hb); clear HB hb; have HB := m_HB; clear m_HB))
  go_ret2
  exact ⟨rfl, HB.out⟩
 | true =>
 replace h : (if true = true then _ else _) = _ := h;rw [if_pos rfl] at h
 by_cases c15 : ab < (wrap64 ((wrap64 (a1 - a3)) - 1))
 rw [if_pos c15] at h;have an : decide (ab < (wrap64 ((wrap64 (a1 - a3)) - 1))) = true := dT c15;clear c15;rotate_left;rw [if_neg c15] at h;have an : decide (ab < (wrap64 ((wrap64 (a1 - a3)) - 1))) = false := dF c15;clear c15
 by_cases c24 : (Go.bits .and .u64 a6 1) = 1
 rw [if_pos c24] at h;have ao := eT c24;clear c24;rotate_left;rw [if_neg c24] at h;have ao := eF c24;clear c24;rotate_left
 all_goals
  simp only [zk3, zk5] at h;obtain ⟨rfl, rfl⟩ := h;go_enter Tryz.func148, Tryz.ntmps148
  go_wp2_with (first | ((with_reducible refine zD 2 rfl ?_); refine zn (N := 2) (cs := #[.slice a4 a2.length a5, .int .i64 a3]) (t := 118) rfl rfl ?_; intro gA hg w1 hbox hb; have GA := zA (hg ▸ Z2 HB.out : w.heap.size ≤ gA); have m_HB := zA (ZG HB.out hb); clear HB hb hg; have HB := m_HB; clear m_HB; have BA := zA hbox; clear hbox; have hcA0 := (Zs BA.out 0).trans rfl; have hfA0 := Z3 BA.out 0; have hcA1 := (Zs BA.out 1).trans rfl; have hfA1 := Z3 BA.out 1) | ((with_reducible refine zG 115 rfl ?_); refine Z0H (some 43) rfl rfl Tryz.func115 (by kernel_rfl) rfl #[.slice a4 a2.length a5, .int .i64 (wrap64 (a1 - a3))] rfl (by (try simp only [zk7, zkd, zkf]); first | done | rfl) ?_; refine (Z2L.calls k _ _ a2 (wrap64 (a1 - a3)) a9 af ag _ (ZF a7.out HB.out) a8.out ar.out).mono ?_; rintro e w8 ⟨v228, rfl, aa, hb⟩; refine ⟨_, rfl, ?_⟩; have m_HB := zA (ZG HB.out hb); have m_BA := zA (Zv BA.out hb); clear hb HB BA; have HB := m_HB; have BA := m_BA; clear m_HB m_BA; have HO := zA aa; clear aa; obtain ⟨Ao, co, eo⟩ := Zx HO.out; subst eo) | ((with_reducible refine zG 158 rfl ?_); refine Z0H (some 48) rfl rfl Tryz.func158 (by kernel_rfl) rfl #[.slice Ao a9.length co] rfl (by (try simp only [zk7, zkd, zkf]); first | done | rfl) ?_; refine (Z29.calls _ _ a9 a6 _ (Z8 HO.out).2.2 (Z8 HO.out).2.1 au.out).mono ?_; rintro e wd ⟨rfl, hd⟩; refine ⟨_, rfl, ?_⟩; have hb := hd.below; clear hd; have m_HB := zA (ZG HB.out hb); have m_BA := zA (Zv BA.out hb); clear hb HB BA; have HB := m_HB; have BA := m_BA; clear m_HB m_BA) | ((with_reducible refine zD 12 rfl ?_); refine zn (N := 12) (cs := #[.int .u64 0]) (t := 22) rfl rfl ?_; intro gM hg w1 hbox hb; have GM := zA (hg ▸ Z2 HB.out : w.heap.size ≤ gM); have NE := zA (by have q_ := Z2E BA.out; rw [hg]; omega : gA ≠ gM); have m_HB := zA (ZG HB.out hb); have m_BA := zA (Zv BA.out hb); clear hb HB BA; have HB := m_HB; have BA := m_BA; clear m_HB m_BA; have BM := zA hbox; clear hbox hg; have hcM0 := (Zs BM.out 0).trans rfl; have hfM0 := Z3 BM.out 0) | (refine ZQ (t := 22) (p := 12) (v := .tmp 48) rfl ?_; refine ZN (t := 22) (p := 12) (v := .tmp 48) (w1 := w1.setCell ⟨gM, 0, none⟩ (.int .u64 a6)) ?hg ?ho ?hn ?hr ?_; (case ho => rfl); (case hg => rfl); (case hn => rfl); (case hr => first | (go_simp; done) | (go_simp; rfl)); intro w2 hw; have m_BM := zA (hw ▸ Zb BM.out 0 (.int .u64 a6) rfl : w2.heap[gM]? = some (.cells #[.int .u64 a6] 22 (0, 0))); have m_BA := zA (hw ▸ Zf BA.out (p := ⟨gM, 0, none⟩) NE.out _ : w2.heap[gA]? = some (.cells #[.slice a4 a2.length a5, .int .i64 a3] 118 (0, 0))); have m_HB := zA (hw ▸ Zy HB.out GM.out : Below w.heap.size w w2); clear hw BM BA HB; have BM := m_BM; have BA := m_BA; have HB := m_HB; clear m_BM m_BA m_HB; have hcA0 := (Zs BA.out 0).trans rfl; have hfA0 := Z3 BA.out 0; have hcA1 := (Zs BA.out 1).trans rfl; have hfA1 := Z3 BA.out 1; have hcM0 := (Zs BM.out 0).trans rfl; have hfM0 := Z3 BM.out 0) | ((with_reducible refine zG 159 rfl ?_); refine Z0H (some 54) rfl rfl Tryz.func159 (by kernel_rfl) rfl #[.slice a4 a2.length a5, .int .i64 (wrap64 ((wrap64 (a1 - a3)) - 1))] rfl (by (try simp only [zk7, zkd, zkf]); first | done | rfl) ?_; refine (Z3x.calls k _ _ a2 (wrap64 ((wrap64 (a1 - a3)) - 1)) true aj _ (ZF a7.out HB.out) a8.out av.out).mono ?_; rintro e w8 ⟨rfl, hb⟩; refine ⟨_, rfl, ?_⟩; have m_HB := zA (ZG HB.out hb); have m_BA := zA (Zv BA.out hb); have m_BM := zA (Zv BM.out hb); clear hb HB BA BM; have HB := m_HB; have BA := m_BA; have BM := m_BM; clear m_HB m_BA m_BM; have hcA0 := (Zs BA.out 0).trans rfl; have hfA0 := Z3 BA.out 0; have hcA1 := (Zs BA.out 1).trans rfl; have hfA1 := Z3 BA.out 1; have hcM0 := (Zs BM.out 0).trans rfl; have hfM0 := Z3 BM.out 0) | ((with_reducible refine zG 160 rfl ?_); refine Z0H (some 60) rfl rfl Tryz.func160 (by kernel_rfl) rfl #[.slice a4 a2.length a5] rfl (by (try simp only [zk7, zkd, zkf]); first | done | rfl) ?_; refine (Z1u.calls k _ _ a2 ab al _ (ZF a7.out HB.out) a8.out (laid_below hT HB.out) aw.out).mono ?_; rintro e w9 ⟨rfl, hb⟩; refine ⟨_, rfl, ?_⟩; have m_HB := zA (ZG HB.out hb); have m_BA := zA (Zv BA.out hb); have m_BM := zA (Zv BM.out hb); clear hb HB BA BM; have HB := m_HB; have BA := m_BA; have BM := m_BM; clear m_HB m_BA m_BM; have hcA0 := (Zs BA.out 0).trans rfl; have hfA0 := Z3 BA.out 0; have hcA1 := (Zs BA.out 1).trans rfl; have hfA1 := Z3 BA.out 1; have hcM0 := (Zs BM.out 0).trans rfl; have hfM0 := Z3 BM.out 0) | ((with_reducible refine zD 78 rfl ?_); refine goesV_ (some 78) rfl rfl #[] #[.pointer (some ⟨gM, 0, none⟩)] rfl rfl Tryz.func161 (by kernel_rfl) rfl #[.bool true, .pointer (some ⟨gM, 0, none⟩)] (by (try simp only [zk7, zkd, zkf]); first | done | (go_simp; done) | rfl) ?_; refine (hand_at_lit gM a6 true _ BM.out).mono ?_; rintro e_ w4 ⟨rfl, hb⟩; refine ⟨_, rfl, ?_⟩; have m_HB := zA (ZG HB.out hb); clear HB hb; have HB := m_HB; clear m_HB) | ((with_reducible refine zD 78 rfl ?_); refine goesV_ (some 78) rfl rfl #[] #[.pointer (some ⟨gM, 0, none⟩)] rfl rfl Tryz.func161 (by kernel_rfl) rfl #[.bool false, .pointer (some ⟨gM, 0, none⟩)] (by (try simp only [zk7, zkd, zkf]); first | done | (go_simp; done) | rfl) ?_; refine (hand_at_lit gM a6 false _ BM.out).mono ?_; rintro e_ w4 ⟨rfl, hb⟩; refine ⟨_, rfl, ?_⟩; have m_HB := zA (ZG HB.out hb); clear HB hb; have HB := m_HB; clear m_HB))
  go_ret2
  exact ⟨rfl, HB.out⟩
end Go.Proofs.YtjnfipkbgmdpaaaGreatDoor.PAll
