/- Printed functions, merged by a program of this session. -/
import Derived.Test.YtnjfckadjklmfaaDoorXRoundPointsP0
import Derived.Test.YtnjfckadjklmfaaDoorXRoundPointsSh
namespace Go.Proofs.YtnjfckadjklmfaaDoor.PAll
open Go.RowKit Go.Proofs.YtnjfckadjklmfaaDoorW.PrintWords Go.Proofs.YtnjfckadjklmfaaDoorW.PrintLast Go.Proofs.YtnjfckadjklmfaaDoorW.PrintMore Go.Proofs.YtnjfckadjklmfaaDoorW.PrintWords.Kd
attribute [local go_sem] max2_int min2_int max_two min_two max_three min_three max_four min_four   -- for this text's walks alone
set_option linter.unusedVariables false
set_option linter.unusedSimpArgs false
attribute [local go_sem] fld75_0 fld75_1 fld75_2 ext118 ext119
mutual
def limbs_Add.l0 : Nat → List Int → List Int → List Int → Int → Int → Int → Option (List Int)
 | 0, _, _, _, _, _, _ => none
 | k + 1, x0, x1, x5, x6, x21, x22 => if x22 < x21 then (if x22 < (x1.length : Int) then (if 0 ≤ x22 then (if x22 < (x0.length : Int) then (if x6 ≤ 1 then (if x22 < (x5.length : Int) then (limbs_Add.l0 k x0 x1 (x5.set (x22 : Int).toNat (add64s (rd x0 x22) (rd x1 x22) x6)) (add64c (rd x0 x22) (rd x1 x22) x6) x21 (wrap64 (x22 + 1))) else (none)) else (none)) else (none)) else (none)) else (if 0 ≤ x22 then (if x22 < (x0.length : Int) then (if x6 ≤ 1 then (if x22 < (x5.length : Int) then (limbs_Add.l0 k x0 x1 (x5.set (x22 : Int).toNat (add64s (rd x0 x22) 0 x6)) (add64c (rd x0 x22) 0 x6) x21 (wrap64 (x22 + 1))) else (none)) else (none)) else (none)) else (none))) else (if 0 ≤ (x0.length : Int) then (if (x0.length : Int) < (x5.length : Int) then ((limbs_Trim.f k (x5.set ((x0.length : Int) : Int).toNat x6)).bind fun a1 => (some a1)) else (none)) else (none))
def limbs_Add.l100 : Nat → List Int → List Int → List Int → Int → Int → Int → Option (List Int)
 | 0, _, _, _, _, _, _ => none
 | k + 1, x0, x1, x5, x6, x21, x22 => if x22 < x21 then (if x22 < (x1.length : Int) then (if 0 ≤ x22 then (if x22 < (x0.length : Int) then (if x6 ≤ 1 then (if x22 < (x5.length : Int) then (limbs_Add.l100 k x0 x1 (x5.set (x22 : Int).toNat (add64s (rd x0 x22) (rd x1 x22) x6)) (add64c (rd x0 x22) (rd x1 x22) x6) x21 (wrap64 (x22 + 1))) else (none)) else (none)) else (none)) else (none)) else (if 0 ≤ x22 then (if x22 < (x0.length : Int) then (if x6 ≤ 1 then (if x22 < (x5.length : Int) then (limbs_Add.l100 k x0 x1 (x5.set (x22 : Int).toNat (add64s (rd x0 x22) 0 x6)) (add64c (rd x0 x22) 0 x6) x21 (wrap64 (x22 + 1))) else (none)) else (none)) else (none)) else (none))) else (if 0 ≤ (x0.length : Int) then (if (x0.length : Int) < (x5.length : Int) then ((limbs_Trim.f k (x5.set ((x0.length : Int) : Int).toNat x6)).bind fun a1 => (some a1)) else (none)) else (none))
end
def limbs_Add.f (k : Nat) (l0 : List Int) (l1 : List Int) : Option (List Int) := if (l0.length : Int) < (l1.length : Int) then (if 0 ≤ (wrap64 ((l1.length : Int) + 1)) then (if (wrap64 ((l1.length : Int) + 1) : Int).toNat ≤ 35184372088832 then (limbs_Add.l0 k l1 l0 (List.replicate (wrap64 ((l1.length : Int) + 1) : Int).toNat 0) 0 (l1.length : Int) 0) else (none)) else (none)) else (if 0 ≤ (wrap64 ((l0.length : Int) + 1)) then (if (wrap64 ((l0.length : Int) + 1) : Int).toNat ≤ 35184372088832 then (limbs_Add.l100 k l0 l1 (List.replicate (wrap64 ((l0.length : Int) + 1) : Int).toNat 0) 0 (l0.length : Int) 0) else (none)) else (none))
set_option maxHeartbeats 8000000 in
set_option maxRecDepth 100000 in
theorem limbs_Add.calls (k : Nat) (A0 : Option Addr) (c0 : Nat) (l0 : List Int) (A1 : Option Addr) (c1 : Nat) (l1 : List Int) (r : List Int) (w : World) (hr0 : Kd.C (Kd.int .u64) w A0 l0.length l0) (hc0 : l0.length ≤ c0) (hr1 : Kd.C (Kd.int .u64) w A1 l1.length l1) (hc1 : l1.length ≤ c1) (h : limbs_Add.f k l0 l1 = some r) :
  Calls Tryd.prog 92 #[.slice A0 l0.length c0, .slice A1 l1.length c1] w fun e w' => ∃ v0_ : Value, e = .returned (v0_) ∧ Kd.V (Kd.int .u64) 26 w' w.heap.size (fun k_ => (w.heap.size ≤ k_)) v0_ r ∧ Below w.heap.size w w' := by
 have aK := zA hr0;have c2 := zA hc0;clear hr0 hc0;have aL := zA hr1;have c4 := zA hc1;clear hr1 hc1;have HB := zA (Below.refl w.heap.size w);have H : (if (l0.length : Int) < (l1.length : Int) then (if 0 ≤ (wrap64 ((l1.length : Int) + 1)) then (if (wrap64 ((l1.length : Int) + 1) : Int).toNat ≤ 35184372088832 then (limbs_Add.l0 k l1 l0 (List.replicate (wrap64 ((l1.length : Int) + 1) : Int).toNat 0) 0 (l1.length : Int) 0) else (none)) else (none)) else (if 0 ≤ (wrap64 ((l0.length : Int) + 1)) then (if (wrap64 ((l0.length : Int) + 1) : Int).toNat ≤ 35184372088832 then (limbs_Add.l100 k l0 l1 (List.replicate (wrap64 ((l0.length : Int) + 1) : Int).toNat 0) 0 (l0.length : Int) 0) else (none)) else (none))) = some r := h;clear h
 by_cases c3 : (l0.length : Int) < (l1.length : Int)
 ·rw [if_pos c3] at H;have aw := decide_eq_true c3;have ax : decide (l0.length < l1.length) = true := decide_eq_true (Int.ofNat_lt.mp c3);clear c3;obtain ⟨ag, a9⟩ : ∃ j_ : Int, (wrap64 ((l1.length : Int) + 1)) = j_ := ⟨_, rfl⟩;replace H : (if 0 ≤ (ag) then (if (ag : Int).toNat ≤ 35184372088832 then (limbs_Add.l0 k l1 l0 (List.replicate (ag : Int).toNat 0) 0 (l1.length : Int) 0) else (none)) else (none)) = some r := zQ a9 H;have hji4w : (IntKind.i64.wrap ((l1.length : Int) + 1)) = ag := (i64_w _).trans a9;replace H := dn H;obtain ⟨c5, H⟩ := H;have aM := eq_true c5;have aN := decide_eq_true c5;clear c5;replace H := dn H;obtain ⟨c6, H⟩ := H;have aO := eq_true c6;have aP := decide_eq_true c6;clear c6;obtain ⟨aQ, ai⟩ : ∃ y_ : List Int, y_ = (List.replicate (ag : Int).toNat 0) := ⟨_, rfl⟩;replace H : (limbs_Add.l0 k l1 l0 aQ 0 (l1.length : Int) 0) = some r := zR ai H;have aH := zA ai;clear ai;have H' := zA H;clear H;go_enter Tryd.func92, Tryd.ntmps92
  go_wp2_with (first | ((with_reducible refine zD 19 rfl ?_); refine R_make (Kd.int .u64) _ 26 rfl (N := 19) rfl 22 _ _ rfl ag rfl rfl Tryd.underlying22 (.int .u64 0) 8 info26 rfl (by decide) (by omega) 0 (ok := fun _ => True) (okp := fun _ => True) rfl (fun _ hk => hk) trivial (od) (Nat.le_trans (Nat.mul_le_mul_right _ (od : ag.toNat ≤ 35184372088832)) (by omega)) (Below.refl _ _) (Nat.le_refl _) ?_; intro v904 w7 ar hb hg_ hnew_; clear hg_ hnew_; (first | rw [← aH.out] at ar | (simp only [Int.reduceToNat] at ar; rw [← aH.out] at ar)); have b8 := zA (R_lower (R_newM (M := fun k_ => (w.heap.size ≤ k_)) ar (below_size bq) (fun k_ h_ => h_)) (below_size bq)); replace HB := ze hb; clear hb ar))
  go_loopg [6, 22] k (fun kq v6 v22 w' => ∃ (a3 : List Int) (a4 : Int) (a1 : Int), v6 = .int .u64 a4 ∧ v22 = .int .i64 a1 ∧ Aside0 (limbs_Add.l0 kq l1 l0 a3 a4 (l1.length : Int) a1 = some r) ∧ Aside0 (kq ≤ k) ∧ Aside0 (Kd.R (Kd.int .u64) 26 w' w.heap.size (fun k_ => (w.heap.size ≤ k_)) v904 a3) ∧ Aside0 (Below w.heap.size w w'))
  case atStart => exact ⟨(aQ), (0), (0), zi, zi, H', ⟨Nat.le_refl _⟩, ⟨ru (R_mono b8.out (fun _ hk => hk.1))⟩, ⟨bq⟩⟩
  case round =>
   clear H'
   try clear c1
   try clear c3
   try clear aw
   try clear ax
   try clear c5
   try clear aM
   try clear aN
   try clear c6
   try clear aO
   try clear aP
   obtain ⟨a3, a4, a1, rfl, rfl, HA, HK1, a2, HB⟩ := hrel
   cases gk with
   | zero => exact absurd HA.out (by simp [limbs_Add.l0])
   | succ k1 =>
    have H := HA.out;clear HA;simp only [limbs_Add.l0] at H
    by_cases c9 : a1 < (l1.length : Int)
    ·rw [if_pos c9] at H;have aR := decide_eq_true c9;clear c9
     by_cases c10 : a1 < (l0.length : Int)
     ·rw [if_pos c10] at H;have aI := decide_eq_true c10;clear c10;replace H := dn H;obtain ⟨c11, H⟩ := H;have b9 := decide_eq_true c11;clear c11;replace H := dn H;obtain ⟨c12, H⟩ := H;have ba := decide_eq_true c12;clear c12;replace H := dn H;obtain ⟨c13, H⟩ := H;have bb := eq_true c13;have bc := decide_eq_true c13;clear c13;replace H := dn H;obtain ⟨c14, H⟩ := H;have bd := decide_eq_true c14;clear c14;obtain ⟨ay, aj⟩ : ∃ y_ : List Int, y_ = (a3.set (a1 : Int).toNat (add64s (rd l1 a1) (rd l0 a1) a4)) := ⟨_, rfl⟩;replace H : (limbs_Add.l0 k1 l1 l0 ay (add64c (rd l1 a1) (rd l0 a1) a4) (l1.length : Int) (wrap64 (a1 + 1))) = some r := zR aj H;have be := zA aj;clear aj;have H' := zA H;clear H;have p906 : 0 ≤ (a1 : Int) := od;have q906 : a1 < (l0.length : Int) := od;obtain ⟨ad906, e906, a6⟩ := Kd.at_int aK.out a1 p906 q906;cases e906;replace a6 := (HB.out.cell (World.block_lt_of_cell? w _ a6)).trans a6;replace p906 := eq_true p906;replace q906 := eq_true q906;have p907 : 0 ≤ (a1 : Int) := od;have q907 : a1 < (l1.length : Int) := od;obtain ⟨ad907, e907, a7⟩ := Kd.at_int aL.out a1 p907 q907;cases e907;replace a7 := (HB.out.cell (World.block_lt_of_cell? w _ a7)).trans a7;replace p907 := eq_true p907;replace q907 := eq_true q907;have p15 : 0 ≤ (a1 : Int) := od;have q15 : (a1 : Int) < ((a3.length : Int) : Int) := od;obtain ⟨go15, bF, aS, aT, gl15, cl15, HG15⟩ := R_form a2.out (by omega)
      (first | cases aS | (injection aS with ea_ en_ ec_; (first | subst ea_ | (injection ea_ with ea_; subst ea_)); subst ec_; clear en_))
      have GB15 := zA aT;have GG15 := zA HG15;clear aT gl15 HG15;obtain ⟨aU, hf15_0⟩ := R_celln 0 a2.out (a1 : Int) p15 q15;replace p15 := eq_true p15;replace q15 := eq_true q15;have HP16 := R_putg a2.out (a1 : Int) (add64s (rd l1 a1) (rd l0 a1) a4)
      go_wp2_with (first | ((with_reducible refine gate_store (t := 26) (p := 45) rfl ?_); refine store_event (t := 26) (p := 45) (v := ?vo_w17) (w1 := (wr.setCell ⟨go15, (a1 : Int).toNat, none⟩ (.int .u64 (add64s (rd l1 a1) (rd l0 a1) a4)))) ?hg ?ho ?hn ?hr ?_; (case ho => rfl); (case hg => rfl); (case hn => rfl); (case hr => first | (go_simp; done) | (go_simp; rfl)); intro w17 hw; have hg : wr.grownBy w17 (some go15) := (by rw [hw]; exact HP16.2); have hp_ : Kd.R (Kd.int .u64) 26 w17 w.heap.size (fun k_ => (w.heap.size ≤ k_)) (.slice (some ⟨go15, 0, none⟩) a3.length bF) ay := (by rw [hw, be.out]; exact HP16.1); clear HP16; replace a2 := zA (hp_); replace HB := zA ((by rw [hw]; exact below_set (HB.out) GB15.out : Below w.heap.size w w17)); clear hg hw hp_))
      go_roundg k1
      case measure => have := HK1.out; omega
      case rel => exact ⟨(ay), (add64c (rd l1 a1) (rd l0 a1) a4), (wrap64 (a1 + 1)), zi, zi, (by first | exact H' | (simp only [a9]; exact H') | (simp only [a9] at H' ⊢; exact H')), ⟨by have := HK1.out; omega⟩, ⟨ru a2.out⟩, ⟨bq⟩⟩
     rw [if_neg c10] at H;have aI := decide_eq_false c10;clear c10;replace H := dn H;obtain ⟨c18, H⟩ := H;have bf := decide_eq_true c18;clear c18;replace H := dn H;obtain ⟨c19, H⟩ := H;have bg := decide_eq_true c19;clear c19;replace H := dn H;obtain ⟨c20, H⟩ := H;have bh := eq_true c20;have bi := decide_eq_true c20;clear c20;replace H := dn H;obtain ⟨c21, H⟩ := H;have bj := decide_eq_true c21;clear c21;obtain ⟨aA, ak⟩ : ∃ y_ : List Int, y_ = (a3.set (a1 : Int).toNat (add64s (rd l1 a1) 0 a4)) := ⟨_, rfl⟩;replace H : (limbs_Add.l0 k1 l1 l0 aA (add64c (rd l1 a1) 0 a4) (l1.length : Int) (wrap64 (a1 + 1))) = some r := zR ak H;have bk := zA ak;clear ak;have H' := zA H;clear H;have p909 : 0 ≤ (a1 : Int) := od;have q909 : a1 < (l1.length : Int) := od;obtain ⟨ad909, e909, a8⟩ := Kd.at_int aL.out a1 p909 q909;cases e909;replace a8 := (HB.out.cell (World.block_lt_of_cell? w _ a8)).trans a8;replace p909 := eq_true p909;replace q909 := eq_true q909;have p22 : 0 ≤ (a1 : Int) := od;have q22 : (a1 : Int) < ((a3.length : Int) : Int) := od;obtain ⟨go22, bG, aV, aW, gl22, cl22, HG22⟩ := R_form a2.out (by omega)
     (first | cases aV | (injection aV with ea_ en_ ec_; (first | subst ea_ | (injection ea_ with ea_; subst ea_)); subst ec_; clear en_))
     have GB22 := zA aW;have GG22 := zA HG22;clear aW gl22 HG22;obtain ⟨aX, hf22_0⟩ := R_celln 0 a2.out (a1 : Int) p22 q22;replace p22 := eq_true p22;replace q22 := eq_true q22;have HP23 := R_putg a2.out (a1 : Int) (add64s (rd l1 a1) 0 a4)
     go_wp2_with (first | ((with_reducible refine gate_store (t := 26) (p := 45) rfl ?_); refine store_event (t := 26) (p := 45) (v := ?vo_w24) (w1 := (wr.setCell ⟨go22, (a1 : Int).toNat, none⟩ (.int .u64 (add64s (rd l1 a1) 0 a4)))) ?hg ?ho ?hn ?hr ?_; (case ho => rfl); (case hg => rfl); (case hn => rfl); (case hr => first | (go_simp; done) | (go_simp; rfl)); intro w24 hw; have hg : wr.grownBy w24 (some go22) := (by rw [hw]; exact HP23.2); have hp_ : Kd.R (Kd.int .u64) 26 w24 w.heap.size (fun k_ => (w.heap.size ≤ k_)) (.slice (some ⟨go22, 0, none⟩) a3.length bG) aA := (by rw [hw, bk.out]; exact HP23.1); clear HP23; replace a2 := zA (hp_); replace HB := zA ((by rw [hw]; exact below_set (HB.out) GB22.out : Below w.heap.size w w24)); clear hg hw hp_))
     go_roundg k1
     case measure => have := HK1.out; omega
     case rel => exact ⟨(aA), (add64c (rd l1 a1) 0 a4), (wrap64 (a1 + 1)), zi, zi, (by first | exact H' | (simp only [a9]; exact H') | (simp only [a9] at H' ⊢; exact H')), ⟨by have := HK1.out; omega⟩, ⟨ru a2.out⟩, ⟨bq⟩⟩
    rw [if_neg c9] at H;have aR := decide_eq_false c9;clear c9;replace H := dn H;obtain ⟨c25, H⟩ := H;have bl := decide_eq_true c25;have bm : decide (0 ≤ l1.length) = true := decide_eq_true (by omega);clear c25;replace H := dn H;obtain ⟨c26, H⟩ := H;have bn := decide_eq_true c26;have bo : decide (l1.length < a3.length) = true := decide_eq_true (Int.ofNat_lt.mp c26);clear c26;obtain ⟨ab, al⟩ : ∃ y_ : List Int, y_ = (a3.set ((l1.length : Int) : Int).toNat a4) := ⟨_, rfl⟩;replace H : ((limbs_Trim.f k1 ab).bind fun aB => (some aB)) = some r := zR al H;have bp := zA al;clear al;obtain ⟨aB, bJ, H⟩ := zh H;obtain rfl := Option.some.inj H;have p27 : 0 ≤ ((l1.length : Int) : Int) := od;have q27 : ((l1.length : Int) : Int) < ((a3.length : Int) : Int) := od;obtain ⟨go27, aC, aY, az, gl27, cl27, HG27⟩ := R_form a2.out (by omega)
    (first | cases aY | (injection aY with ea_ en_ ec_; (first | subst ea_ | (injection ea_ with ea_; subst ea_)); subst ec_; clear en_))
    have GB27 := zA az;have GG27 := zA HG27;clear az gl27 HG27;obtain ⟨au, hf27_0⟩ := R_celln 0 a2.out ((l1.length : Int) : Int) p27 q27;(try simp only [Int.toNat_natCast] at au hf27_0);replace p27 := eq_true p27;replace q27 := eq_true q27;have HP29 := R_putg a2.out ((l1.length : Int) : Int) a4
    go_wp2_with (first | ((with_reducible refine gate_store (t := 26) (p := 51) rfl ?_); refine store_event (t := 26) (p := 51) (v := ?vo_w30) (w1 := (wr.setCell ⟨go27, ((l1.length : Int) : Int).toNat, none⟩ (.int .u64 a4))) ?hg ?ho ?hn ?hr ?_; (case ho => rfl); (case hg => rfl); (case hn => rfl); (case hr => first | (go_simp; done) | (go_simp; rfl)); intro w30 hw; have hg : wr.grownBy w30 (some go27) := (by rw [hw]; exact HP29.2); have hp_ : Kd.R (Kd.int .u64) 26 w30 w.heap.size (fun k_ => (w.heap.size ≤ k_)) (.slice (some ⟨go27, 0, none⟩) a3.length aC) ab := (by rw [hw, bp.out]; exact HP29.1); clear HP29; replace a2 := zA (hp_); replace HB := zA ((by rw [hw]; exact below_set (HB.out) GB27.out : Below w.heap.size w w30)); clear hg hw hp_) | ((with_reducible refine zG 84 rfl ?_); refine goesL_ (some 53) rfl rfl Tryd.func84 (by kernel_rfl) rfl #[.slice (some ⟨go27, 0, none⟩) ab.length aC] rfl (by (try simp only [List.map_toArray, List.map_cons, List.map_nil]); first | done | (rw [show ab.length = a3.length from (R_reads' a2.out).1.symm] <;> rfl) | rfl | (simp only [List.length_drop, List.length_take]; rfl)) ?_; (with_reducible refine (limbs_Trim.calls k1 (fun k_ => some k_ = (.slice (some ⟨go27, 0, none⟩) a3.length aC : Value).ownBlock) _ _ ab aB _ ?am bJ.out).mono ?_); (case am => rw [show ab.length = a3.length from (R_reads' a2.out).1.symm]; exact R_V (R_tight rfl (a2.out))); rintro e w31 ⟨v913, rfl, av, hb⟩; refine ⟨_, rfl, ?_⟩; have br := zA (V_lower (V_mono (ok' := fun k_ => (w.heap.size ≤ k_)) av (fun k_ hk_ => Or.elim hk_ (fun hs_ => ((a2.out).1 k_ hs_.symm)) (fun hn_ => (Nat.le_trans (below_size bq) hn_)))) (below_size bq)); replace a2 := zA (R_below (ru a2.out) hb); replace HB := ze hb; (try clear av)))
    go_ret;exact ⟨_, by first | rfl | (simp [errW_none, errW_some] <;> rfl) | (simp only [← a9]; first | rfl | (simp [errW_none, errW_some] <;> rfl)) | (simp [*, errW_none, errW_some] <;> rfl), vu br.out, bq⟩
 rw [if_neg c3] at H;have aw := decide_eq_false c3;have ax : decide (l0.length < l1.length) = false := decide_eq_false (fun h => c3 (Int.ofNat_lt.mpr h));clear c3;obtain ⟨aa, a5⟩ : ∃ j_ : Int, (wrap64 ((l0.length : Int) + 1)) = j_ := ⟨_, rfl⟩;replace H : (if 0 ≤ (aa) then (if (aa : Int).toNat ≤ 35184372088832 then (limbs_Add.l100 k l0 l1 (List.replicate (aa : Int).toNat 0) 0 (l0.length : Int) 0) else (none)) else (none)) = some r := zQ a5 H;have hji32w : (IntKind.i64.wrap ((l0.length : Int) + 1)) = aa := (i64_w _).trans a5;replace H := dn H;obtain ⟨c33, H⟩ := H;have bs := eq_true c33;have bt := decide_eq_true c33;clear c33;replace H := dn H;obtain ⟨c34, H⟩ := H;have bu := eq_true c34;have bv := decide_eq_true c34;clear c34;obtain ⟨aZ, an⟩ : ∃ y_ : List Int, y_ = (List.replicate (aa : Int).toNat 0) := ⟨_, rfl⟩;replace H : (limbs_Add.l100 k l0 l1 aZ 0 (l0.length : Int) 0) = some r := zR an H;have aJ := zA an;clear an;have H' := zA H;clear H;go_enter Tryd.func92, Tryd.ntmps92
 go_wp2_with (first | ((with_reducible refine zD 19 rfl ?_); refine R_make (Kd.int .u64) _ 26 rfl (N := 19) rfl 22 _ _ rfl aa rfl rfl Tryd.underlying22 (.int .u64 0) 8 info26 rfl (by decide) (by omega) 0 (ok := fun _ => True) (okp := fun _ => True) rfl (fun _ hk => hk) trivial (od) (Nat.le_trans (Nat.mul_le_mul_right _ (od : aa.toNat ≤ 35184372088832)) (by omega)) (Below.refl _ _) (Nat.le_refl _) ?_; intro v916 w35 ah hb hg_ hnew_; clear hg_ hnew_; (first | rw [← aJ.out] at ah | (simp only [Int.reduceToNat] at ah; rw [← aJ.out] at ah)); have bw := zA (R_lower (R_newM (M := fun k_ => (w.heap.size ≤ k_)) ah (below_size bq) (fun k_ h_ => h_)) (below_size bq)); replace HB := ze hb; clear hb ah))
 go_loopg [6, 22] k (fun kq v6 v22 w' => ∃ (a3 : List Int) (a4 : Int) (a1 : Int), v6 = .int .u64 a4 ∧ v22 = .int .i64 a1 ∧ Aside0 (limbs_Add.l100 kq l0 l1 a3 a4 (l0.length : Int) a1 = some r) ∧ Aside0 (kq ≤ k) ∧ Aside0 (Kd.R (Kd.int .u64) 26 w' w.heap.size (fun k_ => (w.heap.size ≤ k_)) v916 a3) ∧ Aside0 (Below w.heap.size w w'))
 case atStart => exact ⟨(aZ), (0), (0), zi, zi, H', ⟨Nat.le_refl _⟩, ⟨ru (R_mono bw.out (fun _ hk => hk.1))⟩, ⟨bq⟩⟩
 case round =>
  clear H'
  try clear c1
  try clear c3
  try clear aw
  try clear ax
  try clear c5
  try clear aM
  try clear aN
  try clear c6
  try clear aO
  try clear aP
  try clear c8
  try clear c9
  try clear aR
  try clear c10
  try clear aI
  try clear c11
  try clear b9
  try clear c12
  try clear ba
  try clear c13
  try clear bb
  try clear bc
  try clear c14
  try clear bd
  try clear p15
  try clear q15
  try clear c18
  try clear bf
  try clear c19
  try clear bg
  try clear c20
  try clear bh
  try clear bi
  try clear c21
  try clear bj
  try clear p22
  try clear q22
  try clear c25
  try clear bl
  try clear bm
  try clear c26
  try clear bn
  try clear bo
  try clear p27
  try clear q27
  try clear c33
  try clear bs
  try clear bt
  try clear c34
  try clear bu
  try clear bv
  try clear aU
  try clear aX
  try clear au
  try clear a6
  try clear a7
  try clear a8
  try clear p15
  try clear p22
  try clear p27
  try clear p906
  try clear p907
  try clear p909
  try clear q15
  try clear q22
  try clear q27
  try clear q906
  try clear q907
  try clear q909
  obtain ⟨a3, a4, a1, rfl, rfl, HA, HK1, a2, HB⟩ := hrel
  cases gk with
  | zero => exact absurd HA.out (by simp [limbs_Add.l100])
  | succ k1 =>
   have H := HA.out;clear HA;simp only [limbs_Add.l100] at H
   by_cases c37 : a1 < (l0.length : Int)
   ·rw [if_pos c37] at H;have bx := decide_eq_true c37;clear c37
    by_cases c38 : a1 < (l1.length : Int)
    ·rw [if_pos c38] at H;have bA := decide_eq_true c38;clear c38;replace H := dn H;obtain ⟨c39, H⟩ := H;have bN := decide_eq_true c39;clear c39;replace H := dn H;obtain ⟨c40, H⟩ := H;have bO := decide_eq_true c40;clear c40;replace H := dn H;obtain ⟨c41, H⟩ := H;have bP := eq_true c41;have bQ := decide_eq_true c41;clear c41;replace H := dn H;obtain ⟨c42, H⟩ := H;have bR := decide_eq_true c42;clear c42;obtain ⟨aD, ao⟩ : ∃ y_ : List Int, y_ = (a3.set (a1 : Int).toNat (add64s (rd l0 a1) (rd l1 a1) a4)) := ⟨_, rfl⟩;replace H : (limbs_Add.l100 k1 l0 l1 aD (add64c (rd l0 a1) (rd l1 a1) a4) (l0.length : Int) (wrap64 (a1 + 1))) = some r := zR ao H;have bB := zA ao;clear ao;have H' := zA H;clear H;have p918 : 0 ≤ (a1 : Int) := od;have q918 : a1 < (l1.length : Int) := od;obtain ⟨ad918, e918, ac⟩ := Kd.at_int aL.out a1 p918 q918;cases e918;replace ac := (HB.out.cell (World.block_lt_of_cell? w _ ac)).trans ac;replace p918 := eq_true p918;replace q918 := eq_true q918;have p919 : 0 ≤ (a1 : Int) := od;have q919 : a1 < (l0.length : Int) := od;obtain ⟨ad919, e919, ad⟩ := Kd.at_int aK.out a1 p919 q919;cases e919;replace ad := (HB.out.cell (World.block_lt_of_cell? w _ ad)).trans ad;replace p919 := eq_true p919;replace q919 := eq_true q919;have p43 : 0 ≤ (a1 : Int) := od;have q43 : (a1 : Int) < ((a3.length : Int) : Int) := od;obtain ⟨go43, bH, b1, b2, gl43, cl43, HG43⟩ := R_form a2.out (by omega)
     (first | cases b1 | (injection b1 with ea_ en_ ec_; (first | subst ea_ | (injection ea_ with ea_; subst ea_)); subst ec_; clear en_))
     have GB43 := zA b2;have GG43 := zA HG43;clear b2 gl43 HG43;obtain ⟨bK, hf43_0⟩ := R_celln 0 a2.out (a1 : Int) p43 q43;replace p43 := eq_true p43;replace q43 := eq_true q43;have HP44 := R_putg a2.out (a1 : Int) (add64s (rd l0 a1) (rd l1 a1) a4)
     go_wp2_with (first | ((with_reducible refine gate_store (t := 26) (p := 45) rfl ?_); refine store_event (t := 26) (p := 45) (v := ?vo_w45) (w1 := (wr.setCell ⟨go43, (a1 : Int).toNat, none⟩ (.int .u64 (add64s (rd l0 a1) (rd l1 a1) a4)))) ?hg ?ho ?hn ?hr ?_; (case ho => rfl); (case hg => rfl); (case hn => rfl); (case hr => first | (go_simp; done) | (go_simp; rfl)); intro w45 hw; have hg : wr.grownBy w45 (some go43) := (by rw [hw]; exact HP44.2); have hp_ : Kd.R (Kd.int .u64) 26 w45 w.heap.size (fun k_ => (w.heap.size ≤ k_)) (.slice (some ⟨go43, 0, none⟩) a3.length bH) aD := (by rw [hw, bB.out]; exact HP44.1); clear HP44; replace a2 := zA (hp_); replace HB := zA ((by rw [hw]; exact below_set (HB.out) GB43.out : Below w.heap.size w w45)); clear hg hw hp_))
     go_roundg k1
     case measure => have := HK1.out; omega
     case rel => exact ⟨(aD), (add64c (rd l0 a1) (rd l1 a1) a4), (wrap64 (a1 + 1)), zi, zi, (by first | exact H' | (simp only [a5]; exact H') | (simp only [a5] at H' ⊢; exact H')), ⟨by have := HK1.out; omega⟩, ⟨ru a2.out⟩, ⟨bq⟩⟩
    rw [if_neg c38] at H;have bA := decide_eq_false c38;clear c38;replace H := dn H;obtain ⟨c46, H⟩ := H;have bS := decide_eq_true c46;clear c46;replace H := dn H;obtain ⟨c47, H⟩ := H;have bT := decide_eq_true c47;clear c47;replace H := dn H;obtain ⟨c48, H⟩ := H;have bU := eq_true c48;have bV := decide_eq_true c48;clear c48;replace H := dn H;obtain ⟨c49, H⟩ := H;have bW := decide_eq_true c49;clear c49;obtain ⟨aE, ap⟩ : ∃ y_ : List Int, y_ = (a3.set (a1 : Int).toNat (add64s (rd l0 a1) 0 a4)) := ⟨_, rfl⟩;replace H : (limbs_Add.l100 k1 l0 l1 aE (add64c (rd l0 a1) 0 a4) (l0.length : Int) (wrap64 (a1 + 1))) = some r := zR ap H;have bC := zA ap;clear ap;have H' := zA H;clear H;have p921 : 0 ≤ (a1 : Int) := od;have q921 : a1 < (l0.length : Int) := od;obtain ⟨ad921, e921, ae⟩ := Kd.at_int aK.out a1 p921 q921;cases e921;replace ae := (HB.out.cell (World.block_lt_of_cell? w _ ae)).trans ae;replace p921 := eq_true p921;replace q921 := eq_true q921;have p50 : 0 ≤ (a1 : Int) := od;have q50 : (a1 : Int) < ((a3.length : Int) : Int) := od;obtain ⟨go50, bI, b3, b4, gl50, cl50, HG50⟩ := R_form a2.out (by omega)
    (first | cases b3 | (injection b3 with ea_ en_ ec_; (first | subst ea_ | (injection ea_ with ea_; subst ea_)); subst ec_; clear en_))
    have GB50 := zA b4;have GG50 := zA HG50;clear b4 gl50 HG50;obtain ⟨bL, hf50_0⟩ := R_celln 0 a2.out (a1 : Int) p50 q50;replace p50 := eq_true p50;replace q50 := eq_true q50;have HP51 := R_putg a2.out (a1 : Int) (add64s (rd l0 a1) 0 a4)
    go_wp2_with (first | ((with_reducible refine gate_store (t := 26) (p := 45) rfl ?_); refine store_event (t := 26) (p := 45) (v := ?vo_w52) (w1 := (wr.setCell ⟨go50, (a1 : Int).toNat, none⟩ (.int .u64 (add64s (rd l0 a1) 0 a4)))) ?hg ?ho ?hn ?hr ?_; (case ho => rfl); (case hg => rfl); (case hn => rfl); (case hr => first | (go_simp; done) | (go_simp; rfl)); intro w52 hw; have hg : wr.grownBy w52 (some go50) := (by rw [hw]; exact HP51.2); have hp_ : Kd.R (Kd.int .u64) 26 w52 w.heap.size (fun k_ => (w.heap.size ≤ k_)) (.slice (some ⟨go50, 0, none⟩) a3.length bI) aE := (by rw [hw, bC.out]; exact HP51.1); clear HP51; replace a2 := zA (hp_); replace HB := zA ((by rw [hw]; exact below_set (HB.out) GB50.out : Below w.heap.size w w52)); clear hg hw hp_))
    go_roundg k1
    case measure => have := HK1.out; omega
    case rel => exact ⟨(aE), (add64c (rd l0 a1) 0 a4), (wrap64 (a1 + 1)), zi, zi, (by first | exact H' | (simp only [a5]; exact H') | (simp only [a5] at H' ⊢; exact H')), ⟨by have := HK1.out; omega⟩, ⟨ru a2.out⟩, ⟨bq⟩⟩
   rw [if_neg c37] at H;have bx := decide_eq_false c37;clear c37;replace H := dn H;obtain ⟨c53, H⟩ := H;have bX := decide_eq_true c53;have bY : decide (0 ≤ l0.length) = true := decide_eq_true (by omega);clear c53;replace H := dn H;obtain ⟨c54, H⟩ := H;have bz := decide_eq_true c54;have bZ : decide (l0.length < a3.length) = true := decide_eq_true (Int.ofNat_lt.mp c54);clear c54;obtain ⟨af, aq⟩ : ∃ y_ : List Int, y_ = (a3.set ((l0.length : Int) : Int).toNat a4) := ⟨_, rfl⟩;replace H : ((limbs_Trim.f k1 af).bind fun aF => (some aF)) = some r := zR aq H;have bD := zA aq;clear aq;obtain ⟨aF, bM, H⟩ := zh H;obtain rfl := Option.some.inj H;have p55 : 0 ≤ ((l0.length : Int) : Int) := od;have q55 : ((l0.length : Int) : Int) < ((a3.length : Int) : Int) := od;obtain ⟨go55, aG, b5, b6, gl55, cl55, HG55⟩ := R_form a2.out (by omega)
   (first | cases b5 | (injection b5 with ea_ en_ ec_; (first | subst ea_ | (injection ea_ with ea_; subst ea_)); subst ec_; clear en_))
   have GB55 := zA b6;have GG55 := zA HG55;clear b6 gl55 HG55;obtain ⟨b7, hf55_0⟩ := R_celln 0 a2.out ((l0.length : Int) : Int) p55 q55;(try simp only [Int.toNat_natCast] at b7 hf55_0);replace p55 := eq_true p55;replace q55 := eq_true q55;have HP57 := R_putg a2.out ((l0.length : Int) : Int) a4
   go_wp2_with (first | ((with_reducible refine gate_store (t := 26) (p := 51) rfl ?_); refine store_event (t := 26) (p := 51) (v := ?vo_w58) (w1 := (wr.setCell ⟨go55, ((l0.length : Int) : Int).toNat, none⟩ (.int .u64 a4))) ?hg ?ho ?hn ?hr ?_; (case ho => rfl); (case hg => rfl); (case hn => rfl); (case hr => first | (go_simp; done) | (go_simp; rfl)); intro w58 hw; have hg : wr.grownBy w58 (some go55) := (by rw [hw]; exact HP57.2); have hp_ : Kd.R (Kd.int .u64) 26 w58 w.heap.size (fun k_ => (w.heap.size ≤ k_)) (.slice (some ⟨go55, 0, none⟩) a3.length aG) af := (by rw [hw, bD.out]; exact HP57.1); clear HP57; replace a2 := zA (hp_); replace HB := zA ((by rw [hw]; exact below_set (HB.out) GB55.out : Below w.heap.size w w58)); clear hg hw hp_) | ((with_reducible refine zG 84 rfl ?_); refine goesL_ (some 53) rfl rfl Tryd.func84 (by kernel_rfl) rfl #[.slice (some ⟨go55, 0, none⟩) af.length aG] rfl (by (try simp only [List.map_toArray, List.map_cons, List.map_nil]); first | done | (rw [show af.length = a3.length from (R_reads' a2.out).1.symm] <;> rfl) | rfl | (simp only [List.length_drop, List.length_take]; rfl)) ?_; (with_reducible refine (limbs_Trim.calls k1 (fun k_ => some k_ = (.slice (some ⟨go55, 0, none⟩) a3.length aG : Value).ownBlock) _ _ af aF _ ?am bM.out).mono ?_); (case am => rw [show af.length = a3.length from (R_reads' a2.out).1.symm]; exact R_V (R_tight rfl (a2.out))); rintro e w59 ⟨v925, rfl, av, hb⟩; refine ⟨_, rfl, ?_⟩; have bE := zA (V_lower (V_mono (ok' := fun k_ => (w.heap.size ≤ k_)) av (fun k_ hk_ => Or.elim hk_ (fun hs_ => ((a2.out).1 k_ hs_.symm)) (fun hn_ => (Nat.le_trans (below_size bq) hn_)))) (below_size bq)); replace a2 := zA (R_below (ru a2.out) hb); replace HB := ze hb; (try clear av)))
   go_ret;exact ⟨_, by first | rfl | (simp [errW_none, errW_some] <;> rfl) | (simp only [← a5]; first | rfl | (simp [errW_none, errW_some] <;> rfl)) | (simp [*, errW_none, errW_some] <;> rfl), vu bE.out, bq⟩
def limbs_Sub.l0 : Nat → List Int → List Int → List Int → Int → Int → Int → Option (List Int)
 | 0, _, _, _, _, _, _ => none
 | k + 1, x0, x1, x5, x6, x13, x14 => if x14 < x13 then (if x14 < (x1.length : Int) then (if 0 ≤ x14 then (if x14 < (x0.length : Int) then (if x6 ≤ 1 then (if x14 < (x5.length : Int) then (limbs_Sub.l0 k x0 x1 (x5.set (x14 : Int).toNat (sub64s (rd x0 x14) (rd x1 x14) x6)) (sub64c (rd x0 x14) (rd x1 x14) x6) x13 (wrap64 (x14 + 1))) else (none)) else (none)) else (none)) else (none)) else (if 0 ≤ x14 then (if x14 < (x0.length : Int) then (if x6 ≤ 1 then (if x14 < (x5.length : Int) then (limbs_Sub.l0 k x0 x1 (x5.set (x14 : Int).toNat (sub64s (rd x0 x14) 0 x6)) (sub64c (rd x0 x14) 0 x6) x13 (wrap64 (x14 + 1))) else (none)) else (none)) else (none)) else (none))) else ((limbs_Trim.f k x5).bind fun a1 => (some a1))
def limbs_Sub.f (k : Nat) (l0 : List Int) (l1 : List Int) : Option (List Int) := if 0 ≤ (l0.length : Int) then (if ((l0.length : Int) : Int).toNat ≤ 35184372088832 then (limbs_Sub.l0 k l0 l1 (List.replicate ((l0.length : Int) : Int).toNat 0) 0 (l0.length : Int) 0) else (none)) else (none)
set_option maxHeartbeats 8000000 in
set_option maxRecDepth 100000 in
theorem limbs_Sub.calls (k : Nat) (A0 : Option Addr) (c0 : Nat) (l0 : List Int) (A1 : Option Addr) (c1 : Nat) (l1 : List Int) (r : List Int) (w : World) (hr0 : Kd.C (Kd.int .u64) w A0 l0.length l0) (hc0 : l0.length ≤ c0) (hr1 : Kd.C (Kd.int .u64) w A1 l1.length l1) (hc1 : l1.length ≤ c1) (h : limbs_Sub.f k l0 l1 = some r) :
  Calls Tryd.prog 93 #[.slice A0 l0.length c0, .slice A1 l1.length c1] w fun e w' => ∃ v0_ : Value, e = .returned (v0_) ∧ Kd.V (Kd.int .u64) 26 w' w.heap.size (fun k_ => (w.heap.size ≤ k_)) v0_ r ∧ Below w.heap.size w w' := by
 have ar := zA hr0;have aU := zA hc0;clear hr0 hc0;have aG := zA hr1;have aV := zA hc1;clear hr1 hc1;have HB := zA (Below.refl w.heap.size w);have H : (if 0 ≤ (l0.length : Int) then (if ((l0.length : Int) : Int).toNat ≤ 35184372088832 then (limbs_Sub.l0 k l0 l1 (List.replicate ((l0.length : Int) : Int).toNat 0) 0 (l0.length : Int) 0) else (none)) else (none)) = some r := h;clear h;replace H := dn H;obtain ⟨c3, H⟩ := H;have av := eq_true c3;have aw := decide_eq_true c3;clear c3;replace H := dn H;obtain ⟨c4, H⟩ := H;have ax := eq_true c4;have ay := decide_eq_true c4;clear c4;obtain ⟨af, a8⟩ : ∃ y_ : List Int, y_ = (List.replicate ((l0.length : Int) : Int).toNat 0) := ⟨_, rfl⟩;replace H : (limbs_Sub.l0 k l0 l1 af 0 (l0.length : Int) 0) = some r := zR a8 H;have ae := zA a8;clear a8;have H' := zA H;clear H;go_enter Tryd.func93, Tryd.ntmps93
 go_wp2_with (first | ((with_reducible refine zD 11 rfl ?_); refine R_make (Kd.int .u64) _ 26 rfl (N := 11) rfl 22 _ _ rfl (l0.length : Int) rfl rfl Tryd.underlying22 (.int .u64 0) 8 info26 rfl (by decide) (by omega) 0 (ok := fun _ => True) (okp := fun _ => True) rfl (fun _ hk => hk) trivial (od) (Nat.le_trans (Nat.mul_le_mul_right _ (od : (l0.length : Int).toNat ≤ 35184372088832)) (by omega)) (Below.refl _ _) (Nat.le_refl _) ?_; intro v928 w5 ab hb hg_ hnew_; clear hg_ hnew_; (first | rw [← ae.out] at ab | (simp only [Int.reduceToNat] at ab; rw [← ae.out] at ab)); have am := zA (R_lower (R_newM (M := fun k_ => (w.heap.size ≤ k_)) ab (below_size bq) (fun k_ h_ => h_)) (below_size bq)); replace HB := ze hb; clear hb ab))
 go_loopg [6, 14] k (fun kq v6 v14 w' => ∃ (a4 : List Int) (a3 : Int) (a1 : Int), v6 = .int .u64 a3 ∧ v14 = .int .i64 a1 ∧ Aside0 (limbs_Sub.l0 kq l0 l1 a4 a3 (l0.length : Int) a1 = some r) ∧ Aside0 (kq ≤ k) ∧ Aside0 (Kd.R (Kd.int .u64) 26 w' w.heap.size (fun k_ => (w.heap.size ≤ k_)) v928 a4) ∧ Aside0 (Below w.heap.size w w'))
 case atStart => exact ⟨(af), (0), (0), zi, zi, H', ⟨Nat.le_refl _⟩, ⟨ru (R_mono am.out (fun _ hk => hk.1))⟩, ⟨bq⟩⟩
 case round =>
  clear H'
  try clear c1
  try clear c3
  try clear av
  try clear aw
  try clear c4
  try clear ax
  try clear ay
  obtain ⟨a4, a3, a1, rfl, rfl, HA, HK1, a2, HB⟩ := hrel
  cases gk with
  | zero => exact absurd HA.out (by simp [limbs_Sub.l0])
  | succ k1 =>
   have H := HA.out;clear HA;simp only [limbs_Sub.l0] at H
   by_cases c7 : a1 < (l0.length : Int)
   ·rw [if_pos c7] at H;have aA := decide_eq_true c7;clear c7
    by_cases c8 : a1 < (l1.length : Int)
    ·rw [if_pos c8] at H;have aB := decide_eq_true c8;clear c8;replace H := dn H;obtain ⟨c9, H⟩ := H;have aT := decide_eq_true c9;clear c9;replace H := dn H;obtain ⟨c10, H⟩ := H;have aK := decide_eq_true c10;clear c10;replace H := dn H;obtain ⟨c11, H⟩ := H;have aL := eq_true c11;have aM := decide_eq_true c11;clear c11;replace H := dn H;obtain ⟨c12, H⟩ := H;have aN := decide_eq_true c12;clear c12;obtain ⟨ac, a9⟩ : ∃ y_ : List Int, y_ = (a4.set (a1 : Int).toNat (sub64s (rd l0 a1) (rd l1 a1) a3)) := ⟨_, rfl⟩;replace H : (limbs_Sub.l0 k1 l0 l1 ac (sub64c (rd l0 a1) (rd l1 a1) a3) (l0.length : Int) (wrap64 (a1 + 1))) = some r := zR a9 H;have an := zA a9;clear a9;have H' := zA H;clear H;have p930 : 0 ≤ (a1 : Int) := od;have q930 : a1 < (l1.length : Int) := od;obtain ⟨ad930, e930, a5⟩ := Kd.at_int aG.out a1 p930 q930;cases e930;replace a5 := (HB.out.cell (World.block_lt_of_cell? w _ a5)).trans a5;replace p930 := eq_true p930;replace q930 := eq_true q930;have p931 : 0 ≤ (a1 : Int) := od;have q931 : a1 < (l0.length : Int) := od;obtain ⟨ad931, e931, a6⟩ := Kd.at_int ar.out a1 p931 q931;cases e931;replace a6 := (HB.out.cell (World.block_lt_of_cell? w _ a6)).trans a6;replace p931 := eq_true p931;replace q931 := eq_true q931;have p13 : 0 ≤ (a1 : Int) := od;have q13 : (a1 : Int) < ((a4.length : Int) : Int) := od;obtain ⟨go13, aC, ag, ah, gl13, cl13, HG13⟩ := R_form a2.out (by omega)
     (first | cases ag | (injection ag with ea_ en_ ec_; (first | subst ea_ | (injection ea_ with ea_; subst ea_)); subst ec_; clear en_))
     have GB13 := zA ah;have GG13 := zA HG13;clear ah gl13 HG13;obtain ⟨aH, hf13_0⟩ := R_celln 0 a2.out (a1 : Int) p13 q13;replace p13 := eq_true p13;replace q13 := eq_true q13;have HP14 := R_putg a2.out (a1 : Int) (sub64s (rd l0 a1) (rd l1 a1) a3)
     go_wp2_with (first | ((with_reducible refine gate_store (t := 26) (p := 37) rfl ?_); refine store_event (t := 26) (p := 37) (v := ?vo_w15) (w1 := (wr.setCell ⟨go13, (a1 : Int).toNat, none⟩ (.int .u64 (sub64s (rd l0 a1) (rd l1 a1) a3)))) ?hg ?ho ?hn ?hr ?_; (case ho => rfl); (case hg => rfl); (case hn => rfl); (case hr => first | (go_simp; done) | (go_simp; rfl)); intro w15 hw; have hg : wr.grownBy w15 (some go13) := (by rw [hw]; exact HP14.2); have hp_ : Kd.R (Kd.int .u64) 26 w15 w.heap.size (fun k_ => (w.heap.size ≤ k_)) (.slice (some ⟨go13, 0, none⟩) a4.length aC) ac := (by rw [hw, an.out]; exact HP14.1); clear HP14; replace a2 := zA (hp_); replace HB := zA ((by rw [hw]; exact below_set (HB.out) GB13.out : Below w.heap.size w w15)); clear hg hw hp_))
     go_roundg k1
     case measure => have := HK1.out; omega
     case rel => exact ⟨(ac), (sub64c (rd l0 a1) (rd l1 a1) a3), (wrap64 (a1 + 1)), zi, zi, H', ⟨by have := HK1.out; omega⟩, ⟨ru a2.out⟩, ⟨bq⟩⟩
    rw [if_neg c8] at H;have aB := decide_eq_false c8;clear c8;replace H := dn H;obtain ⟨c16, H⟩ := H;have aO := decide_eq_true c16;clear c16;replace H := dn H;obtain ⟨c17, H⟩ := H;have aP := decide_eq_true c17;clear c17;replace H := dn H;obtain ⟨c18, H⟩ := H;have aQ := eq_true c18;have aR := decide_eq_true c18;clear c18;replace H := dn H;obtain ⟨c19, H⟩ := H;have aS := decide_eq_true c19;clear c19;obtain ⟨ad, aa⟩ : ∃ y_ : List Int, y_ = (a4.set (a1 : Int).toNat (sub64s (rd l0 a1) 0 a3)) := ⟨_, rfl⟩;replace H : (limbs_Sub.l0 k1 l0 l1 ad (sub64c (rd l0 a1) 0 a3) (l0.length : Int) (wrap64 (a1 + 1))) = some r := zR aa H;have ao := zA aa;clear aa;have H' := zA H;clear H;have p933 : 0 ≤ (a1 : Int) := od;have q933 : a1 < (l0.length : Int) := od;obtain ⟨ad933, e933, a7⟩ := Kd.at_int ar.out a1 p933 q933;cases e933;replace a7 := (HB.out.cell (World.block_lt_of_cell? w _ a7)).trans a7;replace p933 := eq_true p933;replace q933 := eq_true q933;have p20 : 0 ≤ (a1 : Int) := od;have q20 : (a1 : Int) < ((a4.length : Int) : Int) := od;obtain ⟨go20, aD, ai, aj, gl20, cl20, HG20⟩ := R_form a2.out (by omega)
    (first | cases ai | (injection ai with ea_ en_ ec_; (first | subst ea_ | (injection ea_ with ea_; subst ea_)); subst ec_; clear en_))
    have GB20 := zA aj;have GG20 := zA HG20;clear aj gl20 HG20;obtain ⟨aI, hf20_0⟩ := R_celln 0 a2.out (a1 : Int) p20 q20;replace p20 := eq_true p20;replace q20 := eq_true q20;have HP21 := R_putg a2.out (a1 : Int) (sub64s (rd l0 a1) 0 a3)
    go_wp2_with (first | ((with_reducible refine gate_store (t := 26) (p := 37) rfl ?_); refine store_event (t := 26) (p := 37) (v := ?vo_w22) (w1 := (wr.setCell ⟨go20, (a1 : Int).toNat, none⟩ (.int .u64 (sub64s (rd l0 a1) 0 a3)))) ?hg ?ho ?hn ?hr ?_; (case ho => rfl); (case hg => rfl); (case hn => rfl); (case hr => first | (go_simp; done) | (go_simp; rfl)); intro w22 hw; have hg : wr.grownBy w22 (some go20) := (by rw [hw]; exact HP21.2); have hp_ : Kd.R (Kd.int .u64) 26 w22 w.heap.size (fun k_ => (w.heap.size ≤ k_)) (.slice (some ⟨go20, 0, none⟩) a4.length aD) ad := (by rw [hw, ao.out]; exact HP21.1); clear HP21; replace a2 := zA (hp_); replace HB := zA ((by rw [hw]; exact below_set (HB.out) GB20.out : Below w.heap.size w w22)); clear hg hw hp_))
    go_roundg k1
    case measure => have := HK1.out; omega
    case rel => exact ⟨(ad), (sub64c (rd l0 a1) 0 a3), (wrap64 (a1 + 1)), zi, zi, H', ⟨by have := HK1.out; omega⟩, ⟨ru a2.out⟩, ⟨bq⟩⟩
   rw [if_neg c7] at H;have aA := decide_eq_false c7;clear c7;obtain ⟨aE, aJ, H⟩ := zh H;obtain rfl := Option.some.inj H;obtain ⟨ak, al, aF⟩ := R_slice a2.out;subst aF
   go_wp2_with (first | ((with_reducible refine zG 84 rfl ?_); refine zL (some 40) rfl rfl Tryd.func84 #[.slice ak a4.length al] rfl ?_; (with_reducible refine (limbs_Trim.calls k1 (fun k_ => some k_ = (.slice ak a4.length al : Value).ownBlock) _ _ a4 aE _ ?ap aJ.out).mono ?_); (case ap => exact R_V (R_tight rfl (a2.out))); rintro e w25 ⟨v936, rfl, au, hb⟩; refine ⟨_, rfl, ?_⟩; have aq := zA (V_lower (V_mono (ok' := fun k_ => (w.heap.size ≤ k_)) au (fun k_ hk_ => Or.elim hk_ (fun hs_ => ((a2.out).1 k_ hs_.symm)) (fun hn_ => (Nat.le_trans (below_size bq) hn_)))) (below_size bq)); replace a2 := zA (R_below (ru a2.out) hb); replace HB := ze hb; (try clear au)))
   go_ret;exact ⟨_, er, vu aq.out, bq⟩
end Go.Proofs.YtnjfckadjklmfaaDoor.PAll
