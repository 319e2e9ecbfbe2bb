/- Printed functions, merged by a program of this session. -/
import Derived.Test.YtjnfipkbgmdpaaaDoorXAlgMirrorP0
import Derived.Test.YtjnfipkbgmdpaaaDoorXAlgMirrorP1
import Derived.Test.YtjnfipkbgmdpaaaDoorXAlgMirrorP2
import Derived.Test.YtjnfipkbgmdpaaaDoorXAlgMirrorP4
import Derived.Test.YtjnfipkbgmdpaaaDoorXAlgMirrorSh
namespace Go.Proofs.YtjnfipkbgmdpaaaDoor.PAll
open Go.RowKit Go.Proofs.YtjnfipkbgmdpaaaDoorW.PrintWords Go.Proofs.YtjnfipkbgmdpaaaDoorW.PrintLast Go.Proofs.YtjnfipkbgmdpaaaDoorW.PrintMore Go.Proofs.YtjnfipkbgmdpaaaDoorW.PrintWords.Kd
attribute [local go_sem] max2_int min2_int max_two min_two max_three min_three max_four min_four   -- for this text's walks alone
set_option linter.unusedVariables false
set_option linter.unusedSimpArgs false
attribute [local go_sem] ext75 ext76
mutual
def nat_number_add.l0 : Nat → List Int → List Int → List Int → Int → List Int → Int → Int → Option (List Int)
 | 0, _, _, _, _, _, _, _ => none
 | k + 1, x0, x1, x5, x6, x21, x22, x23 => if x23 < x22 then (if 0 ≤ x23 then (if x23 < (x21.length : Int) then (if x23 < (x1.length : Int) then (if x6 ≤ 1 then (if x23 < (x5.length : Int) then (nat_number_add.l0 k x0 x1 (x5.set (x23 : Int).toNat (add64s (rd x21 x23) (rd x1 x23) x6)) (add64c (rd x21 x23) (rd x1 x23) x6) x21 x22 (wrap64 (x23 + 1))) else (none)) else (none)) else (if x6 ≤ 1 then (if x23 < (x5.length : Int) then (nat_number_add.l0 k x0 x1 (x5.set (x23 : Int).toNat (add64s (rd x21 x23) 0 x6)) (add64c (rd x21 x23) 0 x6) x21 x22 (wrap64 (x23 + 1))) else (none)) else (none))) else (none)) else (none)) else (if 0 ≤ (x0.length : Int) then (if (x0.length : Int) < (x5.length : Int) then ((nat_norm.f k (x5.set ((x0.length : Int) : Int).toNat x6)).bind fun a1 => (some a1)) else (none)) else (none))
def nat_number_add.l100 : Nat → List Int → List Int → List Int → Int → List Int → Int → Int → Option (List Int)
 | 0, _, _, _, _, _, _, _ => none
 | k + 1, x0, x1, x5, x6, x21, x22, x23 => if x23 < x22 then (if 0 ≤ x23 then (if x23 < (x21.length : Int) then (if x23 < (x1.length : Int) then (if x6 ≤ 1 then (if x23 < (x5.length : Int) then (nat_number_add.l100 k x0 x1 (x5.set (x23 : Int).toNat (add64s (rd x21 x23) (rd x1 x23) x6)) (add64c (rd x21 x23) (rd x1 x23) x6) x21 x22 (wrap64 (x23 + 1))) else (none)) else (none)) else (if x6 ≤ 1 then (if x23 < (x5.length : Int) then (nat_number_add.l100 k x0 x1 (x5.set (x23 : Int).toNat (add64s (rd x21 x23) 0 x6)) (add64c (rd x21 x23) 0 x6) x21 x22 (wrap64 (x23 + 1))) else (none)) else (none))) else (none)) else (none)) else (if 0 ≤ (x0.length : Int) then (if (x0.length : Int) < (x5.length : Int) then ((nat_norm.f k (x5.set ((x0.length : Int) : Int).toNat x6)).bind fun a1 => (some a1)) else (none)) else (none))
end
def nat_number_add.f (k : Nat) (l0 : List Int) (l1 : List Int) : Option (List Int) := if (l0.length : Int) < (l1.length : Int) then (if 0 ≤ (wrap64 ((l1.length : Int) + 1)) then (if (wrap64 ((l1.length : Int) + 1) : Int).toNat ≤ 35184372088832 then (nat_number_add.l0 k l1 l0 (List.replicate (wrap64 ((l1.length : Int) + 1) : Int).toNat 0) 0 l1 (l1.length : Int) 0) else (none)) else (none)) else (if 0 ≤ (wrap64 ((l0.length : Int) + 1)) then (if (wrap64 ((l0.length : Int) + 1) : Int).toNat ≤ 35184372088832 then (nat_number_add.l100 k l0 l1 (List.replicate (wrap64 ((l0.length : Int) + 1) : Int).toNat 0) 0 l0 (l0.length : Int) 0) else (none)) else (none))
set_option maxHeartbeats 8000000 in
set_option maxRecDepth 100000 in
theorem nat_number_add.calls (k : Nat) (A0 : Option Addr) (c0 : Nat) (l0 : List Int) (A1 : Option Addr) (c1 : Nat) (l1 : List Int) (r : List Int) (w : World) (hr0 : Kd.C (Kd.int .u64) w A0 l0.length l0) (hc0 : l0.length ≤ c0) (hr1 : Kd.C (Kd.int .u64) w A1 l1.length l1) (hc1 : l1.length ≤ c1) (h : nat_number_add.f k l0 l1 = some r) :
  Calls Tryd.prog 69 #[.slice A0 l0.length c0, .slice A1 l1.length c1] w fun e w' => ∃ v0_ : Value, e = .returned (v0_) ∧ Kd.V (Kd.int .u64) 22 w' w.heap.size (fun k_ => (w.heap.size ≤ k_)) v0_ r ∧ Below w.heap.size w w' := by
 have aC := zA hr0;have bV := zA hc0;clear hr0 hc0;have aD := zA hr1;have bW := zA hc1;clear hr1 hc1;have HB := zA (Below.refl w.heap.size w);have H := h
 unfold nat_number_add.f at H
 clear h
 by_cases c3 : (l0.length : Int) < (l1.length : Int)
 ·rw [if_pos c3] at H;have ar := decide_eq_true c3;have au : decide (l0.length < l1.length) = true := decide_eq_true (Int.ofNat_lt.mp c3);clear c3;generalize a9 : wrap64 ((l1.length : Int) + 1) = ax at H;have hji4w : (IntKind.i64.wrap ((l1.length : Int) + 1)) = ax := (i64_w _).trans a9;replace H := dn H;obtain ⟨c5, H⟩ := H;have aE := eq_true c5;have aF := decide_eq_true c5;clear c5;replace H := dn H;obtain ⟨c6, H⟩ := H;have aG := eq_true c6;have aH := decide_eq_true c6;clear c6;obtain ⟨bv, ab⟩ : ∃ y_ : List Int, y_ = (List.replicate (ax : Int).toNat 0) := ⟨_, rfl⟩;(first | replace H := zRb ab H | rw [← ab] at H | skip);have ay := zA ab;clear ab;have H' := zA H;clear H;go_enter Tryd.func69, Tryd.ntmps69
  go_wp2_with (first | ((with_reducible refine zD 20 rfl ?_); refine R_make (Kd.int .u64) _ 22 rfl (N := 20) rfl 58 _ _ rfl ax rfl rfl Tryd.underlying58 (.int .u64 0) 8 info22 rfl (by decide) (by omega) 0 (ok := fun _ => True) (okp := fun _ => True) rfl (fun _ hk => hk) trivial (od) (Nat.le_trans (Nat.mul_le_mul_right _ (od : ax.toNat ≤ 35184372088832)) (by omega)) (Below.refl _ _) (Nat.le_refl _) ?_; intro v312 w7 ao hb hg_ hnew_; clear hg_ hnew_; (first | rw [← ay.out] at ao | (simp only [Int.reduceToNat] at ao; rw [← ay.out] at ao)); have b2 := zA (R_lower (R_newM (M := fun k_ => (w.heap.size ≤ k_)) ao (below_size bq) (fun k_ h_ => h_)) (below_size bq)); replace HB := ze hb; clear hb ao))
  go_loopg [6, 23] k (fun kq v6 v23 w' => ∃ (a3 : List Int) (a4 : Int) (a1 : Int), v6 = .int .u64 a4 ∧ v23 = .int .i64 a1 ∧ Aside0 (nat_number_add.l0 kq l1 l0 a3 a4 l1 (l1.length : Int) a1 = some r) ∧ Aside0 (kq ≤ k) ∧ Aside0 (Kd.R (Kd.int .u64) 22 w' w.heap.size (fun k_ => (w.heap.size ≤ k_)) v312 a3) ∧ Aside0 (Below w.heap.size w w'))
  case atStart => exact ⟨(bv), (0), (0), zi, zi, H', ⟨Nat.le_refl _⟩, ⟨ru (R_mono b2.out (fun _ hk => hk.1))⟩, ⟨bq⟩⟩
  case round =>
   clear H'
   try clear c1
   try clear c3
   try clear ar
   try clear au
   try clear c5
   try clear aE
   try clear aF
   try clear c6
   try clear aG
   try clear aH
   obtain ⟨a3, a4, a1, rfl, rfl, HA, HK1, a2, HB⟩ := hrel
   cases gk with
   | zero => exact absurd HA.out (by simp [nat_number_add.l0])
   | succ k1 =>
    have H := HA.out;clear HA;simp only [nat_number_add.l0] at H
    by_cases c9 : a1 < (l1.length : Int)
    ·rw [if_pos c9] at H;have aI := decide_eq_true c9;clear c9;replace H := dn H;obtain ⟨c10, H⟩ := H;have b3 := decide_eq_true c10;clear c10;replace H := dn H;obtain ⟨c11, H⟩ := H;have b4 := decide_eq_true c11;clear c11
     by_cases c12 : a1 < (l0.length : Int)
     ·rw [if_pos c12] at H;have aA := decide_eq_true c12;clear c12;replace H := dn H;obtain ⟨c13, H⟩ := H;have b5 := eq_true c13;have b6 := decide_eq_true c13;clear c13;replace H := dn H;obtain ⟨c14, H⟩ := H;have b7 := decide_eq_true c14;clear c14;obtain ⟨aJ, ac⟩ : ∃ y_ : List Int, y_ = (a3.set (a1 : Int).toNat (add64s (rd l1 a1) (rd l0 a1) a4)) := ⟨_, rfl⟩;(first | replace H := zRb ac H | rw [← ac] at H | skip);have b8 := zA ac;clear ac;have H' := zA H;clear H;have p314 : 0 ≤ (a1 : Int) := od;have q314 : a1 < (l1.length : Int) := od;obtain ⟨ad314, e314, a5⟩ := Kd.at_int aD.out a1 p314 q314;cases e314;replace a5 := (HB.out.cell (World.block_lt_of_cell? w _ a5)).trans a5;replace p314 := eq_true p314;replace q314 := eq_true q314;have p315 : 0 ≤ (a1 : Int) := od;have q315 : a1 < (l0.length : Int) := od;obtain ⟨ad315, e315, a7⟩ := Kd.at_int aC.out a1 p315 q315;cases e315;replace a7 := (HB.out.cell (World.block_lt_of_cell? w _ a7)).trans a7;replace p315 := eq_true p315;replace q315 := eq_true q315;have p15 : 0 ≤ (a1 : Int) := od;have q15 : (a1 : Int) < ((a3.length : Int) : Int) := od;obtain ⟨go15, bw, aK, aL, gl15, cl15, HG15⟩ := R_form a2.out (by omega)
      (first | cases aK | (injection aK with ea_ en_ ec_; (first | subst ea_ | (injection ea_ with ea_; subst ea_)); subst ec_; clear en_))
      have GB15 := zA aL;have GG15 := zA HG15;clear aL gl15 HG15;obtain ⟨aM, hf15_0⟩ := R_celln 0 a2.out (a1 : Int) p15 q15;replace p15 := eq_true p15;replace q15 := eq_true q15;have HP16 := R_putg a2.out (a1 : Int) (add64s (rd l1 a1) (rd l0 a1) a4)
      go_wp2_with (first | ((with_reducible refine gate_store (t := 22) (p := 45) rfl ?_); refine store_event (t := 22) (p := 45) (v := ?vo_w17) (w1 := (wr.setCell ⟨go15, (a1 : Int).toNat, none⟩ (.int .u64 (add64s (rd l1 a1) (rd l0 a1) a4)))) ?hg ?ho ?hn ?hr ?_; (case ho => rfl); (case hg => rfl); (case hn => rfl); (case hr => first | (go_simp; done) | (go_simp; rfl)); intro w17 hw; have hg : wr.grownBy w17 (some go15) := (by rw [hw]; exact HP16.2); have hp_ : Kd.R (Kd.int .u64) 22 w17 w.heap.size (fun k_ => (w.heap.size ≤ k_)) (.slice (some ⟨go15, 0, none⟩) a3.length bw) aJ := (by rw [hw, b8.out]; exact HP16.1); clear HP16; replace a2 := zA (hp_); replace HB := zA ((by rw [hw]; exact below_set (HB.out) GB15.out : Below w.heap.size w w17)); clear hg hw hp_))
      go_roundg k1
      case measure => have := HK1.out; omega
      case rel => exact ⟨(aJ), (add64c (rd l1 a1) (rd l0 a1) a4), (wrap64 (a1 + 1)), zi, zi, (by first | exact H' | (simp only [a9]; exact H') | (simp only [a9] at H' ⊢; exact H')), ⟨by have := HK1.out; omega⟩, ⟨ru a2.out⟩, ⟨bq⟩⟩
     rw [if_neg c12] at H;have aA := decide_eq_false c12;clear c12;replace H := dn H;obtain ⟨c18, H⟩ := H;have b9 := eq_true c18;have ba := decide_eq_true c18;clear c18;replace H := dn H;obtain ⟨c19, H⟩ := H;have bb := decide_eq_true c19;clear c19;obtain ⟨aN, ad⟩ : ∃ y_ : List Int, y_ = (a3.set (a1 : Int).toNat (add64s (rd l1 a1) 0 a4)) := ⟨_, rfl⟩;(first | replace H := zRb ad H | rw [← ad] at H | skip);have bc := zA ad;clear ad;have H' := zA H;clear H;have p314 : 0 ≤ (a1 : Int) := od;have q314 : a1 < (l1.length : Int) := od;obtain ⟨ad314, e314, a5⟩ := Kd.at_int aD.out a1 p314 q314;cases e314;replace a5 := (HB.out.cell (World.block_lt_of_cell? w _ a5)).trans a5;replace p314 := eq_true p314;replace q314 := eq_true q314;have p20 : 0 ≤ (a1 : Int) := od;have q20 : (a1 : Int) < ((a3.length : Int) : Int) := od;obtain ⟨go20, bx, aO, aP, gl20, cl20, HG20⟩ := R_form a2.out (by omega)
     (first | cases aO | (injection aO with ea_ en_ ec_; (first | subst ea_ | (injection ea_ with ea_; subst ea_)); subst ec_; clear en_))
     have GB20 := zA aP;have GG20 := zA HG20;clear aP gl20 HG20;obtain ⟨aQ, hf20_0⟩ := R_celln 0 a2.out (a1 : Int) p20 q20;replace p20 := eq_true p20;replace q20 := eq_true q20;have HP21 := R_putg a2.out (a1 : Int) (add64s (rd l1 a1) 0 a4)
     go_wp2_with (first | ((with_reducible refine gate_store (t := 22) (p := 45) rfl ?_); refine store_event (t := 22) (p := 45) (v := ?vo_w22) (w1 := (wr.setCell ⟨go20, (a1 : Int).toNat, none⟩ (.int .u64 (add64s (rd l1 a1) 0 a4)))) ?hg ?ho ?hn ?hr ?_; (case ho => rfl); (case hg => rfl); (case hn => rfl); (case hr => first | (go_simp; done) | (go_simp; rfl)); intro w22 hw; have hg : wr.grownBy w22 (some go20) := (by rw [hw]; exact HP21.2); have hp_ : Kd.R (Kd.int .u64) 22 w22 w.heap.size (fun k_ => (w.heap.size ≤ k_)) (.slice (some ⟨go20, 0, none⟩) a3.length bx) aN := (by rw [hw, bc.out]; exact HP21.1); clear HP21; replace a2 := zA (hp_); replace HB := zA ((by rw [hw]; exact below_set (HB.out) GB20.out : Below w.heap.size w w22)); clear hg hw hp_))
     go_roundg k1
     case measure => have := HK1.out; omega
     case rel => exact ⟨(aN), (add64c (rd l1 a1) 0 a4), (wrap64 (a1 + 1)), zi, zi, (by first | exact H' | (simp only [a9]; exact H') | (simp only [a9] at H' ⊢; exact H')), ⟨by have := HK1.out; omega⟩, ⟨ru a2.out⟩, ⟨bq⟩⟩
    rw [if_neg c9] at H;have aI := decide_eq_false c9;clear c9;replace H := dn H;obtain ⟨c23, H⟩ := H;have bd := decide_eq_true c23;have be : decide (0 ≤ l1.length) = true := decide_eq_true (by omega);clear c23;replace H := dn H;obtain ⟨c24, H⟩ := H;have bf := decide_eq_true c24;have bg : decide (l1.length < a3.length) = true := decide_eq_true (Int.ofNat_lt.mp c24);clear c24;obtain ⟨aj, ae⟩ : ∃ y_ : List Int, y_ = (a3.set ((l1.length : Int) : Int).toNat a4) := ⟨_, rfl⟩;(first | replace H := zRb ae H | rw [← ae] at H | skip);have bh := zA ae;clear ae;obtain ⟨bA, bF, H⟩ := zh H;obtain rfl := Option.some.inj H;have p25 : 0 ≤ ((l1.length : Int) : Int) := od;have q25 : ((l1.length : Int) : Int) < ((a3.length : Int) : Int) := od;obtain ⟨go25, av, aR, aS, gl25, cl25, HG25⟩ := R_form a2.out (by omega)
    (first | cases aR | (injection aR with ea_ en_ ec_; (first | subst ea_ | (injection ea_ with ea_; subst ea_)); subst ec_; clear en_))
    have GB25 := zA aS;have GG25 := zA HG25;clear aS gl25 HG25;obtain ⟨ap, hf25_0⟩ := R_celln 0 a2.out ((l1.length : Int) : Int) p25 q25;(try simp only [Int.toNat_natCast] at ap hf25_0);replace p25 := eq_true p25;replace q25 := eq_true q25;have HP27 := R_putg a2.out ((l1.length : Int) : Int) a4
    go_wp2_with (first | ((with_reducible refine gate_store (t := 22) (p := 51) rfl ?_); refine store_event (t := 22) (p := 51) (v := ?vo_w28) (w1 := (wr.setCell ⟨go25, ((l1.length : Int) : Int).toNat, none⟩ (.int .u64 a4))) ?hg ?ho ?hn ?hr ?_; (case ho => rfl); (case hg => rfl); (case hn => rfl); (case hr => first | (go_simp; done) | (go_simp; rfl)); intro w28 hw; have hg : wr.grownBy w28 (some go25) := (by rw [hw]; exact HP27.2); have hp_ : Kd.R (Kd.int .u64) 22 w28 w.heap.size (fun k_ => (w.heap.size ≤ k_)) (.slice (some ⟨go25, 0, none⟩) a3.length av) aj := (by rw [hw, bh.out]; exact HP27.1); clear HP27; replace a2 := zA (hp_); replace HB := zA ((by rw [hw]; exact below_set (HB.out) GB25.out : Below w.heap.size w w28)); clear hg hw hp_) | ((with_reducible refine zG 38 rfl ?_); refine goesL_ (some 53) rfl rfl Tryd.func38 (by kernel_rfl) rfl #[.slice (some ⟨go25, 0, none⟩) aj.length av] rfl (by (try simp only [List.map_toArray, List.map_cons, List.map_nil]); first | done | (rw [show aj.length = a3.length from (R_reads' a2.out).1.symm] <;> rfl) | rfl | (simp only [List.length_drop, List.length_take]; rfl)) ?_; (with_reducible refine (nat_norm.calls k1 (fun k_ => some k_ = (.slice (some ⟨go25, 0, none⟩) a3.length av : Value).ownBlock) _ _ aj bA _ ?am bF.out).mono ?_); (case am => rw [show aj.length = a3.length from (R_reads' a2.out).1.symm]; exact R_V (R_tight rfl (a2.out))); rintro e w29 ⟨v320, rfl, aq, hb⟩; refine ⟨_, rfl, ?_⟩; have bi := zA (V_lower (V_mono (ok' := fun k_ => (w.heap.size ≤ k_)) aq (fun k_ hk_ => Or.elim hk_ (fun hs_ => ((a2.out).1 k_ hs_.symm)) (fun hn_ => (Nat.le_trans (below_size bq) hn_)))) (below_size bq)); replace a2 := zA (R_below (ru a2.out) hb); replace HB := ze hb; (try clear aq)))
    go_ret;exact ⟨_, by first | rfl | (simp [errW_none, errW_some] <;> rfl) | (simp only [← a9]; first | rfl | (simp [errW_none, errW_some] <;> rfl)) | (simp [*, errW_none, errW_some] <;> rfl), vu bi.out, bq⟩
 rw [if_neg c3] at H;have ar := decide_eq_false c3;have au : decide (l0.length < l1.length) = false := decide_eq_false (fun h => c3 (Int.ofNat_lt.mpr h));clear c3;generalize a8 : wrap64 ((l0.length : Int) + 1) = an at H;have hji30w : (IntKind.i64.wrap ((l0.length : Int) + 1)) = an := (i64_w _).trans a8;replace H := dn H;obtain ⟨c31, H⟩ := H;have bj := eq_true c31;have bk := decide_eq_true c31;clear c31;replace H := dn H;obtain ⟨c32, H⟩ := H;have bl := eq_true c32;have bm := decide_eq_true c32;clear c32;obtain ⟨bB, af⟩ : ∃ y_ : List Int, y_ = (List.replicate (an : Int).toNat 0) := ⟨_, rfl⟩;(first | replace H := zRb af H | rw [← af] at H | skip);have aB := zA af;clear af;have H' := zA H;clear H;go_enter Tryd.func69, Tryd.ntmps69
 go_wp2_with (first | ((with_reducible refine zD 20 rfl ?_); refine R_make (Kd.int .u64) _ 22 rfl (N := 20) rfl 58 _ _ rfl an rfl rfl Tryd.underlying58 (.int .u64 0) 8 info22 rfl (by decide) (by omega) 0 (ok := fun _ => True) (okp := fun _ => True) rfl (fun _ hk => hk) trivial (od) (Nat.le_trans (Nat.mul_le_mul_right _ (od : an.toNat ≤ 35184372088832)) (by omega)) (Below.refl _ _) (Nat.le_refl _) ?_; intro v323 w33 ak hb hg_ hnew_; clear hg_ hnew_; (first | rw [← aB.out] at ak | (simp only [Int.reduceToNat] at ak; rw [← aB.out] at ak)); have bn := zA (R_lower (R_newM (M := fun k_ => (w.heap.size ≤ k_)) ak (below_size bq) (fun k_ h_ => h_)) (below_size bq)); replace HB := ze hb; clear hb ak))
 go_loopg [6, 23] k (fun kq v6 v23 w' => ∃ (a3 : List Int) (a4 : Int) (a1 : Int), v6 = .int .u64 a4 ∧ v23 = .int .i64 a1 ∧ Aside0 (nat_number_add.l100 kq l0 l1 a3 a4 l0 (l0.length : Int) a1 = some r) ∧ Aside0 (kq ≤ k) ∧ Aside0 (Kd.R (Kd.int .u64) 22 w' w.heap.size (fun k_ => (w.heap.size ≤ k_)) v323 a3) ∧ Aside0 (Below w.heap.size w w'))
 case atStart => exact ⟨(bB), (0), (0), zi, zi, H', ⟨Nat.le_refl _⟩, ⟨ru (R_mono bn.out (fun _ hk => hk.1))⟩, ⟨bq⟩⟩
 case round =>
  clear H'
  try clear c1
  try clear c3
  try clear ar
  try clear au
  try clear c5
  try clear aE
  try clear aF
  try clear c6
  try clear aG
  try clear aH
  try clear c9
  try clear aI
  try clear c10
  try clear b3
  try clear c11
  try clear b4
  try clear c12
  try clear aA
  try clear c13
  try clear b5
  try clear b6
  try clear c14
  try clear b7
  try clear p15
  try clear q15
  try clear c18
  try clear b9
  try clear ba
  try clear c19
  try clear bb
  try clear p20
  try clear q20
  try clear c23
  try clear bd
  try clear be
  try clear c24
  try clear bf
  try clear bg
  try clear p25
  try clear q25
  try clear c31
  try clear bj
  try clear bk
  try clear c32
  try clear bl
  try clear bm
  try clear aM
  try clear aQ
  try clear ap
  try clear a5
  try clear a7
  try clear p15
  try clear p20
  try clear p25
  try clear p314
  try clear p315
  try clear q15
  try clear q20
  try clear q25
  try clear q314
  try clear q315
  obtain ⟨a3, a4, a1, rfl, rfl, HA, HK1, a2, HB⟩ := hrel
  cases gk with
  | zero => exact absurd HA.out (by simp [nat_number_add.l100])
  | succ k1 =>
   have H := HA.out;clear HA;simp only [nat_number_add.l100] at H
   by_cases c35 : a1 < (l0.length : Int)
   ·rw [if_pos c35] at H;have bo := decide_eq_true c35;clear c35;replace H := dn H;obtain ⟨c36, H⟩ := H;have bJ := decide_eq_true c36;clear c36;replace H := dn H;obtain ⟨c37, H⟩ := H;have bK := decide_eq_true c37;clear c37
    by_cases c38 : a1 < (l1.length : Int)
    ·rw [if_pos c38] at H;have bp := decide_eq_true c38;clear c38;replace H := dn H;obtain ⟨c39, H⟩ := H;have bL := eq_true c39;have bM := decide_eq_true c39;clear c39;replace H := dn H;obtain ⟨c40, H⟩ := H;have bN := decide_eq_true c40;clear c40;obtain ⟨aT, ag⟩ : ∃ y_ : List Int, y_ = (a3.set (a1 : Int).toNat (add64s (rd l0 a1) (rd l1 a1) a4)) := ⟨_, rfl⟩;(first | replace H := zRb ag H | rw [← ag] at H | skip);have br := zA ag;clear ag;have H' := zA H;clear H;have p325 : 0 ≤ (a1 : Int) := od;have q325 : a1 < (l0.length : Int) := od;obtain ⟨ad325, e325, a6⟩ := Kd.at_int aC.out a1 p325 q325;cases e325;replace a6 := (HB.out.cell (World.block_lt_of_cell? w _ a6)).trans a6;replace p325 := eq_true p325;replace q325 := eq_true q325;have p326 : 0 ≤ (a1 : Int) := od;have q326 : a1 < (l1.length : Int) := od;obtain ⟨ad326, e326, aa⟩ := Kd.at_int aD.out a1 p326 q326;cases e326;replace aa := (HB.out.cell (World.block_lt_of_cell? w _ aa)).trans aa;replace p326 := eq_true p326;replace q326 := eq_true q326;have p41 : 0 ≤ (a1 : Int) := od;have q41 : (a1 : Int) < ((a3.length : Int) : Int) := od;obtain ⟨go41, bC, aU, aV, gl41, cl41, HG41⟩ := R_form a2.out (by omega)
     (first | cases aU | (injection aU with ea_ en_ ec_; (first | subst ea_ | (injection ea_ with ea_; subst ea_)); subst ec_; clear en_))
     have GB41 := zA aV;have GG41 := zA HG41;clear aV gl41 HG41;obtain ⟨bG, hf41_0⟩ := R_celln 0 a2.out (a1 : Int) p41 q41;replace p41 := eq_true p41;replace q41 := eq_true q41;have HP42 := R_putg a2.out (a1 : Int) (add64s (rd l0 a1) (rd l1 a1) a4)
     go_wp2_with (first | ((with_reducible refine gate_store (t := 22) (p := 45) rfl ?_); refine store_event (t := 22) (p := 45) (v := ?vo_w43) (w1 := (wr.setCell ⟨go41, (a1 : Int).toNat, none⟩ (.int .u64 (add64s (rd l0 a1) (rd l1 a1) a4)))) ?hg ?ho ?hn ?hr ?_; (case ho => rfl); (case hg => rfl); (case hn => rfl); (case hr => first | (go_simp; done) | (go_simp; rfl)); intro w43 hw; have hg : wr.grownBy w43 (some go41) := (by rw [hw]; exact HP42.2); have hp_ : Kd.R (Kd.int .u64) 22 w43 w.heap.size (fun k_ => (w.heap.size ≤ k_)) (.slice (some ⟨go41, 0, none⟩) a3.length bC) aT := (by rw [hw, br.out]; exact HP42.1); clear HP42; replace a2 := zA (hp_); replace HB := zA ((by rw [hw]; exact below_set (HB.out) GB41.out : Below w.heap.size w w43)); clear hg hw hp_))
     go_roundg k1
     case measure => have := HK1.out; omega
     case rel => exact ⟨(aT), (add64c (rd l0 a1) (rd l1 a1) a4), (wrap64 (a1 + 1)), zi, zi, (by first | exact H' | (simp only [a8]; exact H') | (simp only [a8] at H' ⊢; exact H')), ⟨by have := HK1.out; omega⟩, ⟨ru a2.out⟩, ⟨bq⟩⟩
    rw [if_neg c38] at H;have bp := decide_eq_false c38;clear c38;replace H := dn H;obtain ⟨c44, H⟩ := H;have bO := eq_true c44;have bP := decide_eq_true c44;clear c44;replace H := dn H;obtain ⟨c45, H⟩ := H;have bQ := decide_eq_true c45;clear c45;obtain ⟨aW, ah⟩ : ∃ y_ : List Int, y_ = (a3.set (a1 : Int).toNat (add64s (rd l0 a1) 0 a4)) := ⟨_, rfl⟩;(first | replace H := zRb ah H | rw [← ah] at H | skip);have bs := zA ah;clear ah;have H' := zA H;clear H;have p325 : 0 ≤ (a1 : Int) := od;have q325 : a1 < (l0.length : Int) := od;obtain ⟨ad325, e325, a6⟩ := Kd.at_int aC.out a1 p325 q325;cases e325;replace a6 := (HB.out.cell (World.block_lt_of_cell? w _ a6)).trans a6;replace p325 := eq_true p325;replace q325 := eq_true q325;have p46 : 0 ≤ (a1 : Int) := od;have q46 : (a1 : Int) < ((a3.length : Int) : Int) := od;obtain ⟨go46, bD, aX, aY, gl46, cl46, HG46⟩ := R_form a2.out (by omega)
    (first | cases aX | (injection aX with ea_ en_ ec_; (first | subst ea_ | (injection ea_ with ea_; subst ea_)); subst ec_; clear en_))
    have GB46 := zA aY;have GG46 := zA HG46;clear aY gl46 HG46;obtain ⟨bH, hf46_0⟩ := R_celln 0 a2.out (a1 : Int) p46 q46;replace p46 := eq_true p46;replace q46 := eq_true q46;have HP47 := R_putg a2.out (a1 : Int) (add64s (rd l0 a1) 0 a4)
    go_wp2_with (first | ((with_reducible refine gate_store (t := 22) (p := 45) rfl ?_); refine store_event (t := 22) (p := 45) (v := ?vo_w48) (w1 := (wr.setCell ⟨go46, (a1 : Int).toNat, none⟩ (.int .u64 (add64s (rd l0 a1) 0 a4)))) ?hg ?ho ?hn ?hr ?_; (case ho => rfl); (case hg => rfl); (case hn => rfl); (case hr => first | (go_simp; done) | (go_simp; rfl)); intro w48 hw; have hg : wr.grownBy w48 (some go46) := (by rw [hw]; exact HP47.2); have hp_ : Kd.R (Kd.int .u64) 22 w48 w.heap.size (fun k_ => (w.heap.size ≤ k_)) (.slice (some ⟨go46, 0, none⟩) a3.length bD) aW := (by rw [hw, bs.out]; exact HP47.1); clear HP47; replace a2 := zA (hp_); replace HB := zA ((by rw [hw]; exact below_set (HB.out) GB46.out : Below w.heap.size w w48)); clear hg hw hp_))
    go_roundg k1
    case measure => have := HK1.out; omega
    case rel => exact ⟨(aW), (add64c (rd l0 a1) 0 a4), (wrap64 (a1 + 1)), zi, zi, (by first | exact H' | (simp only [a8]; exact H') | (simp only [a8] at H' ⊢; exact H')), ⟨by have := HK1.out; omega⟩, ⟨ru a2.out⟩, ⟨bq⟩⟩
   rw [if_neg c35] at H;have bo := decide_eq_false c35;clear c35;replace H := dn H;obtain ⟨c49, H⟩ := H;have bR := decide_eq_true c49;have bS : decide (0 ≤ l0.length) = true := decide_eq_true (by omega);clear c49;replace H := dn H;obtain ⟨c50, H⟩ := H;have bT := decide_eq_true c50;have bU : decide (l0.length < a3.length) = true := decide_eq_true (Int.ofNat_lt.mp c50);clear c50;obtain ⟨al, ai⟩ : ∃ y_ : List Int, y_ = (a3.set ((l0.length : Int) : Int).toNat a4) := ⟨_, rfl⟩;(first | replace H := zRb ai H | rw [← ai] at H | skip);have bt := zA ai;clear ai;obtain ⟨bE, bI, H⟩ := zh H;obtain rfl := Option.some.inj H;have p51 : 0 ≤ ((l0.length : Int) : Int) := od;have q51 : ((l0.length : Int) : Int) < ((a3.length : Int) : Int) := od;obtain ⟨go51, aw, az, aZ, gl51, cl51, HG51⟩ := R_form a2.out (by omega)
   (first | cases az | (injection az with ea_ en_ ec_; (first | subst ea_ | (injection ea_ with ea_; subst ea_)); subst ec_; clear en_))
   have GB51 := zA aZ;have GG51 := zA HG51;clear aZ gl51 HG51;obtain ⟨b1, hf51_0⟩ := R_celln 0 a2.out ((l0.length : Int) : Int) p51 q51;(try simp only [Int.toNat_natCast] at b1 hf51_0);replace p51 := eq_true p51;replace q51 := eq_true q51;have HP53 := R_putg a2.out ((l0.length : Int) : Int) a4
   go_wp2_with (first | ((with_reducible refine gate_store (t := 22) (p := 51) rfl ?_); refine store_event (t := 22) (p := 51) (v := ?vo_w54) (w1 := (wr.setCell ⟨go51, ((l0.length : Int) : Int).toNat, none⟩ (.int .u64 a4))) ?hg ?ho ?hn ?hr ?_; (case ho => rfl); (case hg => rfl); (case hn => rfl); (case hr => first | (go_simp; done) | (go_simp; rfl)); intro w54 hw; have hg : wr.grownBy w54 (some go51) := (by rw [hw]; exact HP53.2); have hp_ : Kd.R (Kd.int .u64) 22 w54 w.heap.size (fun k_ => (w.heap.size ≤ k_)) (.slice (some ⟨go51, 0, none⟩) a3.length aw) al := (by rw [hw, bt.out]; exact HP53.1); clear HP53; replace a2 := zA (hp_); replace HB := zA ((by rw [hw]; exact below_set (HB.out) GB51.out : Below w.heap.size w w54)); clear hg hw hp_) | ((with_reducible refine zG 38 rfl ?_); refine goesL_ (some 53) rfl rfl Tryd.func38 (by kernel_rfl) rfl #[.slice (some ⟨go51, 0, none⟩) al.length aw] rfl (by (try simp only [List.map_toArray, List.map_cons, List.map_nil]); first | done | (rw [show al.length = a3.length from (R_reads' a2.out).1.symm] <;> rfl) | rfl | (simp only [List.length_drop, List.length_take]; rfl)) ?_; (with_reducible refine (nat_norm.calls k1 (fun k_ => some k_ = (.slice (some ⟨go51, 0, none⟩) a3.length aw : Value).ownBlock) _ _ al bE _ ?am bI.out).mono ?_); (case am => rw [show al.length = a3.length from (R_reads' a2.out).1.symm]; exact R_V (R_tight rfl (a2.out))); rintro e w55 ⟨v331, rfl, aq, hb⟩; refine ⟨_, rfl, ?_⟩; have bu := zA (V_lower (V_mono (ok' := fun k_ => (w.heap.size ≤ k_)) aq (fun k_ hk_ => Or.elim hk_ (fun hs_ => ((a2.out).1 k_ hs_.symm)) (fun hn_ => (Nat.le_trans (below_size bq) hn_)))) (below_size bq)); replace a2 := zA (R_below (ru a2.out) hb); replace HB := ze hb; (try clear aq)))
   go_ret;exact ⟨_, by first | rfl | (simp [errW_none, errW_some] <;> rfl) | (simp only [← a8]; first | rfl | (simp [errW_none, errW_some] <;> rfl)) | (simp [*, errW_none, errW_some] <;> rfl), vu bu.out, bq⟩
mutual
def nat_number_root.l0 : Nat → List Int → Int → List Int → Option (List Int)
 | 0, _, _, _ => none
 | k + 1, x0, x1, x5 => nat_number_root.l1 k x0 x1 x5 (([1] : List Int)) (wrap64 (x1 - 1)) 0
def nat_number_root.l1 : Nat → List Int → Int → List Int → List Int → Int → Int → Option (List Int)
 | 0, _, _, _, _, _, _ => none
 | k + 1, x0, x1, x5, x6, x24, x25 => if x25 < x24 then ((nat_number_mul.f k x6 x5).bind fun a2 => (nat_number_root.l1 k x0 x1 x5 a2 x24 (wrap64 (x25 + 1)))) else ((nat_number_div.f k x0 x6).bind fun a1 => (nat_number_root.l2 k x0 x1 x5 a1.1 (wrap64 (x1 - 1)) 0))
def nat_number_root.l2 : Nat → List Int → Int → List Int → List Int → Int → Int → Option (List Int)
 | 0, _, _, _, _, _, _ => none
 | k + 1, x0, x1, x5, x9, x39, x40 => if x40 < x39 then ((nat_number_add.f k x9 x5).bind fun a2 => (nat_number_root.l2 k x0 x1 x5 a2 x39 (wrap64 (x40 + 1)))) else ((nat_number_short.f k x9 (IntKind.u64.wrap (x1))).bind fun a1 => ((nat_number_cmp.f k a1.1 x5).bind fun a3 => (if a3 ≥ 0 then (some x5) else (nat_number_root.l0 k x0 x1 a1.1))))
end
def nat_number_root.f (k : Nat) (l0 : List Int) (a1 : Int) : Option (List Int) := if (l0.length : Int) = 0 then (some ([] : List Int)) else ((nat_number_len.f k l0).bind fun a2 => (if a1 = 0 then (none) else ((nat_number_shl.f k (([1] : List Int)) (wrap64 (Int.tdiv (wrap64 ((wrap64 (a2 + a1)) - 1)) a1))).bind fun a3 => (nat_number_root.l0 k l0 a1 a3))))
set_option maxHeartbeats 8000000 in
set_option maxRecDepth 100000 in
theorem nat_number_root.calls (k : Nat) (P0_ : Nat → Prop) (A0 : Option Addr) (c0 : Nat) (l0 : List Int) (a1 : Int) (r : List Int) (w : World) (hs0 : Kd.V (Kd.int .u64) 22 w w.heap.size (fun k_ => P0_ k_) (.slice A0 l0.length c0) l0) (h : nat_number_root.f k l0 a1 = some r) :
  Calls Tryd.prog 46 #[.slice A0 l0.length c0, .int .i64 a1] w fun e w' => ∃ v0_ : Value, e = .returned (v0_) ∧ Kd.V (Kd.int .u64) 22 w' w.heap.size (fun k_ => (P0_ k_ ∨ w.heap.size ≤ k_)) v0_ r ∧ Below w.heap.size w w' := by
 have ak := zA (show Kd.V (Kd.int .u64) 22 w w.heap.size (fun k_ => (P0_ k_ ∨ w.heap.size ≤ k_)) (.slice A0 l0.length c0) l0 from V_mono hs0 (fun k_ hk => .inl hk));have HB := zA (Below.refl w.heap.size w);have H := h
 unfold nat_number_root.f at H
 clear h
 by_cases c3 : (l0.length : Int) = 0
 ·rw [if_pos c3] at H;have ao := beq_iff_eq.mpr c3;have ap := bne_eq_false_iff_eq.mpr c3;clear c3;obtain rfl := Option.some.inj H;go_enter Tryd.func46, Tryd.ntmps46
  go_wp2
  go_ret;exact ⟨_, er, V_nil _ _ _ _ _, bq⟩
 rw [if_neg c3] at H;have ao := beq_eq_false_iff_ne.mpr c3;have ap := bne_iff_ne.mpr c3
 have aq : ¬ (l0 = []) := fun h_ => c3 (by rw [h_]; rfl)
 obtain ⟨aA, ai⟩ : ∃ y_ : List Int, y_ = (([1] : List Int)) := ⟨_, rfl⟩;(first | replace H := zRb ai H | rw [← ai] at H | skip);have aw := zA ai;clear ai;obtain ⟨aB, A4, H⟩ := zh H
 by_cases c5 : a1 = 0
 ·rw [if_pos c5] at H;exact absurd H (by simp)
 rw [if_neg c5] at H;have ar := beq_eq_false_iff_ne.mpr c5;have au := bne_iff_ne.mpr c5;obtain ⟨aC, A6, H⟩ := zh H;have H' := zA H;clear H;go_enter Tryd.func46, Tryd.ntmps46
 go_wp2_with (first | ((with_reducible refine zD 13 rfl ?_); refine R_lit (Kd.int .u64) _ 22 ?hg (N := 13) ?hd (xs := ([1] : List Int)) (inner := [.int .u64 1]) (ok := fun _ => True) (okp := fun _ => True) ?hr ?hp (fun _ hk => hk) trivial (Below.refl _ _) (Nat.le_refl _) (by simp) ?_; (case hd => rfl); (case hg => rfl); (case hr => first | (go_simp; done) | (go_simp; rfl)); (case hp => exact (Reps.one (show Kd.M (Kd.int .u64) _ _ _ 1 [.int .u64 1] from rfl) (Reps.none _ _))); intro v334 w7 an hb hg_ hnew_; clear hg_ hnew_; (first | rw [← aw.out] at an | (simp only [Int.reduceToNat] at an; rw [← aw.out] at an)); replace ak := zA (V_elder' (vu ak.out) (R_base an) hb); have ad := zA (R_lower (R_newM (M := fun k_ => (w.heap.size ≤ k_)) an (below_size bq) (fun k_ h_ => h_)) (below_size bq)); replace HB := ze hb; clear hb an) | ((with_reducible refine zG 35 rfl ?_); refine zC (some 15) Tryd.func35 (nat_number_len.calls k _ _ l0 aB _ ?a3 ?a4 A4.out) ?_; (case a3 => exact zk (V_reads' ak.out).2.2); (case a4 => exact (V_reads' ak.out).2.1); rintro e w' ⟨rfl, ⟨nd, rfl⟩⟩; refine ⟨_, rfl, ?_⟩; obtain ⟨b4, b5, b6⟩ := R_slice ad.out; subst b6) | ((with_reducible refine zG 37 rfl ?_); refine zC (some 21) Tryd.func37 (nat_number_shl.calls k _ _ aA (wrap64 (Int.tdiv (wrap64 ((wrap64 (aB + a1)) - 1)) a1)) aC _ ?a3 ?a4 A6.out) ?_; (case a3 => exact zk (R_reads' ad.out).2.2); (case a4 => exact (R_reads' ad.out).2.1); rintro e w10 ⟨v338, rfl, a7, hb⟩; refine ⟨_, rfl, ?_⟩; replace ak := zA (V_below (vu ak.out) hb); have aH := zA (V_lower (V_mono (ok' := fun k_ => (P0_ k_ ∨ w.heap.size ≤ k_) ∧ some k_ ≠ (.slice b4 aA.length b5 : Value).ownBlock) a7 (fun k_ hk_ => ⟨(.inr (Nat.le_trans (below_size bq) hk_)), (Kd.fresh' (R_lt (ru ad.out)) k_ hk_)⟩)) (below_size bq)); replace ad := zA (R_below (ru ad.out) hb); replace HB := ze hb; (try clear a7)))
 go_loopg [5] k (fun kq v5 w' => ∃ (a9 : List Int), Aside0 (nat_number_root.l0 kq l0 a1 a9 = some r) ∧ Aside0 (kq ≤ k) ∧ Aside0 (Kd.V (Kd.int .u64) 22 w' w.heap.size (fun k_ => (P0_ k_ ∨ w.heap.size ≤ k_)) (.slice A0 l0.length c0) l0) ∧ Aside0 (Kd.V (Kd.int .u64) 22 w' w.heap.size (fun k_ => (P0_ k_ ∨ w.heap.size ≤ k_)) v5 a9) ∧ Aside0 (Below w.heap.size w w'))
 case atStart => exact ⟨(aC), H', ⟨Nat.le_refl _⟩, ⟨vu (V_mono ak.out (fun _ hk => hk.1))⟩, ⟨vu (V_mono aH.out (fun _ hk => hk.1))⟩, ⟨bq⟩⟩
 case round =>
  clear H'
  try clear c3
  try clear ao
  try clear ap
  try clear aq
  try clear c4
  try clear c5
  try clear ar
  try clear au
  obtain ⟨a9, HA, HK1, a5, a2, HB⟩ := hrel
  cases gk with
  | zero => exact absurd HA.out (by simp [nat_number_root.l0])
  | succ k1 =>
   have H := HA.out;clear HA;simp only [nat_number_root.l0] at H;obtain ⟨aR, aj⟩ : ∃ y_ : List Int, y_ = (([1] : List Int)) := ⟨_, rfl⟩;(first | replace H := zRb aj H | rw [← aj] at H | skip);have ax := zA aj;clear aj;have H' := zA H;clear H
   go_wp2_with (first | ((with_reducible refine zD 22 rfl ?_); refine R_lit (Kd.int .u64) _ 22 ?hg (N := 22) ?hd (xs := ([1] : List Int)) (inner := [.int .u64 1]) (ok := fun _ => True) (okp := fun _ => True) ?hr ?hp (fun _ hk => hk) trivial (Below.refl _ _) (Nat.le_refl _) (by simp) ?_; (case hd => rfl); (case hg => rfl); (case hr => first | (go_simp; done) | (go_simp; rfl)); (case hp => exact (Reps.one (show Kd.M (Kd.int .u64) _ _ _ 1 [.int .u64 1] from rfl) (Reps.none _ _))); intro v341 w11 ae hb hg_ hnew_; clear hg_ hnew_; (first | rw [← ax.out] at ae | (simp only [Int.reduceToNat] at ae; rw [← ax.out] at ae)); replace a5 := zA (V_elder' (vu a5.out) (R_base ae) hb); replace a2 := zA (V_elder' (vu a2.out) (R_base ae) hb); have aI := zA (R_lower (R_newM (M := fun k_ => (w.heap.size ≤ k_)) ae (below_size bq) (fun k_ h_ => h_)) (below_size bq)); replace HB := ze hb; clear hb ae))
   go_loopg [6, 25] k1 (fun kq v6 v25 w' => ∃ (al : List Int) (af : Int), v25 = .int .i64 af ∧ Aside0 (nat_number_root.l1 kq l0 a1 a9 al (wrap64 (a1 - 1)) af = some r) ∧ Aside0 (kq ≤ k1) ∧ Aside0 (Kd.V (Kd.int .u64) 22 w' w.heap.size (fun k_ => (P0_ k_ ∨ w.heap.size ≤ k_)) (.slice A0 l0.length c0) l0) ∧ Aside0 (Kd.V (Kd.int .u64) 22 w' w.heap.size (fun k_ => (P0_ k_ ∨ w.heap.size ≤ k_)) u5 a9) ∧ Aside0 (Kd.V (Kd.int .u64) 22 w' w.heap.size (fun k_ => (P0_ k_ ∨ w.heap.size ≤ k_)) v6 al) ∧ Aside0 (Below w.heap.size w w'))
   case atStart => exact ⟨(aR), (0), zi, H', ⟨Nat.le_refl _⟩, ⟨vu (V_mono a5.out (fun _ hk => hk.1))⟩, ⟨vu (V_mono a2.out (fun _ hk => hk.1))⟩, ⟨V_mono (R_V (ru (R_mono aI.out (fun _ hk => hk.1)))) (fun k_ hk => by first | exact ⟨(.inr (hk.1)), hk.2⟩ | exact (.inr (hk)))⟩, ⟨bq⟩⟩
   case round =>
    clear H'
    try clear c3
    try clear ao
    try clear ap
    try clear aq
    try clear c4
    try clear c5
    try clear ar
    try clear au
    obtain ⟨al, af, rfl, HA, HK2, a5, a2, ab, HB⟩ := hrel
    cases gk with
    | zero => exact absurd HA.out (by simp [nat_number_root.l1])
    | succ k2 =>
     have H := HA.out;clear HA;simp only [nat_number_root.l1] at H
     by_cases c13 : af < (wrap64 (a1 - 1))
     ·rw [if_pos c13] at H;have ay := decide_eq_true c13;clear c13;obtain ⟨aD, b7, H⟩ := zh H;have H' := zA H;clear H;obtain ⟨bb, bc, aS⟩ := V_slice ab.out;subst aS;obtain ⟨bd, be, aT⟩ := V_slice a2.out;subst aT
      go_wp2_with (first | ((with_reducible refine zG 47 rfl ?_); refine zC (some 29) Tryd.func47 (nat_number_mul.calls k2 _ _ al _ _ a9 aD _ ?a3 ?a4 ?a8 ?ac b7.out) ?_; (case a3 => exact zk (V_reads' ab.out).2.2); (case a4 => exact (V_reads' ab.out).2.1); (case a8 => exact zk (V_reads' a2.out).2.2); (case ac => exact (V_reads' a2.out).2.1); rintro e w17 ⟨v344, rfl, a7, hb⟩; refine ⟨_, rfl, ?_⟩; replace a5 := zA (V_below (vu a5.out) hb); replace a2 := zA (V_below (vu a2.out) hb); replace ab := zA (V_below (vu ab.out) hb); have aJ := zA (V_lower (V_mono (ok' := fun k_ => (P0_ k_ ∨ w.heap.size ≤ k_)) a7 (fun k_ hk_ => (.inr (Nat.le_trans (below_size bq) hk_)))) (below_size bq)); replace HB := ze hb; (try clear a7)))
      go_roundg k2
      case measure => have := HK1.out; have := HK2.out; omega
      case rel => exact ⟨(aD), (wrap64 (af + 1)), zi, H', ⟨by have := HK1.out; have := HK2.out; omega⟩, ⟨vu a5.out⟩, ⟨vu a2.out⟩, ⟨vu aJ.out⟩, ⟨bq⟩⟩
     rw [if_neg c13] at H;have ay := decide_eq_false c13;clear c13;obtain ⟨⟨aE, aU⟩, b8, H⟩ := zh H;(try dsimp only at H);have H' := zA H;clear H;obtain ⟨bf, bg, aV⟩ := V_slice ab.out;subst aV
     go_wp2_with (first | ((with_reducible refine zG 41 rfl ?_); refine zC (some 34) Tryd.func41 (nat_number_div.calls k2 (fun k_ => (P0_ k_ ∨ w.heap.size ≤ k_)) _ _ l0 _ _ al aE aU _ ?a3 ?a4 ?a8 b8.out) ?_; (case a3 => exact a5.out); (case a4 => exact zk (V_reads' ab.out).2.2); (case a8 => exact (V_reads' ab.out).2.1); rintro e w20 ⟨v347, v350, rfl, a7, aO, hb⟩; refine ⟨_, rfl, ?_⟩; replace a5 := zA (V_below (vu a5.out) hb); replace a2 := zA (V_below (vu a2.out) hb); replace ab := zA (V_below (vu ab.out) hb); have aK := zA (V_lower (V_mono (ok' := fun k_ => (P0_ k_ ∨ w.heap.size ≤ k_)) a7 (fun k_ hk_ => Or.elim hk_ (fun hs_ => hs_) (fun hn_ => (.inr (Nat.le_trans (below_size bq) hn_))))) (below_size bq)); have ba := zA (V_lower (V_mono (ok' := fun k_ => (P0_ k_ ∨ w.heap.size ≤ k_)) aO (fun k_ hk_ => Or.elim hk_ (fun hs_ => hs_) (fun hn_ => (.inr (Nat.le_trans (below_size bq) hn_))))) (below_size bq)); replace HB := ze hb; (try clear a7); (try clear aO)))
     go_loopg [9, 40] k2 (fun kq v9 v40 w' => ∃ (ah : List Int) (ag : Int), v40 = .int .i64 ag ∧ Aside0 (nat_number_root.l2 kq l0 a1 a9 ah (wrap64 (a1 - 1)) ag = some r) ∧ Aside0 (kq ≤ k2) ∧ Aside0 (Kd.V (Kd.int .u64) 22 w' w.heap.size (fun k_ => (P0_ k_ ∨ w.heap.size ≤ k_)) (.slice A0 l0.length c0) l0) ∧ Aside0 (Kd.V (Kd.int .u64) 22 w' w.heap.size (fun k_ => (P0_ k_ ∨ w.heap.size ≤ k_)) u5 a9) ∧ Aside0 (Kd.V (Kd.int .u64) 22 w' w.heap.size (fun k_ => (P0_ k_ ∨ w.heap.size ≤ k_)) v9 ah) ∧ Aside0 (Below w.heap.size w w'))
     case atStart => exact ⟨(aE), (0), zi, H', ⟨Nat.le_refl _⟩, ⟨vu a5.out⟩, ⟨vu a2.out⟩, ⟨vu aK.out⟩, ⟨bq⟩⟩
     case round =>
      clear H'
      try clear c1
      try clear c3
      try clear ao
      try clear ap
      try clear aq
      try clear c4
      try clear c5
      try clear ar
      try clear au
      try clear c13
      try clear ay
      obtain ⟨ah, ag, rfl, HA, HK3, a5, a2, a6, HB⟩ := hrel
      cases gk with
      | zero => exact absurd HA.out (by simp [nat_number_root.l2])
      | succ k3 =>
       have H := HA.out;clear HA;simp only [nat_number_root.l2] at H
       by_cases c21 : ag < (wrap64 (a1 - 1))
       ·rw [if_pos c21] at H;have aL := decide_eq_true c21;clear c21;obtain ⟨aF, b9, H⟩ := zh H;have H' := zA H;clear H;obtain ⟨bh, bi, aW⟩ := V_slice a6.out;subst aW;obtain ⟨bj, bk, aX⟩ := V_slice a2.out;subst aX
        go_wp2_with (first | ((with_reducible refine zG 69 rfl ?_); refine zC (some 44) Tryd.func69 (nat_number_add.calls k3 _ _ ah _ _ a9 aF _ ?a3 ?a4 ?a8 ?ac b9.out) ?_; (case a3 => exact zk (V_reads' a6.out).2.2); (case a4 => exact (V_reads' a6.out).2.1); (case a8 => exact zk (V_reads' a2.out).2.2); (case ac => exact (V_reads' a2.out).2.1); rintro e w25 ⟨v353, rfl, a7, hb⟩; refine ⟨_, rfl, ?_⟩; replace a5 := zA (V_below (vu a5.out) hb); replace a2 := zA (V_below (vu a2.out) hb); replace a6 := zA (V_below (vu a6.out) hb); have aM := zA (V_lower (V_mono (ok' := fun k_ => (P0_ k_ ∨ w.heap.size ≤ k_)) a7 (fun k_ hk_ => (.inr (Nat.le_trans (below_size bq) hk_)))) (below_size bq)); replace HB := ze hb; (try clear a7)))
        go_roundg k3
        case measure => have := HK1.out; have := HK2.out; have := HK3.out; omega
        case rel => exact ⟨(aF), (wrap64 (ag + 1)), zi, H', ⟨by have := HK1.out; have := HK2.out; have := HK3.out; omega⟩, ⟨vu a5.out⟩, ⟨vu a2.out⟩, ⟨vu aM.out⟩, ⟨bq⟩⟩
       rw [if_neg c21] at H;have aL := decide_eq_false c21;clear c21;obtain ⟨⟨am, aG⟩, aP, H⟩ := zh H;(try dsimp only at H);obtain ⟨av, aQ, H⟩ := zh H
       by_cases c28 : av ≥ 0
       ·rw [if_pos c28] at H;have aN := decide_eq_true c28;clear c28;obtain rfl := Option.some.inj H;obtain ⟨bl, bm, aY⟩ := V_slice a6.out;subst aY
        go_wp2_with (first | ((with_reducible refine zG 63 rfl ?_); refine zC (some 50) Tryd.func63 (nat_number_short.calls k3 _ _ ah (IntKind.u64.wrap (a1)) am aG _ ?a3 ?a4 aP.out) ?_; (case a3 => exact zk (V_reads' a6.out).2.2); (case a4 => exact (V_reads' a6.out).2.1); rintro e w30 ⟨v356, rfl, a7, hb⟩; refine ⟨_, rfl, ?_⟩; replace a5 := zA (V_below (vu a5.out) hb); replace a2 := zA (V_below (vu a2.out) hb); replace a6 := zA (V_below (vu a6.out) hb); have aa := zA (V_lower (V_mono (ok' := fun k_ => (P0_ k_ ∨ w.heap.size ≤ k_)) a7 (fun k_ hk_ => (.inr (Nat.le_trans (below_size bq) hk_)))) (below_size bq)); replace HB := ze hb; (try clear a7); obtain ⟨bn, bo, az⟩ := V_slice aa.out; subst az; obtain ⟨bp, br, aZ⟩ := V_slice a2.out; subst aZ) | ((with_reducible refine zG 62 rfl ?_); refine zC (some 55) Tryd.func62 (nat_number_cmp.calls k3 _ _ am _ _ a9 av _ ?a3 ?a4 ?a8 ?ac aQ.out) ?_; (case a3 => exact zk (V_reads' aa.out).2.2); (case a4 => exact (V_reads' aa.out).2.1); (case a8 => exact zk (V_reads' a2.out).2.2); (case ac => exact (V_reads' a2.out).2.1); rintro e w' ⟨rfl, ⟨nd, rfl⟩⟩; refine ⟨_, rfl, ?_⟩))
        go_ret;exact ⟨_, er, vu a2.out, bq⟩
       rw [if_neg c28] at H;have aN := decide_eq_false c28;clear c28;have H' := zA H;clear H;obtain ⟨bs, bt, b1⟩ := V_slice a6.out;subst b1
       go_wp2_with (first | ((with_reducible refine zG 63 rfl ?_); refine zC (some 50) Tryd.func63 (nat_number_short.calls k3 _ _ ah (IntKind.u64.wrap (a1)) am aG _ ?a3 ?a4 aP.out) ?_; (case a3 => exact zk (V_reads' a6.out).2.2); (case a4 => exact (V_reads' a6.out).2.1); rintro e w34 ⟨v356, rfl, a7, hb⟩; refine ⟨_, rfl, ?_⟩; replace a5 := zA (V_below (vu a5.out) hb); replace a2 := zA (V_below (vu a2.out) hb); replace a6 := zA (V_below (vu a6.out) hb); have aa := zA (V_lower (V_mono (ok' := fun k_ => (P0_ k_ ∨ w.heap.size ≤ k_)) a7 (fun k_ hk_ => (.inr (Nat.le_trans (below_size bq) hk_)))) (below_size bq)); replace HB := ze hb; (try clear a7); obtain ⟨bu, bv, b2⟩ := V_slice aa.out; subst b2; obtain ⟨bw, bx, b3⟩ := V_slice a2.out; subst b3) | ((with_reducible refine zG 62 rfl ?_); refine zC (some 55) Tryd.func62 (nat_number_cmp.calls k3 _ _ am _ _ a9 av _ ?a3 ?a4 ?a8 ?ac aQ.out) ?_; (case a3 => exact zk (V_reads' aa.out).2.2); (case a4 => exact (V_reads' aa.out).2.1); (case a8 => exact zk (V_reads' a2.out).2.2); (case ac => exact (V_reads' a2.out).2.1); rintro e w' ⟨rfl, ⟨nd, rfl⟩⟩; refine ⟨_, rfl, ?_⟩))
       go_roundg k3
       case measure => have := HK1.out; have := HK2.out; have := HK3.out; omega
       case rel => exact ⟨(am), H', ⟨by have := HK1.out; have := HK2.out; have := HK3.out; omega⟩, ⟨vu a5.out⟩, ⟨vu aa.out⟩, ⟨bq⟩⟩
def nat_number_sub.l0 : Nat → List Int → List Int → Int → List Int → Int → Int → Option (List Int)
 | 0, _, _, _, _, _, _ => none
 | k + 1, x1, x5, x6, x13, x14, x15 => if x15 < x14 then (if 0 ≤ x15 then (if x15 < (x13.length : Int) then (if x15 < (x1.length : Int) then (if x6 ≤ 1 then (if x15 < (x5.length : Int) then (nat_number_sub.l0 k x1 (x5.set (x15 : Int).toNat (sub64s (rd x13 x15) (rd x1 x15) x6)) (sub64c (rd x13 x15) (rd x1 x15) x6) x13 x14 (wrap64 (x15 + 1))) else (none)) else (none)) else (if x6 ≤ 1 then (if x15 < (x5.length : Int) then (nat_number_sub.l0 k x1 (x5.set (x15 : Int).toNat (sub64s (rd x13 x15) 0 x6)) (sub64c (rd x13 x15) 0 x6) x13 x14 (wrap64 (x15 + 1))) else (none)) else (none))) else (none)) else (none)) else ((nat_norm.f k x5).bind fun a1 => (some a1))
def nat_number_sub.f (k : Nat) (l0 : List Int) (l1 : List Int) : Option (List Int) := if 0 ≤ (l0.length : Int) then (if ((l0.length : Int) : Int).toNat ≤ 35184372088832 then (nat_number_sub.l0 k l1 (List.replicate ((l0.length : Int) : Int).toNat 0) 0 l0 (l0.length : Int) 0) else (none)) else (none)
set_option maxHeartbeats 8000000 in
set_option maxRecDepth 100000 in
theorem nat_number_sub.calls (k : Nat) (A0 : Option Addr) (c0 : Nat) (l0 : List Int) (A1 : Option Addr) (c1 : Nat) (l1 : List Int) (r : List Int) (w : World) (hr0 : Kd.C (Kd.int .u64) w A0 l0.length l0) (hc0 : l0.length ≤ c0) (hr1 : Kd.C (Kd.int .u64) w A1 l1.length l1) (hc1 : l1.length ≤ c1) (h : nat_number_sub.f k l0 l1 = some r) :
  Calls Tryd.prog 48 #[.slice A0 l0.length c0, .slice A1 l1.length c1] w fun e w' => ∃ v0_ : Value, e = .returned (v0_) ∧ Kd.V (Kd.int .u64) 22 w' w.heap.size (fun k_ => (w.heap.size ≤ k_)) v0_ r ∧ Below w.heap.size w w' := by
 have ao := zA hr0;have aR := zA hc0;clear hr0 hc0;have aF := zA hr1;have aS := zA hc1;clear hr1 hc1;have HB := zA (Below.refl w.heap.size w);have H := h
 unfold nat_number_sub.f at H
 clear h;replace H := dn H;obtain ⟨c3, H⟩ := H;have aq := eq_true c3;have ar := decide_eq_true c3;clear c3;replace H := dn H;obtain ⟨c4, H⟩ := H;have au := eq_true c4;have av := decide_eq_true c4;clear c4;obtain ⟨aw, a7⟩ : ∃ y_ : List Int, y_ = (List.replicate ((l0.length : Int) : Int).toNat 0) := ⟨_, rfl⟩;(first | replace H := zRb a7 H | rw [← a7] at H | skip);have ab := zA a7;clear a7;have H' := zA H;clear H;go_enter Tryd.func48, Tryd.ntmps48
 go_wp2_with (first | ((with_reducible refine zD 12 rfl ?_); refine R_make (Kd.int .u64) _ 22 rfl (N := 12) rfl 58 _ _ rfl (l0.length : Int) rfl rfl Tryd.underlying58 (.int .u64 0) 8 info22 rfl (by decide) (by omega) 0 (ok := fun _ => True) (okp := fun _ => True) rfl (fun _ hk => hk) trivial (od) (Nat.le_trans (Nat.mul_le_mul_right _ (od : (l0.length : Int).toNat ≤ 35184372088832)) (by omega)) (Below.refl _ _) (Nat.le_refl _) ?_; intro v361 w5 aa hb hg_ hnew_; clear hg_ hnew_; (first | rw [← ab.out] at aa | (simp only [Int.reduceToNat] at aa; rw [← ab.out] at aa)); have ai := zA (R_lower (R_newM (M := fun k_ => (w.heap.size ≤ k_)) aa (below_size bq) (fun k_ h_ => h_)) (below_size bq)); replace HB := ze hb; clear hb aa))
 go_loopg [6, 15] k (fun kq v6 v15 w' => ∃ (a4 : List Int) (a5 : Int) (a1 : Int), v6 = .int .u64 a5 ∧ v15 = .int .i64 a1 ∧ Aside0 (nat_number_sub.l0 kq l1 a4 a5 l0 (l0.length : Int) a1 = some r) ∧ Aside0 (kq ≤ k) ∧ Aside0 (Kd.R (Kd.int .u64) 22 w' w.heap.size (fun k_ => (w.heap.size ≤ k_)) v361 a4) ∧ Aside0 (Below w.heap.size w w'))
 case atStart => exact ⟨(aw), (0), (0), zi, zi, H', ⟨Nat.le_refl _⟩, ⟨ru (R_mono ai.out (fun _ hk => hk.1))⟩, ⟨bq⟩⟩
 case round =>
  clear H'
  try clear c1
  try clear c3
  try clear aq
  try clear ar
  try clear c4
  try clear au
  try clear av
  obtain ⟨a4, a5, a1, rfl, rfl, HA, HK1, a2, HB⟩ := hrel
  cases gk with
  | zero => exact absurd HA.out (by simp [nat_number_sub.l0])
  | succ k1 =>
   have H := HA.out;clear HA;simp only [nat_number_sub.l0] at H
   by_cases c7 : a1 < (l0.length : Int)
   ·rw [if_pos c7] at H;have ax := decide_eq_true c7;clear c7;replace H := dn H;obtain ⟨c8, H⟩ := H;have aP := decide_eq_true c8;clear c8;replace H := dn H;obtain ⟨c9, H⟩ := H;have aQ := decide_eq_true c9;clear c9
    by_cases c10 : a1 < (l1.length : Int)
    ·rw [if_pos c10] at H;have aj := decide_eq_true c10;clear c10;replace H := dn H;obtain ⟨c11, H⟩ := H;have aJ := eq_true c11;have aK := decide_eq_true c11;clear c11;replace H := dn H;obtain ⟨c12, H⟩ := H;have aL := decide_eq_true c12;clear c12;obtain ⟨ac, a8⟩ : ∃ y_ : List Int, y_ = (a4.set (a1 : Int).toNat (sub64s (rd l0 a1) (rd l1 a1) a5)) := ⟨_, rfl⟩;(first | replace H := zRb a8 H | rw [← a8] at H | skip);have ak := zA a8;clear a8;have H' := zA H;clear H;have p363 : 0 ≤ (a1 : Int) := od;have q363 : a1 < (l0.length : Int) := od;obtain ⟨ad363, e363, a3⟩ := Kd.at_int ao.out a1 p363 q363;cases e363;replace a3 := (HB.out.cell (World.block_lt_of_cell? w _ a3)).trans a3;replace p363 := eq_true p363;replace q363 := eq_true q363;have p364 : 0 ≤ (a1 : Int) := od;have q364 : a1 < (l1.length : Int) := od;obtain ⟨ad364, e364, a6⟩ := Kd.at_int aF.out a1 p364 q364;cases e364;replace a6 := (HB.out.cell (World.block_lt_of_cell? w _ a6)).trans a6;replace p364 := eq_true p364;replace q364 := eq_true q364;have p13 : 0 ≤ (a1 : Int) := od;have q13 : (a1 : Int) < ((a4.length : Int) : Int) := od;obtain ⟨go13, ay, ad, ae, gl13, cl13, HG13⟩ := R_form a2.out (by omega)
     (first | cases ad | (injection ad with ea_ en_ ec_; (first | subst ea_ | (injection ea_ with ea_; subst ea_)); subst ec_; clear en_))
     have GB13 := zA ae;have GG13 := zA HG13;clear ae gl13 HG13;obtain ⟨aG, hf13_0⟩ := R_celln 0 a2.out (a1 : Int) p13 q13;replace p13 := eq_true p13;replace q13 := eq_true q13;have HP14 := R_putg a2.out (a1 : Int) (sub64s (rd l0 a1) (rd l1 a1) a5)
     go_wp2_with (first | ((with_reducible refine gate_store (t := 22) (p := 37) rfl ?_); refine store_event (t := 22) (p := 37) (v := ?vo_w15) (w1 := (wr.setCell ⟨go13, (a1 : Int).toNat, none⟩ (.int .u64 (sub64s (rd l0 a1) (rd l1 a1) a5)))) ?hg ?ho ?hn ?hr ?_; (case ho => rfl); (case hg => rfl); (case hn => rfl); (case hr => first | (go_simp; done) | (go_simp; rfl)); intro w15 hw; have hg : wr.grownBy w15 (some go13) := (by rw [hw]; exact HP14.2); have hp_ : Kd.R (Kd.int .u64) 22 w15 w.heap.size (fun k_ => (w.heap.size ≤ k_)) (.slice (some ⟨go13, 0, none⟩) a4.length ay) ac := (by rw [hw, ak.out]; exact HP14.1); clear HP14; replace a2 := zA (hp_); replace HB := zA ((by rw [hw]; exact below_set (HB.out) GB13.out : Below w.heap.size w w15)); clear hg hw hp_))
     go_roundg k1
     case measure => have := HK1.out; omega
     case rel => exact ⟨(ac), (sub64c (rd l0 a1) (rd l1 a1) a5), (wrap64 (a1 + 1)), zi, zi, H', ⟨by have := HK1.out; omega⟩, ⟨ru a2.out⟩, ⟨bq⟩⟩
    rw [if_neg c10] at H;have aj := decide_eq_false c10;clear c10;replace H := dn H;obtain ⟨c16, H⟩ := H;have aM := eq_true c16;have aN := decide_eq_true c16;clear c16;replace H := dn H;obtain ⟨c17, H⟩ := H;have aO := decide_eq_true c17;clear c17;obtain ⟨af, a9⟩ : ∃ y_ : List Int, y_ = (a4.set (a1 : Int).toNat (sub64s (rd l0 a1) 0 a5)) := ⟨_, rfl⟩;(first | replace H := zRb a9 H | rw [← a9] at H | skip);have al := zA a9;clear a9;have H' := zA H;clear H;have p363 : 0 ≤ (a1 : Int) := od;have q363 : a1 < (l0.length : Int) := od;obtain ⟨ad363, e363, a3⟩ := Kd.at_int ao.out a1 p363 q363;cases e363;replace a3 := (HB.out.cell (World.block_lt_of_cell? w _ a3)).trans a3;replace p363 := eq_true p363;replace q363 := eq_true q363;have p18 : 0 ≤ (a1 : Int) := od;have q18 : (a1 : Int) < ((a4.length : Int) : Int) := od;obtain ⟨go18, aA, ag, ah, gl18, cl18, HG18⟩ := R_form a2.out (by omega)
    (first | cases ag | (injection ag with ea_ en_ ec_; (first | subst ea_ | (injection ea_ with ea_; subst ea_)); subst ec_; clear en_))
    have GB18 := zA ah;have GG18 := zA HG18;clear ah gl18 HG18;obtain ⟨aH, hf18_0⟩ := R_celln 0 a2.out (a1 : Int) p18 q18;replace p18 := eq_true p18;replace q18 := eq_true q18;have HP19 := R_putg a2.out (a1 : Int) (sub64s (rd l0 a1) 0 a5)
    go_wp2_with (first | ((with_reducible refine gate_store (t := 22) (p := 37) rfl ?_); refine store_event (t := 22) (p := 37) (v := ?vo_w20) (w1 := (wr.setCell ⟨go18, (a1 : Int).toNat, none⟩ (.int .u64 (sub64s (rd l0 a1) 0 a5)))) ?hg ?ho ?hn ?hr ?_; (case ho => rfl); (case hg => rfl); (case hn => rfl); (case hr => first | (go_simp; done) | (go_simp; rfl)); intro w20 hw; have hg : wr.grownBy w20 (some go18) := (by rw [hw]; exact HP19.2); have hp_ : Kd.R (Kd.int .u64) 22 w20 w.heap.size (fun k_ => (w.heap.size ≤ k_)) (.slice (some ⟨go18, 0, none⟩) a4.length aA) af := (by rw [hw, al.out]; exact HP19.1); clear HP19; replace a2 := zA (hp_); replace HB := zA ((by rw [hw]; exact below_set (HB.out) GB18.out : Below w.heap.size w w20)); clear hg hw hp_))
    go_roundg k1
    case measure => have := HK1.out; omega
    case rel => exact ⟨(af), (sub64c (rd l0 a1) 0 a5), (wrap64 (a1 + 1)), zi, zi, H', ⟨by have := HK1.out; omega⟩, ⟨ru a2.out⟩, ⟨bq⟩⟩
   rw [if_neg c7] at H;have ax := decide_eq_false c7;clear c7;obtain ⟨aB, aI, H⟩ := zh H;obtain rfl := Option.some.inj H;obtain ⟨aC, aD, aE⟩ := R_slice a2.out;subst aE
   go_wp2_with (first | ((with_reducible refine zG 38 rfl ?_); refine zC (some 40) Tryd.func38 (nat_norm.calls k1 (fun k_ => some k_ = (.slice aC a4.length aD : Value).ownBlock) _ _ a4 aB _ ?am aI.out) ?_; (case am => exact R_V (R_tight rfl (a2.out))); rintro e w23 ⟨v368, rfl, ap, hb⟩; refine ⟨_, rfl, ?_⟩; have an := zA (V_lower (V_mono (ok' := fun k_ => (w.heap.size ≤ k_)) ap (fun k_ hk_ => Or.elim hk_ (fun hs_ => ((a2.out).1 k_ hs_.symm)) (fun hn_ => (Nat.le_trans (below_size bq) hn_)))) (below_size bq)); replace a2 := zA (R_below (ru a2.out) hb); replace HB := ze hb; (try clear ap)))
   go_ret;exact ⟨_, er, vu an.out, bq⟩
def nat_rooted.l0 : Nat → List Int → List Int → List Int → Int → Int → Option (List Int × List Int × Int)
 | 0, _, _, _, _, _ => none
 | k + 1, x7, x9, x10, x23, x24 => if x24 < x23 then ((nat_number_mul.f k x10 x9).bind fun a1 => (nat_rooted.l0 k x7 x9 a1 x23 (wrap64 (x24 + 1)))) else ((nat_number_own.f x9).bind fun a2 => ((nat_number_sub.f k x7 x10).bind fun a3 => ((nat_number_own.f a3).bind fun a4 => (some (a2, a4, 0)))))
def nat_rooted.f (k : Nat) (l0 : List Int) (a1 : Int) : Option (List Int × List Int × Int) := (nat_one.f k l0).bind fun a2 => (if a2.2 = 0 then ((nat_number_root.f k a2.1 a1).bind fun a3 => (nat_rooted.l0 k a2.1 a3 (([1] : List Int)) a1 0)) else (some (([] : List Int), ([] : List Int), a2.2)))
set_option maxHeartbeats 8000000 in
set_option maxRecDepth 100000 in
theorem nat_rooted.calls (k : Nat) (A0 : Option Addr) (c0 : Nat) (l0 : List Int) (a1 : Int) (r1 : List Int) (r2 : List Int) (r3 : Int) (w : World) (hr0 : Kd.C (Kd.int .u64) w A0 l0.length l0) (hc0 : l0.length ≤ c0) (h : nat_rooted.f k l0 a1 = some (r1, r2, r3)) :
  Calls Tryd.prog 26 #[.slice A0 l0.length c0, .int .i64 a1] w fun e w' => ∃ v0_ v1_ : Value, e = .returned (.tuple #[v0_, v1_, .int .i64 r3]) ∧ Kd.R (Kd.int .u64) 22 w' w.heap.size (fun k_ => some k_ ≠ (v1_ : Value).ownBlock) v0_ r1 ∧ Kd.R (Kd.int .u64) 22 w' w.heap.size (fun k_ => some k_ ≠ (v0_ : Value).ownBlock) v1_ r2 ∧ Below w.heap.size w w' := by
 have aw := zA hr0;have ax := zA hc0;clear hr0 hc0;have HB := zA (Below.refl w.heap.size w);have H := h
 unfold nat_rooted.f at H
 clear h;obtain ⟨⟨aa, ak⟩, A3, H⟩ := zh H;(try dsimp only at H)
 by_cases c4 : ak = 0
 ·rw [if_pos c4] at H;have am := beq_iff_eq.mpr c4;have an := bne_eq_false_iff_eq.mpr c4;clear c4;obtain ⟨ag, A5, H⟩ := zh H;obtain ⟨ay, af⟩ : ∃ y_ : List Int, y_ = (([1] : List Int)) := ⟨_, rfl⟩;(first | replace H := zRb af H | rw [← af] at H | skip);have al := zA af;clear af;have H' := zA H;clear H;go_enter Tryd.func26, Tryd.ntmps26
  go_wp2_with (first | ((with_reducible refine zG 34 rfl ?_); refine zC (some 13) Tryd.func34 (nat_one.calls k (fun k_ => k_ < w.heap.size) _ _ l0 aa ak _ ?a4 A3.out) ?_; (case a4 => exact V_mk ax.out (Kd.F_below (C_F (Kd.heap_int .u64) aw.out) bq)); rintro e w6 ⟨v371, rfl, a2, hb⟩; refine ⟨_, rfl, ?_⟩; have a7 := zA (V_lower (V_mono (ok' := fun k_ => True) a2 (fun k_ hk_ => trivial)) (below_size bq)); replace HB := ze hb; (try clear a2); obtain ⟨aH, aI, aJ⟩ := V_slice a7.out; subst aJ) | ((with_reducible refine zG 46 rfl ?_); refine zC (some 21) Tryd.func46 (nat_number_root.calls k (fun k_ => True) _ _ aa a1 ag _ ?a4 A5.out) ?_; (case a4 => exact a7.out); rintro e w8 ⟨v375, rfl, a2, hb⟩; refine ⟨_, rfl, ?_⟩; replace a7 := zA (V_below (vu a7.out) hb); have ah := zA (V_lower (V_mono (ok' := fun k_ => True) a2 (fun k_ hk_ => trivial)) (below_size bq)); replace HB := ze hb; (try clear a2)) | ((with_reducible refine zD 22 rfl ?_); refine R_lit (Kd.int .u64) _ 22 ?hg (N := 22) ?hd (xs := ([1] : List Int)) (inner := [.int .u64 1]) (ok := fun _ => True) (okp := fun _ => True) ?hr ?hp (fun _ hk => hk) trivial (Below.refl _ _) (Nat.le_refl _) (by simp) ?_; (case hd => rfl); (case hg => rfl); (case hr => first | (go_simp; done) | (go_simp; rfl)); (case hp => exact (Reps.one (show Kd.M (Kd.int .u64) _ _ _ 1 [.int .u64 1] from rfl) (Reps.none _ _))); intro v378 w9 ab hb hg_ hnew_; clear hg_ hnew_; (first | rw [← al.out] at ab | (simp only [Int.reduceToNat] at ab; rw [← al.out] at ab)); replace a7 := zA (V_elder' (vu a7.out) (R_base ab) hb); replace ah := zA (V_elder' (vu ah.out) (R_base ab) hb); have aq := zA (R_lower ab (below_size bq)); replace HB := ze hb; clear hb ab))
  go_loopg [10, 24] k (fun kq v10 v24 w' => ∃ (ac : List Int) (ad : Int), v24 = .int .i64 ad ∧ Aside0 (nat_rooted.l0 kq aa ag ac a1 ad = some (r1, r2, r3)) ∧ Aside0 (kq ≤ k) ∧ Aside0 (Kd.V (Kd.int .u64) 22 w' w.heap.size (fun _ => True) (.slice aH aa.length aI) aa) ∧ Aside0 (Kd.V (Kd.int .u64) 22 w' w.heap.size (fun _ => True) v375 ag) ∧ Aside0 (Kd.V (Kd.int .u64) 22 w' w.heap.size (fun _ => True) v10 ac) ∧ Aside0 (Below w.heap.size w w'))
  case atStart => exact ⟨(ay), (0), zi, H', ⟨Nat.le_refl _⟩, ⟨vu (V_mono a7.out (fun _ hk => trivial))⟩, ⟨vu (V_mono ah.out (fun _ hk => trivial))⟩, ⟨R_V (ru aq.out)⟩, ⟨bq⟩⟩
  case round =>
   clear H'
   try clear c3
   try clear c4
   try clear am
   try clear an
   obtain ⟨ac, ad, rfl, HA, HK1, a6, a5, a3, HB⟩ := hrel
   cases gk with
   | zero => exact absurd HA.out (by simp [nat_rooted.l0])
   | succ k1 =>
    have H := HA.out;clear HA;simp only [nat_rooted.l0] at H
    by_cases c11 : ad < a1
    ·rw [if_pos c11] at H;have ar := decide_eq_true c11;clear c11;obtain ⟨ao, aK, H⟩ := zh H;have H' := zA H;clear H;obtain ⟨aO, aP, aA⟩ := V_slice a3.out;subst aA;obtain ⟨aQ, aR, aB⟩ := V_slice a5.out;subst aB
     go_wp2_with (first | ((with_reducible refine zG 47 rfl ?_); refine zC (some 28) Tryd.func47 (nat_number_mul.calls k1 _ _ ac _ _ ag ao _ ?a4 ?a8 ?ai ?aj aK.out) ?_; (case a4 => exact zk (V_reads' a3.out).2.2); (case a8 => exact (V_reads' a3.out).2.1); (case ai => exact zk (V_reads' a5.out).2.2); (case aj => exact (V_reads' a5.out).2.1); rintro e w15 ⟨v381, rfl, a2, hb⟩; refine ⟨_, rfl, ?_⟩; replace a6 := zA (V_below (vu a6.out) hb); replace a5 := zA (V_below (vu a5.out) hb); replace a3 := zA (V_below (vu a3.out) hb); have au := zA (V_lower (V_mono (ok' := fun k_ => True) a2 (fun k_ hk_ => trivial)) (below_size bq)); replace HB := ze hb; (try clear a2)))
     go_roundg k1
     case measure => have := HK1.out; omega
     case rel => exact ⟨(ao), (wrap64 (ad + 1)), zi, H', ⟨by have := HK1.out; omega⟩, ⟨vu a6.out⟩, ⟨vu a5.out⟩, ⟨vu au.out⟩, ⟨bq⟩⟩
    rw [if_neg c11] at H;have ar := decide_eq_false c11;clear c11;obtain ⟨aC, aL, H⟩ := zh H;obtain ⟨ap, aM, H⟩ := zh H;obtain ⟨aD, aN, H⟩ := zh H;simp only [Option.some.injEq, Prod.mk.injEq] at H;obtain ⟨rfl, rfl, rfl⟩ := H;obtain ⟨aS, aT, aE⟩ := V_slice a5.out;subst aE
    go_wp2_with (first | ((with_reducible refine zG 39 rfl ?_); refine zC (some 31) Tryd.func39 (nat_number_own.calls _ _ ag aC _ ?a4 ?a8 aL.out) ?_; (case a4 => exact zk (V_reads' a5.out).2.2); (case a8 => exact (V_reads' a5.out).2.1); rintro e w20 ⟨v384, rfl, a2, hb⟩; refine ⟨_, rfl, ?_⟩; replace a6 := zA (V_elder' (vu a6.out) (R_base a2) hb); replace a5 := zA (V_elder' (vu a5.out) (R_base a2) hb); replace a3 := zA (V_elder' (vu a3.out) (R_base a2) hb); have a9 := zA (R_lower a2 (below_size bq)); replace HB := ze hb; (try clear a2); obtain ⟨aU, aV, aF⟩ := V_slice a3.out; subst aF) | ((with_reducible refine zG 48 rfl ?_); refine zC (some 34) Tryd.func48 (nat_number_sub.calls k1 _ _ aa _ _ ac ap _ ?a4 ?a8 ?ai ?aj aM.out) ?_; (case a4 => exact zk (V_reads' a6.out).2.2); (case a8 => exact (V_reads' a6.out).2.1); (case ai => exact zk (V_reads' a3.out).2.2); (case aj => exact (V_reads' a3.out).2.1); rintro e w22 ⟨v387, rfl, a2, hb⟩; refine ⟨_, rfl, ?_⟩; replace a6 := zA (V_below (vu a6.out) hb); replace a5 := zA (V_below (vu a5.out) hb); replace a3 := zA (V_below (vu a3.out) hb); have ae := zA (V_lower (V_mono (ok' := fun k_ => some k_ ≠ (v384 : Value).ownBlock) a2 (fun k_ hk_ => (Kd.fresh' (R_lt (ru a9.out)) k_ hk_))) (below_size bq)); replace a9 := zA (R_below (ru a9.out) hb); replace HB := ze hb; (try clear a2); obtain ⟨aW, aX, aG⟩ := V_slice ae.out; subst aG) | ((with_reducible refine zG 39 rfl ?_); refine zC (some 35) Tryd.func39 (nat_number_own.calls _ _ ap aD _ ?a4 ?a8 aN.out) ?_; (case a4 => exact zk (V_reads' ae.out).2.2); (case a8 => exact (V_reads' ae.out).2.1); rintro e w24 ⟨v390, rfl, a2, hb⟩; refine ⟨_, rfl, ?_⟩; replace a6 := zA (V_elder' (vu a6.out) (R_base a2) hb); replace a5 := zA (V_elder' (vu a5.out) (R_base a2) hb); replace a3 := zA (V_elder' (vu a3.out) (R_base a2) hb); replace ae := zA (V_elder' (vu ae.out) (R_base a2) hb); have av := zA (R_lower (R_new' a2 (R_lt (ru a9.out))) (below_size bq)); replace a9 := zA (R_elder' (ru a9.out) (R_base a2) hb); replace HB := ze hb; (try clear a2)))
    go_ret3
    exact ⟨_, _, er, ru (R_mono a9.out (fun _ hk => hk.2)), ru (R_mono av.out (fun _ hk => hk.2)), bq⟩
 rw [if_neg c4] at H;have am := beq_eq_false_iff_ne.mpr c4;have an := bne_iff_ne.mpr c4;simp only [Option.some.injEq, Prod.mk.injEq] at H;obtain ⟨rfl, rfl, rfl⟩ := H;go_enter Tryd.func26, Tryd.ntmps26
 go_wp2_with (first | ((with_reducible refine zG 34 rfl ?_); refine zC (some 13) Tryd.func34 (nat_one.calls k (fun k_ => k_ < w.heap.size) _ _ l0 aa ak _ ?a4 A3.out) ?_; (case a4 => exact V_mk ax.out (Kd.F_below (C_F (Kd.heap_int .u64) aw.out) bq)); rintro e w25 ⟨v371, rfl, a2, hb⟩; refine ⟨_, rfl, ?_⟩; have a7 := zA (V_lower (V_mono (ok' := fun k_ => True) a2 (fun k_ hk_ => trivial)) (below_size bq)); replace HB := ze hb; (try clear a2)))
 go_ret3
 exact ⟨_, _, er, by first | exact R_nil _ _ _ _ _ | exact Kd.N_nil _ _ _ _ _ | exact V_nil _ _ _ _ _ | exact Kd.Q_nil _ _ _ _ _ | exact Kd.S_nil _ _ _ _ _, by first | exact R_nil _ _ _ _ _ | exact Kd.N_nil _ _ _ _ _ | exact V_nil _ _ _ _ _ | exact Kd.Q_nil _ _ _ _ _ | exact Kd.S_nil _ _ _ _ _, bq⟩
def nat_Cbrt.f (k : Nat) (l0 : List Int) : Option (List Int × List Int × Int) := (nat_rooted.f k l0 3).bind fun a1 => (some (a1.1, a1.2.1, a1.2.2))
set_option maxHeartbeats 8000000 in
set_option maxRecDepth 100000 in
theorem nat_Cbrt.calls (k : Nat) (A0 : Option Addr) (c0 : Nat) (l0 : List Int) (r1 : List Int) (r2 : List Int) (r3 : Int) (w : World) (hr0 : Kd.C (Kd.int .u64) w A0 l0.length l0) (hc0 : l0.length ≤ c0) (h : nat_Cbrt.f k l0 = some (r1, r2, r3)) :
  Calls Tryd.prog 13 #[.slice A0 l0.length c0] w fun e w' => ∃ v0_ v1_ : Value, e = .returned (.tuple #[v0_, v1_, .int .i64 r3]) ∧ Kd.R (Kd.int .u64) 22 w' w.heap.size (fun k_ => some k_ ≠ (v1_ : Value).ownBlock) v0_ r1 ∧ Kd.R (Kd.int .u64) 22 w' w.heap.size (fun k_ => some k_ ≠ (v0_ : Value).ownBlock) v1_ r2 ∧ Below w.heap.size w w' := by
 have aa := zA hr0;have ab := zA hc0;clear hr0 hc0;have HB := zA (Below.refl w.heap.size w);have H := h
 unfold nat_Cbrt.f at H
 clear h;obtain ⟨⟨a7, a8, a9⟩, A2, H⟩ := zh H;(try dsimp only at H);simp only [Option.some.injEq, Prod.mk.injEq] at H;obtain ⟨rfl, rfl, rfl⟩ := H;go_enter Tryd.func13, Tryd.ntmps13
 go_wp2_with (first | ((with_reducible refine zG 26 rfl ?_); refine zC (some 6) Tryd.func26 (nat_rooted.calls k _ _ l0 3 a7 a8 a9 _ ?a1 ?a2 A2.out) ?_; (case a1 => exact zk aa.out); (case a2 => exact ab.out); rintro e w3 ⟨v395, v397, rfl, a5, a6, hb⟩; refine ⟨_, rfl, ?_⟩; have a3 := zA (R_lower a5 (below_size bq)); have a4 := zA (R_lower a6 (below_size bq)); replace HB := ze hb; (try clear a5); (try clear a6)))
 go_ret3
 exact ⟨_, _, er, ru a3.out, ru a4.out, bq⟩
def nat_Sqrt.f (k : Nat) (l0 : List Int) : Option (List Int × List Int × Int) := (nat_rooted.f k l0 2).bind fun a1 => (some (a1.1, a1.2.1, a1.2.2))
set_option maxHeartbeats 8000000 in
set_option maxRecDepth 100000 in
theorem nat_Sqrt.calls (k : Nat) (A0 : Option Addr) (c0 : Nat) (l0 : List Int) (r1 : List Int) (r2 : List Int) (r3 : Int) (w : World) (hr0 : Kd.C (Kd.int .u64) w A0 l0.length l0) (hc0 : l0.length ≤ c0) (h : nat_Sqrt.f k l0 = some (r1, r2, r3)) :
  Calls Tryd.prog 17 #[.slice A0 l0.length c0] w fun e w' => ∃ v0_ v1_ : Value, e = .returned (.tuple #[v0_, v1_, .int .i64 r3]) ∧ Kd.R (Kd.int .u64) 22 w' w.heap.size (fun k_ => some k_ ≠ (v1_ : Value).ownBlock) v0_ r1 ∧ Kd.R (Kd.int .u64) 22 w' w.heap.size (fun k_ => some k_ ≠ (v0_ : Value).ownBlock) v1_ r2 ∧ Below w.heap.size w w' := by
 have aa := zA hr0;have ab := zA hc0;clear hr0 hc0;have HB := zA (Below.refl w.heap.size w);have H := h
 unfold nat_Sqrt.f at H
 clear h;obtain ⟨⟨a7, a8, a9⟩, A2, H⟩ := zh H;(try dsimp only at H);simp only [Option.some.injEq, Prod.mk.injEq] at H;obtain ⟨rfl, rfl, rfl⟩ := H;go_enter Tryd.func17, Tryd.ntmps17
 go_wp2_with (first | ((with_reducible refine zG 26 rfl ?_); refine zC (some 6) Tryd.func26 (nat_rooted.calls k _ _ l0 2 a7 a8 a9 _ ?a1 ?a2 A2.out) ?_; (case a1 => exact zk aa.out); (case a2 => exact ab.out); rintro e w3 ⟨v402, v404, rfl, a5, a6, hb⟩; refine ⟨_, rfl, ?_⟩; have a3 := zA (R_lower a5 (below_size bq)); have a4 := zA (R_lower a6 (below_size bq)); replace HB := ze hb; (try clear a5); (try clear a6)))
 go_ret3
 exact ⟨_, _, er, ru a3.out, ru a4.out, bq⟩
def nat_answer.f (l0 : List Int) : Option (List Int × Int) := (nat_number_great.f l0).bind fun a1 => (if a1 = true then (some (([] : List Int), 3)) else ((nat_number_own.f l0).bind fun a2 => (some (a2, 0))))
set_option maxHeartbeats 8000000 in
set_option maxRecDepth 100000 in
theorem nat_answer.calls (A0 : Option Addr) (c0 : Nat) (l0 : List Int) (r1 : List Int) (r2 : Int) (w : World) (hr0 : Kd.C (Kd.int .u64) w A0 l0.length l0) (hc0 : l0.length ≤ c0) (h : nat_answer.f l0 = some (r1, r2)) :
  Calls Tryd.prog 36 #[.slice A0 l0.length c0] w fun e w' => ∃ v0_ : Value, e = .returned (.tuple #[v0_, .int .i64 r2]) ∧ Kd.R (Kd.int .u64) 22 w' w.heap.size (fun _ => True) v0_ r1 ∧ Below w.heap.size w w' := by
 have a3 := zA hr0;have a4 := zA hc0;clear hr0 hc0;have HB := zA (Below.refl w.heap.size w);have H := h
 unfold nat_answer.f at H
 clear h;obtain ⟨a7, A2, H⟩ := zh H
 by_cases c3 : a7 = true
 ·subst c3;rw [if_pos rfl] at H;simp only [Option.some.injEq, Prod.mk.injEq] at H;obtain ⟨rfl, rfl⟩ := H;go_enter Tryd.func36, Tryd.ntmps36
  go_wp2_with (first | ((with_reducible refine zG 60 rfl ?_); refine zC (some 5) Tryd.func60 (nat_number_great.calls _ _ l0 true _ ?a1 ?a2 A2.out) ?_; (case a1 => exact zk a3.out); (case a2 => exact a4.out); rintro e w' ⟨rfl, ⟨nd, rfl⟩⟩; refine ⟨_, rfl, ?_⟩))
  go_ret2
  exact ⟨_, er, by first | exact R_nil _ _ _ _ _ | exact Kd.N_nil _ _ _ _ _ | exact V_nil _ _ _ _ _ | exact Kd.Q_nil _ _ _ _ _ | exact Kd.S_nil _ _ _ _ _, bq⟩
 replace c3 := Bool.eq_false_iff.mpr c3;subst c3;rw [if_neg (show ¬ (false = true) by decide)] at H;obtain ⟨a8, A4, H⟩ := zh H;simp only [Option.some.injEq, Prod.mk.injEq] at H;obtain ⟨rfl, rfl⟩ := H;go_enter Tryd.func36, Tryd.ntmps36
 go_wp2_with (first | ((with_reducible refine zG 60 rfl ?_); refine zC (some 5) Tryd.func60 (nat_number_great.calls _ _ l0 false _ ?a1 ?a2 A2.out) ?_; (case a1 => exact zk a3.out); (case a2 => exact a4.out); rintro e w' ⟨rfl, ⟨nd, rfl⟩⟩; refine ⟨_, rfl, ?_⟩) | ((with_reducible refine zG 39 rfl ?_); refine zC (some 7) Tryd.func39 (nat_number_own.calls _ _ l0 a8 _ ?a1 ?a2 A4.out) ?_; (case a1 => exact zk a3.out); (case a2 => exact a4.out); rintro e w5 ⟨v408, rfl, a6, hb⟩; refine ⟨_, rfl, ?_⟩; have a5 := zA (R_lower a6 (below_size bq)); replace HB := ze hb; (try clear a6)))
 go_ret2
 exact ⟨_, er, ru a5.out, bq⟩
end Go.Proofs.YtjnfipkbgmdpaaaDoor.PAll
