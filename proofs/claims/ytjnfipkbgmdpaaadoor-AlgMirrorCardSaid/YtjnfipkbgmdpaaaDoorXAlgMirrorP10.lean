/- Printed functions, merged by a program of this session. -/
import Derived.Test.YtjnfipkbgmdpaaaDoorXAlgMirrorP0
import Derived.Test.YtjnfipkbgmdpaaaDoorXAlgMirrorSh
namespace Go.Proofs.YtjnfipkbgmdpaaaDoor.PAll
open Go.RowKit Go.Proofs.YtjnfipkbgmdpaaaDoorW.PrintWords Go.Proofs.YtjnfipkbgmdpaaaDoorW.PrintLast Go.Proofs.YtjnfipkbgmdpaaaDoorW.PrintMore Go.Proofs.YtjnfipkbgmdpaaaDoorW.PrintWords.Kd
attribute [local go_sem] max2_int min2_int max_two min_two max_three min_three max_four min_four   -- for this text's walks alone
set_option linter.unusedVariables false
set_option linter.unusedSimpArgs false
attribute [local go_sem] ext75 ext76
def limbs_Shl.l0 : Nat → Int → List Int → Int → List Int → Int → Int → Option (List Int)
 | 0, _, _, _, _, _, _ => none
 | k + 1, x1, x5, x6, x23, x24, x25 => if x25 < x24 then (if 0 ≤ x25 then (if x25 < (x23.length : Int) then (if 0 ≤ (wrap64 ((wrap64 (Int.tdiv x1 64)) + x25)) then (if (wrap64 ((wrap64 (Int.tdiv x1 64)) + x25)) < (x5.length : Int) then (if 0 ≤ x6 then ((some (x5.set ((wrap64 ((wrap64 (Int.tdiv x1 64)) + x25)) : Int).toNat (Go.bits .or .u64 (rd x5 (wrap64 ((wrap64 (Int.tdiv x1 64)) + x25))) (shl .u64 (rd x23 x25) x6)) : List Int)).bind fun a1 => (if x6 > 0 then (if 0 ≤ (wrap64 (64 - x6)) then (if 0 ≤ (wrap64 ((wrap64 ((wrap64 (Int.tdiv x1 64)) + x25)) + 1)) then (if (wrap64 ((wrap64 ((wrap64 (Int.tdiv x1 64)) + x25)) + 1)) < (x5.length : Int) then (limbs_Shl.l0 k x1 (a1.set ((wrap64 ((wrap64 ((wrap64 (Int.tdiv x1 64)) + x25)) + 1)) : Int).toNat (shr .u64 (rd x23 x25) (wrap64 (64 - x6)))) x6 x23 x24 (wrap64 (x25 + 1))) else (none)) else (none)) else (none)) else (limbs_Shl.l0 k x1 a1 x6 x23 x24 (wrap64 (x25 + 1))))) else (none)) else (none)) else (none)) else (none)) else (none)) else ((limbs_Trim.f k x5).bind fun a2 => (some a2))
def limbs_Shl.f (k : Nat) (l0 : List Int) (a1 : Int) : Option (List Int) := (limbs_Trim.f k l0).bind fun a2 => (if (a2.length : Int) = 0 then (some ([] : List Int)) else (if 0 ≤ (wrap64 ((wrap64 ((wrap64 (Int.tdiv a1 64)) + (a2.length : Int))) + 1)) then (if (wrap64 ((wrap64 ((wrap64 (Int.tdiv a1 64)) + (a2.length : Int))) + 1) : Int).toNat ≤ 35184372088832 then (limbs_Shl.l0 k a1 (List.replicate (wrap64 ((wrap64 ((wrap64 (Int.tdiv a1 64)) + (a2.length : Int))) + 1) : Int).toNat 0) (Int.tmod a1 64) a2 (a2.length : Int) 0) else (none)) else (none)))
def limbs_Shl.T9 : Bool × List (List Nat × List Nat) := (true, [([], []), ([], []), ([1], [1]), ([], []), ([2, 3], [2, 3]), ([0, 4], [0, 4]), ([5], [5]), ([], []), ([], []), ([7, 8], [7, 8]), ([6, 9], [6, 9]), ([0, 4, 0, 1, 2, 3, 4, 5, 6, 7, 8, 9, 10], [0, 4]), ([11, 10, 0, 1, 2, 3, 4, 5, 6, 7, 8, 9, 10], [10, 11])])
def limbs_Shl.B9 : List Nat := [0, 0, 2, 0, 14, 31, 63, 0, 0, 384, 1023, 2047, 4095]
theorem limbs_Shl.tab9 : rtab .any (opsOf Tryd.f78 9) = limbs_Shl.T9 := by kernel_rfl
theorem limbs_Shl.bits9 : waitsOk limbs_Shl.T9.2 limbs_Shl.B9 = true := by kernel_rfl
set_option maxHeartbeats 8000000 in
set_option maxRecDepth 100000 in
theorem limbs_Shl.calls (k : Nat) (P0_ : Nat → Prop) (A0 : Option Addr) (c0 : Nat) (l0 : List Int) (a1 : Int) (r : List Int) (w : World) (hs0 : Kd.V (Kd.int .u64) 22 w w.heap.size (fun k_ => P0_ k_) (.slice A0 l0.length c0) l0) (h : limbs_Shl.f k l0 a1 = some r) :
  Calls Tryd.prog 78 #[.slice A0 l0.length c0, .int .i64 a1] w fun e w' => ∃ v0_ : Value, e = .returned (v0_) ∧ Kd.V (Kd.int .u64) 22 w' w.heap.size (fun k_ => (P0_ k_ ∨ w.heap.size ≤ k_)) v0_ r ∧ Below w.heap.size w w' := by
 have aj := zA (show Kd.V (Kd.int .u64) 22 w w.heap.size (fun k_ => (P0_ k_ ∨ w.heap.size ≤ k_)) (.slice A0 l0.length c0) l0 from V_mono hs0 (fun k_ hk => .inl hk));have HB := zA (Below.refl w.heap.size w);have H := h
 unfold limbs_Shl.f at H
 clear h;obtain ⟨a7, A3, H⟩ := zh H
 by_cases c4 : (a7.length : Int) = 0
 ·rw [if_pos c4] at H;have aF := beq_iff_eq.mpr c4;have aG := bne_eq_false_iff_eq.mpr c4;clear c4;obtain rfl := Option.some.inj H;go_enter Tryd.func78, Tryd.ntmps78
  go_wp2_with (first | ((with_reducible refine zG 59 rfl ?_); refine zC (some 10) Tryd.func59 (limbs_Trim.calls k (fun k_ => (P0_ k_ ∨ w.heap.size ≤ k_)) _ _ l0 a7 _ ?ah A3.out) ?_; (case ah => exact aj.out); rintro e w5 ⟨v682, rfl, ak, hb⟩; refine ⟨_, rfl, ?_⟩; replace aj := zA (V_below (vu aj.out) hb); have ab := zA (V_lower (V_mono (ok' := fun k_ => (P0_ k_ ∨ w.heap.size ≤ k_)) ak (fun k_ hk_ => Or.elim hk_ (fun hs_ => hs_) (fun hn_ => (.inr (Nat.le_trans (below_size bq) hn_))))) (below_size bq)); replace HB := ze hb; (try clear ak); obtain ⟨bj, bk, b3⟩ := V_slice ab.out; subst b3))
  go_ret;exact ⟨_, er, V_nil _ _ _ _ _, bq⟩
 rw [if_neg c4] at H;have aF := beq_eq_false_iff_ne.mpr c4;have aG := bne_iff_ne.mpr c4
 have aQ : ¬ (a7 = []) := fun h_ => c4 (by rw [h_]; rfl)
 generalize ae : wrap64 ((wrap64 ((wrap64 (Int.tdiv a1 64)) + (a7.length : Int))) + 1) = aB at H;(try rw [ae] at A3);have hji7w : (IntKind.i64.wrap ((wrap64 ((wrap64 (Int.tdiv a1 64)) + (a7.length : Int))) + 1)) = aB := (i64_w _).trans ae;replace H := dn H;obtain ⟨c8, H⟩ := H;have aR := eq_true c8;have aS := decide_eq_true c8;clear c8;replace H := dn H;obtain ⟨c9, H⟩ := H;have aT := eq_true c9;have aU := decide_eq_true c9;clear c9;obtain ⟨aV, al⟩ : ∃ y_ : List Int, y_ = (List.replicate (aB : Int).toNat 0) := ⟨_, rfl⟩;(first | replace H := zRb al H | rw [← al] at H | skip);have aC := zA al;clear al;have H' := zA H;clear H;go_enter Tryd.func78, Tryd.ntmps78
 go_wp2_with (first | ((with_reducible refine zG 59 rfl ?_); refine zC (some 10) Tryd.func59 (limbs_Trim.calls k (fun k_ => (P0_ k_ ∨ w.heap.size ≤ k_)) _ _ l0 a7 _ ?ah A3.out) ?_; (case ah => exact aj.out); rintro e w10 ⟨v682, rfl, ak, hb⟩; refine ⟨_, rfl, ?_⟩; replace aj := zA (V_below (vu aj.out) hb); have ab := zA (V_lower (V_mono (ok' := fun k_ => (P0_ k_ ∨ w.heap.size ≤ k_)) ak (fun k_ hk_ => Or.elim hk_ (fun hs_ => hs_) (fun hn_ => (.inr (Nat.le_trans (below_size bq) hn_))))) (below_size bq)); replace HB := ze hb; (try clear ak); obtain ⟨aW, aH, aX⟩ := V_slice ab.out; subst aX) | ((with_reducible refine zD 20 rfl ?_); refine R_make (Kd.int .u64) _ 22 rfl (N := 20) rfl 33 _ _ rfl aB rfl rfl Tryd.underlying33 (.int .u64 0) 8 info22 rfl (by decide) (by omega) 0 (ok := fun _ => True) (okp := fun _ => True) rfl (fun _ hk => hk) trivial (od) (Nat.le_trans (Nat.mul_le_mul_right _ (od : aB.toNat ≤ 35184372088832)) (by omega)) (Below.refl _ _) (Nat.le_refl _) ?_; intro v685 w12 af hb hg_ hnew_; clear hg_ hnew_; (first | rw [← aC.out] at af | (simp only [Int.reduceToNat] at af; rw [← aC.out] at af)); replace aj := zA (V_elder' (vu aj.out) (R_base af) hb); replace ab := zA (V_elder' (vu ab.out) (R_base af) hb); have aL := zA (R_lower (R_newM (M := fun k_ => (w.heap.size ≤ k_)) af (below_size bq) (fun k_ h_ => h_)) (below_size bq)); replace HB := ze hb; clear hb af))
 go_loopg [25] k (fun kq v25 w' => ∃ (a4 : List Int) (a5 : Int), v25 = .int .i64 a5 ∧ Aside0 (limbs_Shl.l0 kq a1 a4 (Int.tmod a1 64) a7 (a7.length : Int) a5 = some r) ∧ Aside0 (kq ≤ k) ∧ Aside0 (Kd.R (Kd.int .u64) 22 w' w.heap.size (fun k_ => (w.heap.size ≤ k_)) v685 a4) ∧ Aside0 (Kd.V (Kd.int .u64) 22 w' w.heap.size (fun k_ => (P0_ k_ ∨ w.heap.size ≤ k_) ∧ some k_ ≠ (v685 : Value).ownBlock) (.slice aW a7.length aH) a7) ∧ Aside0 (Below w.heap.size w w'))
 case atStart => exact ⟨(aV), (0), zi, H', ⟨Nat.le_refl _⟩, ⟨ru (R_mono aL.out (fun _ hk => hk.1))⟩, ⟨vu ab.out⟩, ⟨bq⟩⟩
 case round =>
  clear H'
  try clear c4
  try clear aF
  try clear aG
  try clear aQ
  try clear c5
  try clear c8
  try clear aR
  try clear aS
  try clear c9
  try clear aT
  try clear aU
  obtain ⟨a4, a5, rfl, HA, HK1, a3, a6, HB⟩ := hrel
  cases gk with
  | zero => exact absurd HA.out (by simp [limbs_Shl.l0])
  | succ k1 =>
   have H := HA.out;clear HA;simp only [limbs_Shl.l0] at H
   by_cases c14 : a5 < (a7.length : Int)
   ·rw [if_pos c14] at H;have aM := decide_eq_true c14;clear c14;replace H := dn H;obtain ⟨c15, H⟩ := H;have b6 := decide_eq_true c15;clear c15;replace H := dn H;obtain ⟨c16, H⟩ := H;have b7 := decide_eq_true c16;clear c16;generalize ai : wrap64 ((wrap64 (Int.tdiv a1 64)) + a5) = a2 at H;have hji17w : (IntKind.i64.wrap ((wrap64 (Int.tdiv a1 64)) + a5)) = a2 := (i64_w _).trans ai;replace H := dn H;obtain ⟨c18, H⟩ := H;have b8 := decide_eq_true c18;clear c18;replace H := dn H;obtain ⟨c19, H⟩ := H;have b9 := decide_eq_true c19;clear c19;generalize ac : Int.tmod a1 64 = ag at H;replace H := dn H;obtain ⟨c21, H⟩ := H;have ba := eq_true c21;have bb := decide_eq_true c21;clear c21;generalize ad : shl .u64 (rd a7 a5) (ag) = a9 at H;have hji22_ : (IntKind.u64.wrap ((rd a7 a5) * 2 ^ min (ag).toNat 64)) = a9 := ad;have hji22z : (ag) ≤ 64 → (IntKind.u64.wrap ((rd a7 a5) * 2 ^ (ag).toNat)) = a9 := shl_small ad;obtain ⟨aA, am⟩ : ∃ y_ : List Int, y_ = (a4.set ((a2) : Int).toNat (Go.bits .or .u64 (rd a4 (a2)) (a9))) := ⟨_, rfl⟩;(first | replace H := zRb am H | rw [← am] at H | skip);have aD := zA am;clear am
    by_cases c24 : (ag) > 0
    ·rw [if_pos c24] at H;have aN := decide_eq_true c24;clear c24;generalize an : wrap64 (64 - (ag)) = aq at H;have hji25w : (IntKind.i64.wrap (64 - (ag))) = aq := (i64_w _).trans an;replace H := dn H;obtain ⟨c26, H⟩ := H;have bc := eq_true c26;have bd := decide_eq_true c26;clear c26;generalize ao : shr .u64 (rd a7 a5) (aq) = ar at H;have hji27_ : ((rd a7 a5) / 2 ^ min (aq).toNat 64) = ar := ao;have hji27z : (aq) ≤ 64 → ((rd a7 a5) / 2 ^ (aq).toNat) = ar := shr_small ao;generalize ay : wrap64 ((a2) + 1) = aa at H;have hji28w : (IntKind.i64.wrap ((a2) + 1)) = aa := (i64_w _).trans ay;replace H := dn H;obtain ⟨c29, H⟩ := H;have be := decide_eq_true c29;clear c29;replace H := dn H;obtain ⟨c30, H⟩ := H;have bf := decide_eq_true c30;clear c30;obtain ⟨aI, ap⟩ : ∃ y_ : List Int, y_ = (aA.set ((aa) : Int).toNat (ar)) := ⟨_, rfl⟩;(first | replace H := zRb ap H | rw [← ap] at H | skip);have aO := zA ap;clear ap;have H' := zA H;clear H;have p687 : 0 ≤ (a5 : Int) := od;have q687 : a5 < (a7.length : Int) := od;obtain ⟨ad687, e687, aE⟩ := Kd.at_int (V_reads' a6.out).2.2 a5 p687 q687;cases e687;replace p687 := eq_true p687;replace q687 := eq_true q687
     try go_wp2
     replace a3 := zA (R_drew a3.out);replace a6 := zA (V_drew a6.out);replace HB := zA (below_drew1 HB.out);obtain ⟨bg, au, aJ⟩ := R_slice a3.out
     (first | subst aJ | (injection aJ with f1_ f2_ f3_; have f4_ := f1_.symm; have f5_ := f3_.symm; clear f1_ f2_ f3_; subst f4_; subst f5_))
     have p688 : 0 ≤ ((a2) : Int) := od;have q688 : (a2) < (a4.length : Int) := od;obtain ⟨ad688, e688, a8⟩ := Kd.at_int (R_reads' a3.out).2.2 (a2) p688 q688;cases e688;replace p688 := eq_true p688;replace q688 := eq_true q688;have p23 : 0 ≤ ((a2) : Int) := od;have q23 : ((a2) : Int) < ((a4.length : Int) : Int) := od;obtain ⟨go23, aY, av, aw, gl23, cl23, HG23⟩ := R_form a3.out (by omega)
     (first | cases av | (injection av with ea_ en_ ec_; (first | subst ea_ | (injection ea_ with ea_; subst ea_)); subst ec_; clear en_))
     have GB23 := zA aw;have GG23 := zA HG23;clear aw gl23 HG23
     (first | simp only [add_plain] at a8 | skip)
     obtain ⟨ax, hf23_0⟩ := R_celln 0 a3.out ((a2) : Int) p23 q23;replace p23 := eq_true p23;replace q23 := eq_true q23;have HP34 := R_putn a3.out ((a2) : Int) (Go.bits .or .u64 (rd a4 (a2)) (a9));rw [← aD.out] at HP34;have HQ34 := zA HP34;clear HP34;refine start_ (n := 13) (S := fun w' => w'.cell? ⟨go23, ((a2)).toNat, none⟩ = some (.int .u64 (rd a4 (a2)))) (ds := [12]) #[false, false, false, false, false, false, false, false, false, false, false, false, false] (by kernel_rfl) rfl rfl (a8) (fun hHeld => ?_); refine with_tabW limbs_Shl.tab9 limbs_Shl.bits9 (fun HT_ HW_ => ?_);generalize wr.drew = w32 at a3 a6 HB GG23 HQ34 hf23_0 ax a8 hHeld ⊢;refine pure_ (i := 0) (N := some 30) (v := ?_) (a' := ?_) #[true, false, false, false, false, false, false, false, false, false, false, false, false] rfl rfl (any_of HT_.out (by kernel_rfl)) (fun _ _ _ h => h) (Or.inl ⟨by rfl, ?_⟩) ?_ ?_;rotate_left;·intro w';go_simp;with_reducible rfl
     rotate_left;·exact zq
     refine pure_ (i := 1) (N := some 31) (v := ?_) (a' := ?_) #[true, true, false, false, false, false, false, false, false, false, false, false, false] rfl rfl (any_of HT_.out (by kernel_rfl)) (fun _ _ _ h => h) (Or.inl ⟨by rfl, ?_⟩) ?_ ?_;rotate_left;·intro w';go_simp;with_reducible rfl
     rotate_left;·exact zq
     refine pure_ (i := 2) (N := some 32) (v := ?_) (a' := ?_) #[true, true, true, false, false, false, false, false, false, false, false, false, false] rfl rfl (any_of HT_.out (by kernel_rfl)) (fun _ _ _ h => h) (Or.inl ⟨by rfl, ?_⟩) ?_ ?_;rotate_left;·intro w';go_simp;with_reducible rfl
     rotate_left;·exact zq
     refine pure_ (i := 3) (N := some 33) (v := ?_) (a' := ?_) #[true, true, true, true, false, false, false, false, false, false, false, false, false] rfl rfl (any_of HT_.out (by kernel_rfl)) (fun _ _ _ h => h) (Or.inl ⟨by rfl, ?_⟩) ?_ ?_;rotate_left;·intro w';go_simp;with_reducible rfl
     rotate_left;·exact zq
     refine pure_ (i := 4) (N := some 34) (v := ?_) (a' := ?_) #[true, true, true, true, true, false, false, false, false, false, false, false, false] rfl rfl (any_of HT_.out (by kernel_rfl)) (fun _ _ _ h => h) (Or.inl ⟨by rfl, ?_⟩) ?_ ?_;rotate_left;·intro w';go_simp;with_reducible rfl
     rotate_left;·exact zq
     refine pure_ (i := 5) (N := some 35) (v := ?_) (a' := ?_) #[true, true, true, true, true, true, false, false, false, false, false, false, false] rfl rfl (any_of HT_.out (by kernel_rfl)) (fun _ _ _ h => h) (Or.inl ⟨by rfl, ?_⟩) ?_ ?_;rotate_left;·intro w';go_simp;with_reducible rfl
     rotate_left;·exact zq
     refine pure_ (i := 7) (N := some 37) (v := ?_) (a' := ?_) #[true, true, true, true, true, true, false, true, false, false, false, false, false] rfl rfl (any_of HT_.out (by kernel_rfl)) (fun _ _ _ h => h) (Or.inl ⟨by rfl, ?_⟩) ?_ ?_;rotate_left;·intro w';go_simp;with_reducible rfl
     rotate_left;·exact zq
     refine pure_ (i := 8) (N := some 38) (v := ?_) (a' := ?_) #[true, true, true, true, true, true, false, true, true, false, false, false, false] rfl rfl (any_of HT_.out (by kernel_rfl)) (fun _ _ _ h => h) (Or.inl ⟨by rfl, ?_⟩) ?_ ?_;rotate_left;·intro w';go_simp;with_reducible rfl
     rotate_left;·exact zq
     refine pure_ (i := 9) (N := some 39) (v := ?_) (a' := ?_) #[true, true, true, true, true, true, false, true, true, true, false, false, false] rfl rfl (any_of HT_.out (by kernel_rfl)) (fun _ _ _ h => h) (Or.inl ⟨by rfl, ?_⟩) ?_ ?_;rotate_left;·intro w';go_simp;with_reducible rfl
     rotate_left;·exact zq
     refine take_ (i := 6) (N := some 36) (v := ?_) (a' := ?_) #[true, true, true, true, true, true, true, true, true, true, false, false, false] rfl rfl (take_ofW HT_.out HW_.out (by kernel_rfl)) (fun _ _ _ h => h) (Or.inl ⟨by rfl, ?_⟩) hHeld ?_ ?_;rotate_left;·intro w' s0;go_simp;with_reducible rfl
     rotate_left;·exact zq
     refine pure_ (i := 10) (N := some 40) (v := ?_) (a' := ?_) #[true, true, true, true, true, true, true, true, true, true, true, false, false] rfl rfl (any_of HT_.out (by kernel_rfl)) (fun _ _ _ h => h) (Or.inl ⟨by rfl, ?_⟩) ?_ ?_;rotate_left;·intro w';go_simp;with_reducible rfl
     rotate_left;·exact zq
     refine pure_ (i := 11) (N := some 41) (v := ?_) (a' := ?_) #[true, true, true, true, true, true, true, true, true, true, true, true, false] rfl rfl (any_of HT_.out (by kernel_rfl)) (fun _ _ _ h => h) (Or.inl ⟨by rfl, ?_⟩) ?_ ?_;rotate_left;·intro w';go_simp;with_reducible rfl
     rotate_left;·exact zq
     refine last_ (i := 12) (N := none) #[true, true, true, true, true, true, true, true, true, true, true, true, true] rfl rfl (one_of HT_.out (by kernel_rfl)) (by decide) (fun K hK => ?_);refine skip_ (w1 := ?_) (by rfl) rfl ?_ ?_;rotate_left;·go_simp;rfl
     refine hK.out _ _ ?_;clear hK K;refine done_ (done_of HT_.out (by kernel_rfl)) ?_;have n0_ : Aside0 (Kd.R (Kd.int .u64) 22 (w32.setCell ⟨go23, ((a2) : Int).toNat, none⟩ (.int .u64 (Go.bits .or .u64 (rd a4 (a2)) (a9)))) w.heap.size (fun k_ => (w.heap.size ≤ k_)) (.slice (some ⟨go23, 0, none⟩) a4.length au) aA) := ⟨ru HQ34.out⟩;have n1_ : Aside0 (Kd.V (Kd.int .u64) 22 (w32.setCell ⟨go23, ((a2) : Int).toNat, none⟩ (.int .u64 (Go.bits .or .u64 (rd a4 (a2)) (a9)))) w.heap.size (fun k_ => (P0_ k_ ∨ w.heap.size ≤ k_) ∧ some k_ ≠ (.slice (some ⟨go23, 0, none⟩) a4.length au : Value).ownBlock) (.slice (some ad687) a7.length aH) a7) := ⟨vu (V_mono (V_far (p := ⟨go23, ((a2) : Int).toNat, none⟩) (V_mono a6.out (fun k_ hk => (⟨hk, fun e_ => hk.2 (by rw [e_]; rfl)⟩ : _ ∧ k_ ≠ go23))) (fun _ hk => hk.2) (.int .u64 (Go.bits .or .u64 (rd a4 (a2)) (a9)))) (fun _ hk => ⟨hk.1.1, hk.1.2⟩))⟩;have n2_ : Aside0 (Below w.heap.size w (w32.setCell ⟨go23, ((a2) : Int).toNat, none⟩ (.int .u64 (Go.bits .or .u64 (rd a4 (a2)) (a9))))) := ⟨by repeat (first | (with_reducible first | exact HB.out | apply below_alloc | apply pw_below_drewN | apply below_drew1 | refine below_set ?_ GB23.out) | exact HB.out)⟩;(try clear a3);(try clear a6);(try clear HB);generalize (w32.setCell ⟨go23, ((a2) : Int).toNat, none⟩ (.int .u64 (Go.bits .or .u64 (rd a4 (a2)) (a9)))) = w35 at n0_ n1_ n2_ ⊢;have a3 := n0_;have a6 := n1_;have HB := n2_;clear n0_ n1_ n2_;have p31 : 0 ≤ ((aa) : Int) := od;have q31 : ((aa) : Int) < ((a4.length : Int) : Int) := od;obtain ⟨b4, hf31_0⟩ := R_celln 0 a3.out ((aa) : Int) p31 q31;replace p31 := eq_true p31;replace q31 := eq_true q31;obtain ⟨hy36_, hz36_⟩ := R_celln 0 a3.out ((aa) : Int) (od) (od);have HP36 := R_putg a3.out ((aa) : Int) ar
     try go_wp2_with (first | ((with_reducible refine gate_store (t := 22) (p := 54) rfl ?_); refine store_event (t := 22) (p := 54) (v := ?vo_w37) (w1 := (w35.setCell ⟨go23, ((aa) : Int).toNat, none⟩ (.int .u64 ar))) ?hg ?ho ?hn ?hr ?_; (case ho => rfl); (case hg => rfl); (case hn => rfl); (case hr => first | (go_simp; done) | (go_simp; rfl)); intro w37 hw; have hg : w35.grownBy w37 (some go23) := (by rw [hw]; exact HP36.2); have hp_ : Kd.R (Kd.int .u64) 22 w37 w.heap.size (fun k_ => (w.heap.size ≤ k_)) (.slice (some ⟨go23, 0, none⟩) a4.length au) aI := (by rw [hw, aO.out]; exact HP36.1); clear HP36; replace a3 := zA (hp_); replace a6 := zA (V_afterv (v := (.slice (some ⟨go23, 0, none⟩) a4.length au)) (v1 := (.slice (some ⟨go23, 0, none⟩) a4.length au)) (ok := (fun k_ => (P0_ k_ ∨ w.heap.size ≤ k_))) (vu a6.out) hg (.inl rfl)); replace HB := zA ((by rw [hw]; exact below_set (HB.out) GB23.out : Below w.heap.size w w37)); clear hg hw hp_))
     (try simp only [← ac, ← an])
     go_roundg k1
     case measure => have := HK1.out; omega
     case rel => exact ⟨(aI), (wrap64 (a5 + 1)), zi, (by first | exact H' | (simp only [ae, ai, ac, ad, an, ao, ay]; exact H') | (simp only [ae, ai, ac, ad, an, ao, ay] at H' ⊢; exact H')), ⟨by have := HK1.out; omega⟩, ⟨ru a3.out⟩, ⟨vu a6.out⟩, ⟨bq⟩⟩
    rw [if_neg c24] at H;have aN := decide_eq_false c24;clear c24;have H' := zA H;clear H;have p687 : 0 ≤ (a5 : Int) := od;have q687 : a5 < (a7.length : Int) := od;obtain ⟨ad687, e687, aE⟩ := Kd.at_int (V_reads' a6.out).2.2 a5 p687 q687;cases e687;replace p687 := eq_true p687;replace q687 := eq_true q687
    try go_wp2
    replace a3 := zA (R_drew a3.out);replace a6 := zA (V_drew a6.out);replace HB := zA (below_drew1 HB.out);obtain ⟨bh, bi, aK⟩ := R_slice a3.out
    (first | subst aK | (injection aK with f1_ f2_ f3_; have f4_ := f1_.symm; have f5_ := f3_.symm; clear f1_ f2_ f3_; subst f4_; subst f5_))
    have p688 : 0 ≤ ((a2) : Int) := od;have q688 : (a2) < (a4.length : Int) := od;obtain ⟨ad688, e688, a8⟩ := Kd.at_int (R_reads' a3.out).2.2 (a2) p688 q688;cases e688;replace p688 := eq_true p688;replace q688 := eq_true q688;have p23 : 0 ≤ ((a2) : Int) := od;have q23 : ((a2) : Int) < ((a4.length : Int) : Int) := od;obtain ⟨go23, aY, av, aw, gl23, cl23, HG23⟩ := R_form a3.out (by omega)
    (first | cases av | (injection av with ea_ en_ ec_; (first | subst ea_ | (injection ea_ with ea_; subst ea_)); subst ec_; clear en_))
    have GB23 := zA aw;have GG23 := zA HG23;clear aw gl23 HG23
    (first | simp only [add_plain] at a8 | skip)
    obtain ⟨ax, hf23_0⟩ := R_celln 0 a3.out ((a2) : Int) p23 q23;replace p23 := eq_true p23;replace q23 := eq_true q23;have HP40 := R_putn a3.out ((a2) : Int) (Go.bits .or .u64 (rd a4 (a2)) (a9));rw [← aD.out] at HP40;have HQ40 := zA HP40;clear HP40;refine start_ (n := 13) (S := fun w' => w'.cell? ⟨go23, ((a2)).toNat, none⟩ = some (.int .u64 (rd a4 (a2)))) (ds := [12]) #[false, false, false, false, false, false, false, false, false, false, false, false, false] (by kernel_rfl) rfl rfl (a8) (fun hHeld => ?_); refine with_tabW limbs_Shl.tab9 limbs_Shl.bits9 (fun HT_ HW_ => ?_);generalize wr.drew = w38 at a3 a6 HB GG23 HQ40 hf23_0 ax a8 hHeld ⊢;refine pure_ (i := 0) (N := some 30) (v := ?_) (a' := ?_) #[true, false, false, false, false, false, false, false, false, false, false, false, false] rfl rfl (any_of HT_.out (by kernel_rfl)) (fun _ _ _ h => h) (Or.inl ⟨by rfl, ?_⟩) ?_ ?_;rotate_left;·intro w';go_simp;with_reducible rfl
    rotate_left;·exact zq
    refine pure_ (i := 1) (N := some 31) (v := ?_) (a' := ?_) #[true, true, false, false, false, false, false, false, false, false, false, false, false] rfl rfl (any_of HT_.out (by kernel_rfl)) (fun _ _ _ h => h) (Or.inl ⟨by rfl, ?_⟩) ?_ ?_;rotate_left;·intro w';go_simp;with_reducible rfl
    rotate_left;·exact zq
    refine pure_ (i := 2) (N := some 32) (v := ?_) (a' := ?_) #[true, true, true, false, false, false, false, false, false, false, false, false, false] rfl rfl (any_of HT_.out (by kernel_rfl)) (fun _ _ _ h => h) (Or.inl ⟨by rfl, ?_⟩) ?_ ?_;rotate_left;·intro w';go_simp;with_reducible rfl
    rotate_left;·exact zq
    refine pure_ (i := 3) (N := some 33) (v := ?_) (a' := ?_) #[true, true, true, true, false, false, false, false, false, false, false, false, false] rfl rfl (any_of HT_.out (by kernel_rfl)) (fun _ _ _ h => h) (Or.inl ⟨by rfl, ?_⟩) ?_ ?_;rotate_left;·intro w';go_simp;with_reducible rfl
    rotate_left;·exact zq
    refine pure_ (i := 4) (N := some 34) (v := ?_) (a' := ?_) #[true, true, true, true, true, false, false, false, false, false, false, false, false] rfl rfl (any_of HT_.out (by kernel_rfl)) (fun _ _ _ h => h) (Or.inl ⟨by rfl, ?_⟩) ?_ ?_;rotate_left;·intro w';go_simp;with_reducible rfl
    rotate_left;·exact zq
    refine pure_ (i := 5) (N := some 35) (v := ?_) (a' := ?_) #[true, true, true, true, true, true, false, false, false, false, false, false, false] rfl rfl (any_of HT_.out (by kernel_rfl)) (fun _ _ _ h => h) (Or.inl ⟨by rfl, ?_⟩) ?_ ?_;rotate_left;·intro w';go_simp;with_reducible rfl
    rotate_left;·exact zq
    refine pure_ (i := 7) (N := some 37) (v := ?_) (a' := ?_) #[true, true, true, true, true, true, false, true, false, false, false, false, false] rfl rfl (any_of HT_.out (by kernel_rfl)) (fun _ _ _ h => h) (Or.inl ⟨by rfl, ?_⟩) ?_ ?_;rotate_left;·intro w';go_simp;with_reducible rfl
    rotate_left;·exact zq
    refine pure_ (i := 8) (N := some 38) (v := ?_) (a' := ?_) #[true, true, true, true, true, true, false, true, true, false, false, false, false] rfl rfl (any_of HT_.out (by kernel_rfl)) (fun _ _ _ h => h) (Or.inl ⟨by rfl, ?_⟩) ?_ ?_;rotate_left;·intro w';go_simp;with_reducible rfl
    rotate_left;·exact zq
    refine pure_ (i := 9) (N := some 39) (v := ?_) (a' := ?_) #[true, true, true, true, true, true, false, true, true, true, false, false, false] rfl rfl (any_of HT_.out (by kernel_rfl)) (fun _ _ _ h => h) (Or.inl ⟨by rfl, ?_⟩) ?_ ?_;rotate_left;·intro w';go_simp;with_reducible rfl
    rotate_left;·exact zq
    refine take_ (i := 6) (N := some 36) (v := ?_) (a' := ?_) #[true, true, true, true, true, true, true, true, true, true, false, false, false] rfl rfl (take_ofW HT_.out HW_.out (by kernel_rfl)) (fun _ _ _ h => h) (Or.inl ⟨by rfl, ?_⟩) hHeld ?_ ?_;rotate_left;·intro w' s0;go_simp;with_reducible rfl
    rotate_left;·exact zq
    refine pure_ (i := 10) (N := some 40) (v := ?_) (a' := ?_) #[true, true, true, true, true, true, true, true, true, true, true, false, false] rfl rfl (any_of HT_.out (by kernel_rfl)) (fun _ _ _ h => h) (Or.inl ⟨by rfl, ?_⟩) ?_ ?_;rotate_left;·intro w';go_simp;with_reducible rfl
    rotate_left;·exact zq
    refine pure_ (i := 11) (N := some 41) (v := ?_) (a' := ?_) #[true, true, true, true, true, true, true, true, true, true, true, true, false] rfl rfl (any_of HT_.out (by kernel_rfl)) (fun _ _ _ h => h) (Or.inl ⟨by rfl, ?_⟩) ?_ ?_;rotate_left;·intro w';go_simp;with_reducible rfl
    rotate_left;·exact zq
    refine last_ (i := 12) (N := none) #[true, true, true, true, true, true, true, true, true, true, true, true, true] rfl rfl (one_of HT_.out (by kernel_rfl)) (by decide) (fun K hK => ?_);refine skip_ (w1 := ?_) (by rfl) rfl ?_ ?_;rotate_left;·go_simp;rfl
    refine hK.out _ _ ?_;clear hK K;refine done_ (done_of HT_.out (by kernel_rfl)) ?_
    try go_wp2
    (try simp only [← ac])
    go_roundg k1
    case measure => have := HK1.out; omega
    case rel => exact ⟨(aA), (wrap64 (a5 + 1)), zi, (by first | exact H' | (simp only [ae, ai, ac, ad]; exact H') | (simp only [ae, ai, ac, ad] at H' ⊢; exact H')), ⟨by have := HK1.out; omega⟩, ⟨ru HQ40.out⟩, ⟨vu (V_mono (V_far (p := ⟨go23, ((a2) : Int).toNat, none⟩) (V_mono a6.out (fun k_ hk => (⟨hk, fun e_ => hk.2 (by rw [e_]; rfl)⟩ : _ ∧ k_ ≠ go23))) (fun _ hk => hk.2) (.int .u64 (Go.bits .or .u64 (rd a4 (a2)) (a9)))) (fun _ hk => ⟨hk.1.1, hk.1.2⟩))⟩, ⟨by repeat (first | (with_reducible first | exact HB.out | apply below_alloc | apply pw_below_drewN | apply below_drew1 | refine below_set ?_ GB23.out) | exact HB.out)⟩⟩
   rw [if_neg c14] at H;have aM := decide_eq_false c14;clear c14;obtain ⟨az, b5, H⟩ := zh H;obtain rfl := Option.some.inj H;obtain ⟨aZ, b1, b2⟩ := R_slice a3.out;subst b2
   go_wp2_with (first | ((with_reducible refine zG 59 rfl ?_); refine zC (some 57) Tryd.func59 (limbs_Trim.calls k1 (fun k_ => some k_ = (.slice aZ a4.length b1 : Value).ownBlock) _ _ a4 az _ ?ah b5.out) ?_; (case ah => exact R_V (R_tight rfl (a3.out))); rintro e w43 ⟨v692, rfl, ak, hb⟩; refine ⟨_, rfl, ?_⟩; replace a6 := zA (V_below (vu a6.out) hb); have aP := zA (V_lower (V_mono (ok' := fun k_ => (P0_ k_ ∨ w.heap.size ≤ k_)) ak (fun k_ hk_ => Or.elim hk_ (fun hs_ => (.inr (((a3.out).1 k_ hs_.symm)))) (fun hn_ => (.inr (Nat.le_trans (below_size bq) hn_))))) (below_size bq)); replace a3 := zA (R_below (ru a3.out) hb); replace HB := ze hb; (try clear ak)))
   go_ret;exact ⟨_, by first | rfl | (simp [errW_none, errW_some] <;> rfl) | (simp only [← ae]; first | rfl | (simp [errW_none, errW_some] <;> rfl)) | (simp [*, errW_none, errW_some] <;> rfl), vu aP.out, bq⟩
def raw_amounts.f (k : Nat) (a7 : Bool) (a3 : List Int) (a1 : Int) (a8 : Bool) (a4 : List Int) (a2 : Int) : Option (List Int × List Int × Int) := (limbs_Shl.f k a3 (wrap64 (a1 - (mn a1 a2)))).bind fun a5 => ((limbs_Shl.f k a4 (wrap64 (a2 - (mn a1 a2)))).bind fun a6 => (some (a5, a6, mn a1 a2)))
def raw_amounts.T2 : Bool × List (List Nat × List Nat) := (true, [([], []), ([0], [0]), ([], []), ([2], [2]), ([], []), ([3, 4], [3, 4]), ([1, 5], [1, 5]), ([], []), ([7], [7]), ([], []), ([9], [9]), ([], []), ([10, 11], [10, 11]), ([8, 12, 6], [8, 12]), ([], []), ([6, 13, 0, 1, 2, 3, 4, 5, 6], [6]), ([13, 15, 0, 1, 2, 3, 4, 5, 6, 7, 8, 9, 10, 11, 12, 13, 15], [13]), ([14, 16, 0, 1, 2, 3, 4, 5, 6, 7, 8, 9, 10, 11, 12, 13, 14, 15, 16], [14])])
def raw_amounts.B2 : List Nat := [0, 1, 0, 4, 0, 28, 63, 0, 128, 0, 512, 0, 3584, 8191, 0, 16383, 49151, 131071]
theorem raw_amounts.tab2 : rtab .any (opsOf Tryd.f54 2) = raw_amounts.T2 := by kernel_rfl
theorem raw_amounts.bits2 : waitsOk raw_amounts.T2.2 raw_amounts.B2 = true := by kernel_rfl
set_option maxHeartbeats 8000000 in
set_option maxRecDepth 100000 in
theorem raw_amounts.calls (k : Nat) (af : Bool) (P0_1_ : Nat → Prop) (ab : Option Addr) (ac : Nat) (a5 : List Int) (a7 : Int) (ag : Bool) (P1_1_ : Nat → Prop) (ad : Option Addr) (ae : Nat) (a6 : List Int) (a8 : Int) (r1 : List Int) (r2 : List Int) (r3 : Int) (w : World) (hs0_1 : Kd.V (Kd.int .u64) 22 w w.heap.size (fun k_ => P0_1_ k_) (.slice ab a5.length ac) a5) (hs1_1 : Kd.V (Kd.int .u64) 22 w w.heap.size (fun k_ => P1_1_ k_) (.slice ad a6.length ae) a6) (h : raw_amounts.f k af a5 a7 ag a6 a8 = some (r1, r2, r3)) :
  Calls Tryd.prog 54 #[.agg #[.bool af, .slice ab a5.length ac, .int .i64 a7], .agg #[.bool ag, .slice ad a6.length ae, .int .i64 a8]] w fun e w' => ∃ v0_ v1_ : Value, e = .returned (.tuple #[v0_, v1_, .int .i64 r3]) ∧ Kd.V (Kd.int .u64) 22 w' w.heap.size (fun k_ => ((P0_1_ k_ ∨ P1_1_ k_) ∨ w.heap.size ≤ k_)) v0_ r1 ∧ Kd.V (Kd.int .u64) 22 w' w.heap.size (fun k_ => ((P0_1_ k_ ∨ P1_1_ k_) ∨ w.heap.size ≤ k_)) v1_ r2 ∧ Below w.heap.size w w' := by
 have hu36 := Tryd.underlying36;have a3 := zA (show Kd.V (Kd.int .u64) 22 w w.heap.size (fun k_ => ((P0_1_ k_ ∨ P1_1_ k_) ∨ w.heap.size ≤ k_)) (.slice ab a5.length ac) a5 from V_mono hs0_1 (fun k_ hk => .inl (.inl hk)));have a4 := zA (show Kd.V (Kd.int .u64) 22 w w.heap.size (fun k_ => ((P0_1_ k_ ∨ P1_1_ k_) ∨ w.heap.size ≤ k_)) (.slice ad a6.length ae) a6 from V_mono hs1_1 (fun k_ hk => .inl (.inr hk)));have HB := zA (Below.refl w.heap.size w);have H := h
 unfold raw_amounts.f at H
 clear h;generalize ah : mn a7 a8 = ak at H;have hji3_ : (if a8 < a7 then a8 else a7) = ak := ah;obtain ⟨ap, A4, H⟩ := zh H;obtain ⟨aq, A5, H⟩ := zh H;simp only [Option.some.injEq, Prod.mk.injEq] at H;obtain ⟨rfl, rfl, rfl⟩ := H;go_enter Tryd.func54, Tryd.ntmps54
 try go_wp2_with (first | ((with_reducible refine zD 2 rfl ?_); refine zn (N := 2) (cs := #[.bool af, .slice ab a5.length ac, .int .i64 a7]) (t := 36) rfl rfl ?_; intro a9 hg w6 hbox hb; replace a3 := zA (V_below (V_elderB (vu a3.out) a9 (Nat.le_of_eq hg.symm)) hb); replace a4 := zA (V_below (V_elderB (vu a4.out) a9 (Nat.le_of_eq hg.symm)) hb); have a1 := zA (hbox); have ar := zw hg; replace HB := ze hb; clear hb hbox hg) | ((with_reducible refine zD 3 rfl ?_); refine zn (N := 3) (cs := #[.bool ag, .slice ad a6.length ae, .int .i64 a8]) (t := 36) rfl rfl ?_; intro aa hg w7 hbox hb; replace a3 := zA (V_below (V_elderB (vu a3.out) aa (Nat.le_of_eq hg.symm)) hb); replace a4 := zA (V_below (V_elderB (vu a4.out) aa (Nat.le_of_eq hg.symm)) hb); have a2 := zA (hbox); have au := zx hg; replace HB := zf hb; have al := zl a1 hg; have am := zg a1 hg; replace a1 := zb a1 hb; clear hb hbox hg; have av := al.out; have aw := am.out; obtain ⟨_, _, _, _, _, _⟩ := zc a1; obtain ⟨_, _, _, _, _, _⟩ := zc a2))
 replace a3 := zA (V_drew a3.out);replace a4 := zA (V_drew a4.out);replace a1 := zA (blk_drew a1.out);replace a2 := zA (blk_drew a2.out);replace HB := zA (below_drew1 HB.out);refine start_ (n := 18) (S := fun w' => z4 w' a9 (.bool af) (.slice ab a5.length ac) (.int .i64 a7) (z3 w' aa (.bool ag) (.slice ad a6.length ae) (.int .i64 a8))) (ds := []) #[false, false, false, false, false, false, false, false, false, false, false, false, false, false, false, false, false, false] (by kernel_rfl) rfl rfl (za a1 (zz a2)) (fun hHeld => ?_); refine with_tabW raw_amounts.tab2 raw_amounts.bits2 (fun HT_ HW_ => ?_);generalize w7.drew = w11 at a3 a4 a1 a2 HB hHeld ⊢;refine pure_ (i := 0) (N := some 13) (v := ?_) (a' := ?_) #[true, false, false, false, false, false, false, false, false, false, false, false, false, false, false, false, false, false] rfl rfl (any_of HT_.out (by kernel_rfl)) (fun _ _ _ h => h) (Or.inl ⟨by rfl, ?_⟩) ?_ ?_;rotate_left;·intro w';go_simp;with_reducible rfl
 rotate_left;·exact zq
 refine pure_ (i := 2) (N := some 15) (v := ?_) (a' := ?_) #[true, false, true, false, false, false, false, false, false, false, false, false, false, false, false, false, false, false] rfl rfl (any_of HT_.out (by kernel_rfl)) (fun _ _ _ h => h) (Or.inl ⟨by rfl, ?_⟩) ?_ ?_;rotate_left;·intro w';go_simp;with_reducible rfl
 rotate_left;·exact zq
 refine pure_ (i := 4) (N := some 17) (v := ?_) (a' := ?_) #[true, false, true, false, true, false, false, false, false, false, false, false, false, false, false, false, false, false] rfl rfl (any_of HT_.out (by kernel_rfl)) (fun _ _ _ h => h) (Or.inl ⟨by rfl, ?_⟩) ?_ ?_;rotate_left;·intro w';go_simp;with_reducible rfl
 rotate_left;·exact zq
 refine pure_ (i := 7) (N := some 20) (v := ?_) (a' := ?_) #[true, false, true, false, true, false, false, true, false, false, false, false, false, false, false, false, false, false] rfl rfl (any_of HT_.out (by kernel_rfl)) (fun _ _ _ h => h) (Or.inl ⟨by rfl, ?_⟩) ?_ ?_;rotate_left;·intro w';go_simp;with_reducible rfl
 rotate_left;·exact zq
 refine pure_ (i := 9) (N := some 22) (v := ?_) (a' := ?_) #[true, false, true, false, true, false, false, true, false, true, false, false, false, false, false, false, false, false] rfl rfl (any_of HT_.out (by kernel_rfl)) (fun _ _ _ h => h) (Or.inl ⟨by rfl, ?_⟩) ?_ ?_;rotate_left;·intro w';go_simp;with_reducible rfl
 rotate_left;·exact zq
 refine pure_ (i := 11) (N := some 24) (v := ?_) (a' := ?_) #[true, false, true, false, true, false, false, true, false, true, false, true, false, false, false, false, false, false] rfl rfl (any_of HT_.out (by kernel_rfl)) (fun _ _ _ h => h) (Or.inl ⟨by rfl, ?_⟩) ?_ ?_;rotate_left;·intro w';go_simp;with_reducible rfl
 rotate_left;·exact zq
 refine pure_ (i := 14) (N := some 27) (v := ?_) (a' := ?_) #[true, false, true, false, true, false, false, true, false, true, false, true, false, false, true, false, false, false] rfl rfl (any_of HT_.out (by kernel_rfl)) (fun _ _ _ h => h) (Or.inl ⟨by rfl, ?_⟩) ?_ ?_;rotate_left;·intro w';go_simp;with_reducible rfl
 rotate_left;·exact zq
 refine take_ (i := 1) (N := some 14) (v := ?_) (a' := ?_) #[true, true, true, false, true, false, false, true, false, true, false, true, false, false, true, false, false, false] rfl rfl (take_ofW HT_.out HW_.out (by kernel_rfl)) (fun _ _ _ h => h) (Or.inl ⟨by rfl, ?_⟩) hHeld ?_ ?_;rotate_left;·rintro w' ⟨s0, s1, s2, s3, s4, s5⟩;go_simp;with_reducible rfl
 rotate_left;·exact zq
 refine take_ (i := 3) (N := some 16) (v := ?_) (a' := ?_) #[true, true, true, true, true, false, false, true, false, true, false, true, false, false, true, false, false, false] rfl rfl (take_ofW HT_.out HW_.out (by kernel_rfl)) (fun _ _ _ h => h) (Or.inl ⟨by rfl, ?_⟩) hHeld ?_ ?_;rotate_left;·rintro w' ⟨s0, s1, s2, s3, s4, s5⟩;go_simp;with_reducible rfl
 rotate_left;·exact zq
 refine pure_ (i := 5) (N := some 18) (v := ?_) (a' := ?_) #[true, true, true, true, true, true, false, true, false, true, false, true, false, false, true, false, false, false] rfl rfl (any_of HT_.out (by kernel_rfl)) (fun _ _ _ h => h) (Or.inl ⟨by rfl, ?_⟩) ?_ ?_;rotate_left;·intro w';go_simp;with_reducible rfl
 rotate_left;·exact zq
 refine take_ (i := 8) (N := some 21) (v := ?_) (a' := ?_) #[true, true, true, true, true, true, false, true, true, true, false, true, false, false, true, false, false, false] rfl rfl (take_ofW HT_.out HW_.out (by kernel_rfl)) (fun _ _ _ h => h) (Or.inl ⟨by rfl, ?_⟩) hHeld ?_ ?_;rotate_left;·rintro w' ⟨s0, s1, s2, s3, s4, s5⟩;go_simp;with_reducible rfl
 rotate_left;·exact zq
 refine take_ (i := 10) (N := some 23) (v := ?_) (a' := ?_) #[true, true, true, true, true, true, false, true, true, true, true, true, false, false, true, false, false, false] rfl rfl (take_ofW HT_.out HW_.out (by kernel_rfl)) (fun _ _ _ h => h) (Or.inl ⟨by rfl, ?_⟩) hHeld ?_ ?_;rotate_left;·rintro w' ⟨s0, s1, s2, s3, s4, s5⟩;go_simp;with_reducible rfl
 rotate_left;·exact zq
 refine pure_ (i := 12) (N := some 25) (v := ?_) (a' := ?_) #[true, true, true, true, true, true, false, true, true, true, true, true, true, false, true, false, false, false] rfl rfl (any_of HT_.out (by kernel_rfl)) (fun _ _ _ h => h) (Or.inl ⟨by rfl, ?_⟩) ?_ ?_;rotate_left;·intro w';go_simp;with_reducible rfl
 rotate_left;·exact zq
 refine one_ (i := 6) (N := some 19) #[true, true, true, true, true, true, true, true, true, true, true, true, true, false, true, false, false, false] rfl rfl (one_of HT_.out (by kernel_rfl)) (by decide) (fun K hK => ?_);refine goes_ Tryd.func78 (by kernel_rfl) rfl #[.slice ab a5.length ac, .int .i64 (wrap64 (a7 - (ak)))] (by rfl) rfl rfl (by (try simp only [List.map_toArray, List.map_cons, List.map_nil]); first | done | (simp only [ah]; rfl) | rfl | (simp only [List.length_drop, List.length_take]; rfl)) ?_
 with_reducible refine (limbs_Shl.calls k (fun k_ => ((((P0_1_ k_ ∨ P1_1_ k_) ∨ w.heap.size ≤ k_) ∧ k_ ≠ a9) ∧ k_ ≠ aa)) _ _ a5 (wrap64 (a7 - (ak))) ap _ ?ai A4.out).mono ?_
 (case ai => exact a3.out);rintro e w12 ⟨v697, rfl, an, hb⟩;refine ⟨_, rfl, ?_⟩;replace a3 := zA (V_below (vu a3.out) hb);replace a4 := zA (V_below (vu a4.out) hb);have aj := zA (V_lower (V_mono (ok' := fun k_ => ((P0_1_ k_ ∨ P1_1_ k_) ∨ w.heap.size ≤ k_) ∧ k_ ≠ a9 ∧ k_ ≠ aa) an (fun k_ hk_ => ⟨Or.elim hk_ (fun hs_ => hs_.1.1) (fun hn_ => (.inr (Nat.le_trans (below_size zs) hn_))), Or.elim hk_ (fun hs_ => hs_.1.2) (fun hn_ => (zj a1 k_ hn_)), Or.elim hk_ (fun hs_ => hs_.2) (fun hn_ => (zj a2 k_ hn_))⟩)) (below_size zs));replace a1 := zb a1 hb;replace a2 := zb a2 hb;replace HB := zf hb;(try clear hb);(try clear hb2);(try clear hk);(try clear hi);(try clear an);refine hK.out _ _ (za a1 (zz a2)) (fun hHeld => ?_);clear hK K;refine norm_ (a' := ?_) ?_ ?_;rotate_left;·show Act.put _ (some 19) _ = _;exact zq
 refine one_ (i := 13) (N := some 26) #[true, true, true, true, true, true, true, true, true, true, true, true, true, true, true, false, false, false] rfl rfl (one_of HT_.out (by kernel_rfl)) (by decide) (fun K hK => ?_);refine goes_ Tryd.func78 (by kernel_rfl) rfl #[.slice ad a6.length ae, .int .i64 (wrap64 (a8 - (ak)))] (by rfl) rfl rfl (by (try simp only [List.map_toArray, List.map_cons, List.map_nil]); first | done | (simp only [ah]; rfl) | rfl | (simp only [List.length_drop, List.length_take]; rfl)) ?_
 with_reducible refine (limbs_Shl.calls k (fun k_ => ((((P0_1_ k_ ∨ P1_1_ k_) ∨ w.heap.size ≤ k_) ∧ k_ ≠ a9) ∧ k_ ≠ aa)) _ _ a6 (wrap64 (a8 - (ak))) aq _ ?ai A5.out).mono ?_
 (case ai => exact a4.out);rintro e w13 ⟨v700, rfl, an, hb⟩;refine ⟨_, rfl, ?_⟩;replace a3 := zA (V_below (vu a3.out) hb);replace a4 := zA (V_below (vu a4.out) hb);replace aj := zA (V_below (vu aj.out) hb);have ao := zA (V_lower (V_mono (ok' := fun k_ => ((P0_1_ k_ ∨ P1_1_ k_) ∨ w.heap.size ≤ k_) ∧ k_ ≠ a9 ∧ k_ ≠ aa) an (fun k_ hk_ => ⟨Or.elim hk_ (fun hs_ => hs_.1.1) (fun hn_ => (.inr (Nat.le_trans (below_size zs) hn_))), Or.elim hk_ (fun hs_ => hs_.1.2) (fun hn_ => (zj a1 k_ hn_)), Or.elim hk_ (fun hs_ => hs_.2) (fun hn_ => (zj a2 k_ hn_))⟩)) (below_size zs));replace a1 := zb a1 hb;replace a2 := zb a2 hb;replace HB := zf hb;(try clear hb);(try clear hb2);(try clear hk);(try clear hi);(try clear an);refine hK.out _ _ (za a1 (zz a2)) (fun hHeld => ?_);clear hK K;refine norm_ (a' := ?_) ?_ ?_;rotate_left;·show Act.put _ (some 26) _ = _;exact zq
 refine pure_ (i := 15) (N := some 4) (v := ?_) (a' := ?_) #[true, true, true, true, true, true, true, true, true, true, true, true, true, true, true, true, false, false] rfl rfl (any_of HT_.out (by kernel_rfl)) (fun _ _ _ h => h) (Or.inl ⟨by rfl, ?_⟩) ?_ ?_;rotate_left;·intro w';go_simp;with_reducible rfl
 rotate_left;·exact zq
 refine pure_ (i := 16) (N := some 5) (v := ?_) (a' := ?_) #[true, true, true, true, true, true, true, true, true, true, true, true, true, true, true, true, true, false] rfl rfl (any_of HT_.out (by kernel_rfl)) (fun _ _ _ h => h) (Or.inl ⟨by rfl, ?_⟩) ?_ ?_;rotate_left;·intro w';go_simp;with_reducible rfl
 rotate_left;·exact zq
 refine pure_ (i := 17) (N := some 6) (v := ?_) (a' := ?_) #[true, true, true, true, true, true, true, true, true, true, true, true, true, true, true, true, true, true] rfl rfl (any_of HT_.out (by kernel_rfl)) (fun _ _ _ h => h) (Or.inl ⟨by rfl, ?_⟩) ?_ ?_;rotate_left;·intro w';go_simp;with_reducible rfl
 rotate_left;·exact zq
 refine done_ (done_of HT_.out (by kernel_rfl)) ?_
 try go_wp2
 go_ret3
 exact ⟨_, _, by first | rfl | (simp [errW_none, errW_some] <;> rfl) | (simp only [← ah]; first | rfl | (simp [errW_none, errW_some] <;> rfl)) | (simp [*, errW_none, errW_some] <;> rfl), vu (V_mono aj.out (fun _ hk => hk.1)), vu (V_mono ao.out (fun _ hk => hk.1)), zs⟩
mutual
def limbs_Add.l0 : Nat → List Int → List Int → List Int → Int → Int → Int → Option (List Int)
 | 0, _, _, _, _, _, _ => none
 | k + 1, x0, x1, x5, x6, x21, x22 => if x22 < x21 then (if x22 < (x1.length : Int) then (if 0 ≤ x22 then (if x22 < (x0.length : Int) then (if x6 ≤ 1 then (if x22 < (x5.length : Int) then (limbs_Add.l0 k x0 x1 (x5.set (x22 : Int).toNat (add64s (rd x0 x22) (rd x1 x22) x6)) (add64c (rd x0 x22) (rd x1 x22) x6) x21 (wrap64 (x22 + 1))) else (none)) else (none)) else (none)) else (none)) else (if 0 ≤ x22 then (if x22 < (x0.length : Int) then (if x6 ≤ 1 then (if x22 < (x5.length : Int) then (limbs_Add.l0 k x0 x1 (x5.set (x22 : Int).toNat (add64s (rd x0 x22) 0 x6)) (add64c (rd x0 x22) 0 x6) x21 (wrap64 (x22 + 1))) else (none)) else (none)) else (none)) else (none))) else (if 0 ≤ (x0.length : Int) then (if (x0.length : Int) < (x5.length : Int) then ((limbs_Trim.f k (x5.set ((x0.length : Int) : Int).toNat x6)).bind fun a1 => (some a1)) else (none)) else (none))
def limbs_Add.l100 : Nat → List Int → List Int → List Int → Int → Int → Int → Option (List Int)
 | 0, _, _, _, _, _, _ => none
 | k + 1, x0, x1, x5, x6, x21, x22 => if x22 < x21 then (if x22 < (x1.length : Int) then (if 0 ≤ x22 then (if x22 < (x0.length : Int) then (if x6 ≤ 1 then (if x22 < (x5.length : Int) then (limbs_Add.l100 k x0 x1 (x5.set (x22 : Int).toNat (add64s (rd x0 x22) (rd x1 x22) x6)) (add64c (rd x0 x22) (rd x1 x22) x6) x21 (wrap64 (x22 + 1))) else (none)) else (none)) else (none)) else (none)) else (if 0 ≤ x22 then (if x22 < (x0.length : Int) then (if x6 ≤ 1 then (if x22 < (x5.length : Int) then (limbs_Add.l100 k x0 x1 (x5.set (x22 : Int).toNat (add64s (rd x0 x22) 0 x6)) (add64c (rd x0 x22) 0 x6) x21 (wrap64 (x22 + 1))) else (none)) else (none)) else (none)) else (none))) else (if 0 ≤ (x0.length : Int) then (if (x0.length : Int) < (x5.length : Int) then ((limbs_Trim.f k (x5.set ((x0.length : Int) : Int).toNat x6)).bind fun a1 => (some a1)) else (none)) else (none))
end
def limbs_Add.f (k : Nat) (l0 : List Int) (l1 : List Int) : Option (List Int) := if (l0.length : Int) < (l1.length : Int) then (if 0 ≤ (wrap64 ((l1.length : Int) + 1)) then (if (wrap64 ((l1.length : Int) + 1) : Int).toNat ≤ 35184372088832 then (limbs_Add.l0 k l1 l0 (List.replicate (wrap64 ((l1.length : Int) + 1) : Int).toNat 0) 0 (l1.length : Int) 0) else (none)) else (none)) else (if 0 ≤ (wrap64 ((l0.length : Int) + 1)) then (if (wrap64 ((l0.length : Int) + 1) : Int).toNat ≤ 35184372088832 then (limbs_Add.l100 k l0 l1 (List.replicate (wrap64 ((l0.length : Int) + 1) : Int).toNat 0) 0 (l0.length : Int) 0) else (none)) else (none))
set_option maxHeartbeats 8000000 in
set_option maxRecDepth 100000 in
theorem limbs_Add.calls (k : Nat) (A0 : Option Addr) (c0 : Nat) (l0 : List Int) (A1 : Option Addr) (c1 : Nat) (l1 : List Int) (r : List Int) (w : World) (hr0 : Kd.C (Kd.int .u64) w A0 l0.length l0) (hc0 : l0.length ≤ c0) (hr1 : Kd.C (Kd.int .u64) w A1 l1.length l1) (hc1 : l1.length ≤ c1) (h : limbs_Add.f k l0 l1 = some r) :
  Calls Tryd.prog 55 #[.slice A0 l0.length c0, .slice A1 l1.length c1] w fun e w' => ∃ v0_ : Value, e = .returned (v0_) ∧ Kd.V (Kd.int .u64) 22 w' w.heap.size (fun k_ => (w.heap.size ≤ k_)) v0_ r ∧ Below w.heap.size w w' := by
 have aE := zA hr0;have c2 := zA hc0;clear hr0 hc0;have aF := zA hr1;have c4 := zA hc1;clear hr1 hc1;have HB := zA (Below.refl w.heap.size w);have H := h
 unfold limbs_Add.f at H
 clear h
 by_cases c3 : (l0.length : Int) < (l1.length : Int)
 ·rw [if_pos c3] at H;have av := decide_eq_true c3;have aw : decide (l0.length < l1.length) = true := decide_eq_true (Int.ofNat_lt.mp c3);clear c3;generalize a9 : wrap64 ((l1.length : Int) + 1) = aA at H;have hji4w : (IntKind.i64.wrap ((l1.length : Int) + 1)) = aA := (i64_w _).trans a9;replace H := dn H;obtain ⟨c5, H⟩ := H;have aG := eq_true c5;have aH := decide_eq_true c5;clear c5;replace H := dn H;obtain ⟨c6, H⟩ := H;have aI := eq_true c6;have aJ := decide_eq_true c6;clear c6;obtain ⟨bB, ad⟩ : ∃ y_ : List Int, y_ = (List.replicate (aA : Int).toNat 0) := ⟨_, rfl⟩;(first | replace H := zRb ad H | rw [← ad] at H | skip);have aB := zA ad;clear ad;have H' := zA H;clear H;go_enter Tryd.func55, Tryd.ntmps55
  go_wp2_with (first | ((with_reducible refine zD 19 rfl ?_); refine R_make (Kd.int .u64) _ 22 rfl (N := 19) rfl 33 _ _ rfl aA rfl rfl Tryd.underlying33 (.int .u64 0) 8 info22 rfl (by decide) (by omega) 0 (ok := fun _ => True) (okp := fun _ => True) rfl (fun _ hk => hk) trivial (od) (Nat.le_trans (Nat.mul_le_mul_right _ (od : aA.toNat ≤ 35184372088832)) (by omega)) (Below.refl _ _) (Nat.le_refl _) ?_; intro v703 w7 aq hb hg_ hnew_; clear hg_ hnew_; (first | rw [← aB.out] at aq | (simp only [Int.reduceToNat] at aq; rw [← aB.out] at aq)); have b4 := zA (R_lower (R_newM (M := fun k_ => (w.heap.size ≤ k_)) aq (below_size bq) (fun k_ h_ => h_)) (below_size bq)); replace HB := ze hb; clear hb aq))
  go_loopg [6, 22] k (fun kq v6 v22 w' => ∃ (a3 : List Int) (a4 : Int) (a1 : Int), v6 = .int .u64 a4 ∧ v22 = .int .i64 a1 ∧ Aside0 (limbs_Add.l0 kq l1 l0 a3 a4 (l1.length : Int) a1 = some r) ∧ Aside0 (kq ≤ k) ∧ Aside0 (Kd.R (Kd.int .u64) 22 w' w.heap.size (fun k_ => (w.heap.size ≤ k_)) v703 a3) ∧ Aside0 (Below w.heap.size w w'))
  case atStart => exact ⟨(bB), (0), (0), zi, zi, H', ⟨Nat.le_refl _⟩, ⟨ru (R_mono b4.out (fun _ hk => hk.1))⟩, ⟨bq⟩⟩
  case round =>
   clear H'
   try clear c1
   try clear c3
   try clear av
   try clear aw
   try clear c5
   try clear aG
   try clear aH
   try clear c6
   try clear aI
   try clear aJ
   obtain ⟨a3, a4, a1, rfl, rfl, HA, HK1, a2, HB⟩ := hrel
   cases gk with
   | zero => exact absurd HA.out (by simp [limbs_Add.l0])
   | succ k1 =>
    have H := HA.out;clear HA;simp only [limbs_Add.l0] at H
    by_cases c9 : a1 < (l1.length : Int)
    ·rw [if_pos c9] at H;have aK := decide_eq_true c9;clear c9
     by_cases c10 : a1 < (l0.length : Int)
     ·rw [if_pos c10] at H;have aC := decide_eq_true c10;clear c10;replace H := dn H;obtain ⟨c11, H⟩ := H;have b5 := decide_eq_true c11;clear c11;replace H := dn H;obtain ⟨c12, H⟩ := H;have b6 := decide_eq_true c12;clear c12;replace H := dn H;obtain ⟨c13, H⟩ := H;have b7 := eq_true c13;have b8 := decide_eq_true c13;clear c13;replace H := dn H;obtain ⟨c14, H⟩ := H;have b9 := decide_eq_true c14;clear c14;obtain ⟨aL, ae⟩ : ∃ y_ : List Int, y_ = (a3.set (a1 : Int).toNat (add64s (rd l1 a1) (rd l0 a1) a4)) := ⟨_, rfl⟩;(first | replace H := zRb ae H | rw [← ae] at H | skip);have ba := zA ae;clear ae;have H' := zA H;clear H;have p705 : 0 ≤ (a1 : Int) := od;have q705 : a1 < (l0.length : Int) := od;obtain ⟨ad705, e705, a5⟩ := Kd.at_int aE.out a1 p705 q705;cases e705;replace a5 := (HB.out.cell (World.block_lt_of_cell? w _ a5)).trans a5;replace p705 := eq_true p705;replace q705 := eq_true q705;have p706 : 0 ≤ (a1 : Int) := od;have q706 : a1 < (l1.length : Int) := od;obtain ⟨ad706, e706, a6⟩ := Kd.at_int aF.out a1 p706 q706;cases e706;replace a6 := (HB.out.cell (World.block_lt_of_cell? w _ a6)).trans a6;replace p706 := eq_true p706;replace q706 := eq_true q706;have p15 : 0 ≤ (a1 : Int) := od;have q15 : (a1 : Int) < ((a3.length : Int) : Int) := od;obtain ⟨go15, bC, aM, aN, gl15, cl15, HG15⟩ := R_form a2.out (by omega)
      (first | cases aM | (injection aM with ea_ en_ ec_; (first | subst ea_ | (injection ea_ with ea_; subst ea_)); subst ec_; clear en_))
      have GB15 := zA aN;have GG15 := zA HG15;clear aN gl15 HG15;obtain ⟨aO, hf15_0⟩ := R_celln 0 a2.out (a1 : Int) p15 q15;replace p15 := eq_true p15;replace q15 := eq_true q15;have HP16 := R_putg a2.out (a1 : Int) (add64s (rd l1 a1) (rd l0 a1) a4)
      go_wp2_with (first | ((with_reducible refine gate_store (t := 22) (p := 45) rfl ?_); refine store_event (t := 22) (p := 45) (v := ?vo_w17) (w1 := (wr.setCell ⟨go15, (a1 : Int).toNat, none⟩ (.int .u64 (add64s (rd l1 a1) (rd l0 a1) a4)))) ?hg ?ho ?hn ?hr ?_; (case ho => rfl); (case hg => rfl); (case hn => rfl); (case hr => first | (go_simp; done) | (go_simp; rfl)); intro w17 hw; have hg : wr.grownBy w17 (some go15) := (by rw [hw]; exact HP16.2); have hp_ : Kd.R (Kd.int .u64) 22 w17 w.heap.size (fun k_ => (w.heap.size ≤ k_)) (.slice (some ⟨go15, 0, none⟩) a3.length bC) aL := (by rw [hw, ba.out]; exact HP16.1); clear HP16; replace a2 := zA (hp_); replace HB := zA ((by rw [hw]; exact below_set (HB.out) GB15.out : Below w.heap.size w w17)); clear hg hw hp_))
      go_roundg k1
      case measure => have := HK1.out; omega
      case rel => exact ⟨(aL), (add64c (rd l1 a1) (rd l0 a1) a4), (wrap64 (a1 + 1)), zi, zi, (by first | exact H' | (simp only [a9]; exact H') | (simp only [a9] at H' ⊢; exact H')), ⟨by have := HK1.out; omega⟩, ⟨ru a2.out⟩, ⟨bq⟩⟩
     rw [if_neg c10] at H;have aC := decide_eq_false c10;clear c10;replace H := dn H;obtain ⟨c18, H⟩ := H;have bb := decide_eq_true c18;clear c18;replace H := dn H;obtain ⟨c19, H⟩ := H;have bc := decide_eq_true c19;clear c19;replace H := dn H;obtain ⟨c20, H⟩ := H;have bd := eq_true c20;have be := decide_eq_true c20;clear c20;replace H := dn H;obtain ⟨c21, H⟩ := H;have bf := decide_eq_true c21;clear c21;obtain ⟨aP, af⟩ : ∃ y_ : List Int, y_ = (a3.set (a1 : Int).toNat (add64s (rd l1 a1) 0 a4)) := ⟨_, rfl⟩;(first | replace H := zRb af H | rw [← af] at H | skip);have bg := zA af;clear af;have H' := zA H;clear H;have p708 : 0 ≤ (a1 : Int) := od;have q708 : a1 < (l1.length : Int) := od;obtain ⟨ad708, e708, a7⟩ := Kd.at_int aF.out a1 p708 q708;cases e708;replace a7 := (HB.out.cell (World.block_lt_of_cell? w _ a7)).trans a7;replace p708 := eq_true p708;replace q708 := eq_true q708;have p22 : 0 ≤ (a1 : Int) := od;have q22 : (a1 : Int) < ((a3.length : Int) : Int) := od;obtain ⟨go22, bD, aQ, aR, gl22, cl22, HG22⟩ := R_form a2.out (by omega)
     (first | cases aQ | (injection aQ with ea_ en_ ec_; (first | subst ea_ | (injection ea_ with ea_; subst ea_)); subst ec_; clear en_))
     have GB22 := zA aR;have GG22 := zA HG22;clear aR gl22 HG22;obtain ⟨aS, hf22_0⟩ := R_celln 0 a2.out (a1 : Int) p22 q22;replace p22 := eq_true p22;replace q22 := eq_true q22;have HP23 := R_putg a2.out (a1 : Int) (add64s (rd l1 a1) 0 a4)
     go_wp2_with (first | ((with_reducible refine gate_store (t := 22) (p := 45) rfl ?_); refine store_event (t := 22) (p := 45) (v := ?vo_w24) (w1 := (wr.setCell ⟨go22, (a1 : Int).toNat, none⟩ (.int .u64 (add64s (rd l1 a1) 0 a4)))) ?hg ?ho ?hn ?hr ?_; (case ho => rfl); (case hg => rfl); (case hn => rfl); (case hr => first | (go_simp; done) | (go_simp; rfl)); intro w24 hw; have hg : wr.grownBy w24 (some go22) := (by rw [hw]; exact HP23.2); have hp_ : Kd.R (Kd.int .u64) 22 w24 w.heap.size (fun k_ => (w.heap.size ≤ k_)) (.slice (some ⟨go22, 0, none⟩) a3.length bD) aP := (by rw [hw, bg.out]; exact HP23.1); clear HP23; replace a2 := zA (hp_); replace HB := zA ((by rw [hw]; exact below_set (HB.out) GB22.out : Below w.heap.size w w24)); clear hg hw hp_))
     go_roundg k1
     case measure => have := HK1.out; omega
     case rel => exact ⟨(aP), (add64c (rd l1 a1) 0 a4), (wrap64 (a1 + 1)), zi, zi, (by first | exact H' | (simp only [a9]; exact H') | (simp only [a9] at H' ⊢; exact H')), ⟨by have := HK1.out; omega⟩, ⟨ru a2.out⟩, ⟨bq⟩⟩
    rw [if_neg c9] at H;have aK := decide_eq_false c9;clear c9;replace H := dn H;obtain ⟨c25, H⟩ := H;have bh := decide_eq_true c25;have bi : decide (0 ≤ l1.length) = true := decide_eq_true (by omega);clear c25;replace H := dn H;obtain ⟨c26, H⟩ := H;have bj := decide_eq_true c26;have bk : decide (l1.length < a3.length) = true := decide_eq_true (Int.ofNat_lt.mp c26);clear c26;obtain ⟨al, ag⟩ : ∃ y_ : List Int, y_ = (a3.set ((l1.length : Int) : Int).toNat a4) := ⟨_, rfl⟩;(first | replace H := zRb ag H | rw [← ag] at H | skip);have bl := zA ag;clear ag;obtain ⟨bE, bJ, H⟩ := zh H;obtain rfl := Option.some.inj H;have p27 : 0 ≤ ((l1.length : Int) : Int) := od;have q27 : ((l1.length : Int) : Int) < ((a3.length : Int) : Int) := od;obtain ⟨go27, ax, aT, aU, gl27, cl27, HG27⟩ := R_form a2.out (by omega)
    (first | cases aT | (injection aT with ea_ en_ ec_; (first | subst ea_ | (injection ea_ with ea_; subst ea_)); subst ec_; clear en_))
    have GB27 := zA aU;have GG27 := zA HG27;clear aU gl27 HG27;obtain ⟨ar, hf27_0⟩ := R_celln 0 a2.out ((l1.length : Int) : Int) p27 q27;(try simp only [Int.toNat_natCast] at ar hf27_0);replace p27 := eq_true p27;replace q27 := eq_true q27;have HP29 := R_putg a2.out ((l1.length : Int) : Int) a4
    go_wp2_with (first | ((with_reducible refine gate_store (t := 22) (p := 51) rfl ?_); refine store_event (t := 22) (p := 51) (v := ?vo_w30) (w1 := (wr.setCell ⟨go27, ((l1.length : Int) : Int).toNat, none⟩ (.int .u64 a4))) ?hg ?ho ?hn ?hr ?_; (case ho => rfl); (case hg => rfl); (case hn => rfl); (case hr => first | (go_simp; done) | (go_simp; rfl)); intro w30 hw; have hg : wr.grownBy w30 (some go27) := (by rw [hw]; exact HP29.2); have hp_ : Kd.R (Kd.int .u64) 22 w30 w.heap.size (fun k_ => (w.heap.size ≤ k_)) (.slice (some ⟨go27, 0, none⟩) a3.length ax) al := (by rw [hw, bl.out]; exact HP29.1); clear HP29; replace a2 := zA (hp_); replace HB := zA ((by rw [hw]; exact below_set (HB.out) GB27.out : Below w.heap.size w w30)); clear hg hw hp_) | ((with_reducible refine zG 59 rfl ?_); refine goesL_ (some 53) rfl rfl Tryd.func59 (by kernel_rfl) rfl #[.slice (some ⟨go27, 0, none⟩) al.length ax] rfl (by (try simp only [List.map_toArray, List.map_cons, List.map_nil]); first | done | (rw [show al.length = a3.length from (R_reads' a2.out).1.symm] <;> rfl) | rfl | (simp only [List.length_drop, List.length_take]; rfl)) ?_; (with_reducible refine (limbs_Trim.calls k1 (fun k_ => some k_ = (.slice (some ⟨go27, 0, none⟩) a3.length ax : Value).ownBlock) _ _ al bE _ ?ao bJ.out).mono ?_); (case ao => rw [show al.length = a3.length from (R_reads' a2.out).1.symm]; exact R_V (R_tight rfl (a2.out))); rintro e w31 ⟨v712, rfl, au, hb⟩; refine ⟨_, rfl, ?_⟩; have bm := zA (V_lower (V_mono (ok' := fun k_ => (w.heap.size ≤ k_)) au (fun k_ hk_ => Or.elim hk_ (fun hs_ => ((a2.out).1 k_ hs_.symm)) (fun hn_ => (Nat.le_trans (below_size bq) hn_)))) (below_size bq)); replace a2 := zA (R_below (ru a2.out) hb); replace HB := ze hb; (try clear au)))
    go_ret;exact ⟨_, by first | rfl | (simp [errW_none, errW_some] <;> rfl) | (simp only [← a9]; first | rfl | (simp [errW_none, errW_some] <;> rfl)) | (simp [*, errW_none, errW_some] <;> rfl), vu bm.out, bq⟩
 rw [if_neg c3] at H;have av := decide_eq_false c3;have aw : decide (l0.length < l1.length) = false := decide_eq_false (fun h => c3 (Int.ofNat_lt.mpr h));clear c3;generalize a8 : wrap64 ((l0.length : Int) + 1) = ap at H;have hji32w : (IntKind.i64.wrap ((l0.length : Int) + 1)) = ap := (i64_w _).trans a8;replace H := dn H;obtain ⟨c33, H⟩ := H;have bn := eq_true c33;have bo := decide_eq_true c33;clear c33;replace H := dn H;obtain ⟨c34, H⟩ := H;have bp := eq_true c34;have br := decide_eq_true c34;clear c34;obtain ⟨bF, ah⟩ : ∃ y_ : List Int, y_ = (List.replicate (ap : Int).toNat 0) := ⟨_, rfl⟩;(first | replace H := zRb ah H | rw [← ah] at H | skip);have aD := zA ah;clear ah;have H' := zA H;clear H;go_enter Tryd.func55, Tryd.ntmps55
 go_wp2_with (first | ((with_reducible refine zD 19 rfl ?_); refine R_make (Kd.int .u64) _ 22 rfl (N := 19) rfl 33 _ _ rfl ap rfl rfl Tryd.underlying33 (.int .u64 0) 8 info22 rfl (by decide) (by omega) 0 (ok := fun _ => True) (okp := fun _ => True) rfl (fun _ hk => hk) trivial (od) (Nat.le_trans (Nat.mul_le_mul_right _ (od : ap.toNat ≤ 35184372088832)) (by omega)) (Below.refl _ _) (Nat.le_refl _) ?_; intro v715 w35 am hb hg_ hnew_; clear hg_ hnew_; (first | rw [← aD.out] at am | (simp only [Int.reduceToNat] at am; rw [← aD.out] at am)); have bs := zA (R_lower (R_newM (M := fun k_ => (w.heap.size ≤ k_)) am (below_size bq) (fun k_ h_ => h_)) (below_size bq)); replace HB := ze hb; clear hb am))
 go_loopg [6, 22] k (fun kq v6 v22 w' => ∃ (a3 : List Int) (a4 : Int) (a1 : Int), v6 = .int .u64 a4 ∧ v22 = .int .i64 a1 ∧ Aside0 (limbs_Add.l100 kq l0 l1 a3 a4 (l0.length : Int) a1 = some r) ∧ Aside0 (kq ≤ k) ∧ Aside0 (Kd.R (Kd.int .u64) 22 w' w.heap.size (fun k_ => (w.heap.size ≤ k_)) v715 a3) ∧ Aside0 (Below w.heap.size w w'))
 case atStart => exact ⟨(bF), (0), (0), zi, zi, H', ⟨Nat.le_refl _⟩, ⟨ru (R_mono bs.out (fun _ hk => hk.1))⟩, ⟨bq⟩⟩
 case round =>
  clear H'
  try clear c1
  try clear c3
  try clear av
  try clear aw
  try clear c5
  try clear aG
  try clear aH
  try clear c6
  try clear aI
  try clear aJ
  try clear c9
  try clear aK
  try clear c10
  try clear aC
  try clear c11
  try clear b5
  try clear c12
  try clear b6
  try clear c13
  try clear b7
  try clear b8
  try clear c14
  try clear b9
  try clear p15
  try clear q15
  try clear c18
  try clear bb
  try clear c19
  try clear bc
  try clear c20
  try clear bd
  try clear be
  try clear c21
  try clear bf
  try clear p22
  try clear q22
  try clear c25
  try clear bh
  try clear bi
  try clear c26
  try clear bj
  try clear bk
  try clear p27
  try clear q27
  try clear c33
  try clear bn
  try clear bo
  try clear c34
  try clear bp
  try clear br
  try clear aO
  try clear aS
  try clear ar
  try clear a5
  try clear a6
  try clear a7
  try clear p15
  try clear p22
  try clear p27
  try clear p705
  try clear p706
  try clear p708
  try clear q15
  try clear q22
  try clear q27
  try clear q705
  try clear q706
  try clear q708
  obtain ⟨a3, a4, a1, rfl, rfl, HA, HK1, a2, HB⟩ := hrel
  cases gk with
  | zero => exact absurd HA.out (by simp [limbs_Add.l100])
  | succ k1 =>
   have H := HA.out;clear HA;simp only [limbs_Add.l100] at H
   by_cases c37 : a1 < (l0.length : Int)
   ·rw [if_pos c37] at H;have bt := decide_eq_true c37;clear c37
    by_cases c38 : a1 < (l1.length : Int)
    ·rw [if_pos c38] at H;have bu := decide_eq_true c38;clear c38;replace H := dn H;obtain ⟨c39, H⟩ := H;have bN := decide_eq_true c39;clear c39;replace H := dn H;obtain ⟨c40, H⟩ := H;have bO := decide_eq_true c40;clear c40;replace H := dn H;obtain ⟨c41, H⟩ := H;have bP := eq_true c41;have bQ := decide_eq_true c41;clear c41;replace H := dn H;obtain ⟨c42, H⟩ := H;have bR := decide_eq_true c42;clear c42;obtain ⟨aV, ai⟩ : ∃ y_ : List Int, y_ = (a3.set (a1 : Int).toNat (add64s (rd l0 a1) (rd l1 a1) a4)) := ⟨_, rfl⟩;(first | replace H := zRb ai H | rw [← ai] at H | skip);have bv := zA ai;clear ai;have H' := zA H;clear H;have p717 : 0 ≤ (a1 : Int) := od;have q717 : a1 < (l1.length : Int) := od;obtain ⟨ad717, e717, aa⟩ := Kd.at_int aF.out a1 p717 q717;cases e717;replace aa := (HB.out.cell (World.block_lt_of_cell? w _ aa)).trans aa;replace p717 := eq_true p717;replace q717 := eq_true q717;have p718 : 0 ≤ (a1 : Int) := od;have q718 : a1 < (l0.length : Int) := od;obtain ⟨ad718, e718, ab⟩ := Kd.at_int aE.out a1 p718 q718;cases e718;replace ab := (HB.out.cell (World.block_lt_of_cell? w _ ab)).trans ab;replace p718 := eq_true p718;replace q718 := eq_true q718;have p43 : 0 ≤ (a1 : Int) := od;have q43 : (a1 : Int) < ((a3.length : Int) : Int) := od;obtain ⟨go43, bG, aW, aX, gl43, cl43, HG43⟩ := R_form a2.out (by omega)
     (first | cases aW | (injection aW with ea_ en_ ec_; (first | subst ea_ | (injection ea_ with ea_; subst ea_)); subst ec_; clear en_))
     have GB43 := zA aX;have GG43 := zA HG43;clear aX gl43 HG43;obtain ⟨bK, hf43_0⟩ := R_celln 0 a2.out (a1 : Int) p43 q43;replace p43 := eq_true p43;replace q43 := eq_true q43;have HP44 := R_putg a2.out (a1 : Int) (add64s (rd l0 a1) (rd l1 a1) a4)
     go_wp2_with (first | ((with_reducible refine gate_store (t := 22) (p := 45) rfl ?_); refine store_event (t := 22) (p := 45) (v := ?vo_w45) (w1 := (wr.setCell ⟨go43, (a1 : Int).toNat, none⟩ (.int .u64 (add64s (rd l0 a1) (rd l1 a1) a4)))) ?hg ?ho ?hn ?hr ?_; (case ho => rfl); (case hg => rfl); (case hn => rfl); (case hr => first | (go_simp; done) | (go_simp; rfl)); intro w45 hw; have hg : wr.grownBy w45 (some go43) := (by rw [hw]; exact HP44.2); have hp_ : Kd.R (Kd.int .u64) 22 w45 w.heap.size (fun k_ => (w.heap.size ≤ k_)) (.slice (some ⟨go43, 0, none⟩) a3.length bG) aV := (by rw [hw, bv.out]; exact HP44.1); clear HP44; replace a2 := zA (hp_); replace HB := zA ((by rw [hw]; exact below_set (HB.out) GB43.out : Below w.heap.size w w45)); clear hg hw hp_))
     go_roundg k1
     case measure => have := HK1.out; omega
     case rel => exact ⟨(aV), (add64c (rd l0 a1) (rd l1 a1) a4), (wrap64 (a1 + 1)), zi, zi, (by first | exact H' | (simp only [a8]; exact H') | (simp only [a8] at H' ⊢; exact H')), ⟨by have := HK1.out; omega⟩, ⟨ru a2.out⟩, ⟨bq⟩⟩
    rw [if_neg c38] at H;have bu := decide_eq_false c38;clear c38;replace H := dn H;obtain ⟨c46, H⟩ := H;have bS := decide_eq_true c46;clear c46;replace H := dn H;obtain ⟨c47, H⟩ := H;have bT := decide_eq_true c47;clear c47;replace H := dn H;obtain ⟨c48, H⟩ := H;have bU := eq_true c48;have bV := decide_eq_true c48;clear c48;replace H := dn H;obtain ⟨c49, H⟩ := H;have bW := decide_eq_true c49;clear c49;obtain ⟨aY, aj⟩ : ∃ y_ : List Int, y_ = (a3.set (a1 : Int).toNat (add64s (rd l0 a1) 0 a4)) := ⟨_, rfl⟩;(first | replace H := zRb aj H | rw [← aj] at H | skip);have bw := zA aj;clear aj;have H' := zA H;clear H;have p720 : 0 ≤ (a1 : Int) := od;have q720 : a1 < (l0.length : Int) := od;obtain ⟨ad720, e720, ac⟩ := Kd.at_int aE.out a1 p720 q720;cases e720;replace ac := (HB.out.cell (World.block_lt_of_cell? w _ ac)).trans ac;replace p720 := eq_true p720;replace q720 := eq_true q720;have p50 : 0 ≤ (a1 : Int) := od;have q50 : (a1 : Int) < ((a3.length : Int) : Int) := od;obtain ⟨go50, bH, az, aZ, gl50, cl50, HG50⟩ := R_form a2.out (by omega)
    (first | cases az | (injection az with ea_ en_ ec_; (first | subst ea_ | (injection ea_ with ea_; subst ea_)); subst ec_; clear en_))
    have GB50 := zA aZ;have GG50 := zA HG50;clear aZ gl50 HG50;obtain ⟨bL, hf50_0⟩ := R_celln 0 a2.out (a1 : Int) p50 q50;replace p50 := eq_true p50;replace q50 := eq_true q50;have HP51 := R_putg a2.out (a1 : Int) (add64s (rd l0 a1) 0 a4)
    go_wp2_with (first | ((with_reducible refine gate_store (t := 22) (p := 45) rfl ?_); refine store_event (t := 22) (p := 45) (v := ?vo_w52) (w1 := (wr.setCell ⟨go50, (a1 : Int).toNat, none⟩ (.int .u64 (add64s (rd l0 a1) 0 a4)))) ?hg ?ho ?hn ?hr ?_; (case ho => rfl); (case hg => rfl); (case hn => rfl); (case hr => first | (go_simp; done) | (go_simp; rfl)); intro w52 hw; have hg : wr.grownBy w52 (some go50) := (by rw [hw]; exact HP51.2); have hp_ : Kd.R (Kd.int .u64) 22 w52 w.heap.size (fun k_ => (w.heap.size ≤ k_)) (.slice (some ⟨go50, 0, none⟩) a3.length bH) aY := (by rw [hw, bw.out]; exact HP51.1); clear HP51; replace a2 := zA (hp_); replace HB := zA ((by rw [hw]; exact below_set (HB.out) GB50.out : Below w.heap.size w w52)); clear hg hw hp_))
    go_roundg k1
    case measure => have := HK1.out; omega
    case rel => exact ⟨(aY), (add64c (rd l0 a1) 0 a4), (wrap64 (a1 + 1)), zi, zi, (by first | exact H' | (simp only [a8]; exact H') | (simp only [a8] at H' ⊢; exact H')), ⟨by have := HK1.out; omega⟩, ⟨ru a2.out⟩, ⟨bq⟩⟩
   rw [if_neg c37] at H;have bt := decide_eq_false c37;clear c37;replace H := dn H;obtain ⟨c53, H⟩ := H;have bX := decide_eq_true c53;have bY : decide (0 ≤ l0.length) = true := decide_eq_true (by omega);clear c53;replace H := dn H;obtain ⟨c54, H⟩ := H;have bz := decide_eq_true c54;have bZ : decide (l0.length < a3.length) = true := decide_eq_true (Int.ofNat_lt.mp c54);clear c54;obtain ⟨an, ak⟩ : ∃ y_ : List Int, y_ = (a3.set ((l0.length : Int) : Int).toNat a4) := ⟨_, rfl⟩;(first | replace H := zRb ak H | rw [← ak] at H | skip);have bx := zA ak;clear ak;obtain ⟨bI, bM, H⟩ := zh H;obtain rfl := Option.some.inj H;have p55 : 0 ≤ ((l0.length : Int) : Int) := od;have q55 : ((l0.length : Int) : Int) < ((a3.length : Int) : Int) := od;obtain ⟨go55, ay, b1, b2, gl55, cl55, HG55⟩ := R_form a2.out (by omega)
   (first | cases b1 | (injection b1 with ea_ en_ ec_; (first | subst ea_ | (injection ea_ with ea_; subst ea_)); subst ec_; clear en_))
   have GB55 := zA b2;have GG55 := zA HG55;clear b2 gl55 HG55;obtain ⟨b3, hf55_0⟩ := R_celln 0 a2.out ((l0.length : Int) : Int) p55 q55;(try simp only [Int.toNat_natCast] at b3 hf55_0);replace p55 := eq_true p55;replace q55 := eq_true q55;have HP57 := R_putg a2.out ((l0.length : Int) : Int) a4
   go_wp2_with (first | ((with_reducible refine gate_store (t := 22) (p := 51) rfl ?_); refine store_event (t := 22) (p := 51) (v := ?vo_w58) (w1 := (wr.setCell ⟨go55, ((l0.length : Int) : Int).toNat, none⟩ (.int .u64 a4))) ?hg ?ho ?hn ?hr ?_; (case ho => rfl); (case hg => rfl); (case hn => rfl); (case hr => first | (go_simp; done) | (go_simp; rfl)); intro w58 hw; have hg : wr.grownBy w58 (some go55) := (by rw [hw]; exact HP57.2); have hp_ : Kd.R (Kd.int .u64) 22 w58 w.heap.size (fun k_ => (w.heap.size ≤ k_)) (.slice (some ⟨go55, 0, none⟩) a3.length ay) an := (by rw [hw, bx.out]; exact HP57.1); clear HP57; replace a2 := zA (hp_); replace HB := zA ((by rw [hw]; exact below_set (HB.out) GB55.out : Below w.heap.size w w58)); clear hg hw hp_) | ((with_reducible refine zG 59 rfl ?_); refine goesL_ (some 53) rfl rfl Tryd.func59 (by kernel_rfl) rfl #[.slice (some ⟨go55, 0, none⟩) an.length ay] rfl (by (try simp only [List.map_toArray, List.map_cons, List.map_nil]); first | done | (rw [show an.length = a3.length from (R_reads' a2.out).1.symm] <;> rfl) | rfl | (simp only [List.length_drop, List.length_take]; rfl)) ?_; (with_reducible refine (limbs_Trim.calls k1 (fun k_ => some k_ = (.slice (some ⟨go55, 0, none⟩) a3.length ay : Value).ownBlock) _ _ an bI _ ?ao bM.out).mono ?_); (case ao => rw [show an.length = a3.length from (R_reads' a2.out).1.symm]; exact R_V (R_tight rfl (a2.out))); rintro e w59 ⟨v724, rfl, au, hb⟩; refine ⟨_, rfl, ?_⟩; have bA := zA (V_lower (V_mono (ok' := fun k_ => (w.heap.size ≤ k_)) au (fun k_ hk_ => Or.elim hk_ (fun hs_ => ((a2.out).1 k_ hs_.symm)) (fun hn_ => (Nat.le_trans (below_size bq) hn_)))) (below_size bq)); replace a2 := zA (R_below (ru a2.out) hb); replace HB := ze hb; (try clear au)))
   go_ret;exact ⟨_, by first | rfl | (simp [errW_none, errW_some] <;> rfl) | (simp only [← a8]; first | rfl | (simp [errW_none, errW_some] <;> rfl)) | (simp [*, errW_none, errW_some] <;> rfl), vu bA.out, bq⟩
end Go.Proofs.YtjnfipkbgmdpaaaDoor.PAll
