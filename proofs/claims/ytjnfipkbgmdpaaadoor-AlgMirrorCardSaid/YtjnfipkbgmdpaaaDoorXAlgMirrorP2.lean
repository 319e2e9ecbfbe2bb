/- Printed functions, merged by a program of this session. -/
import Derived.Test.YtjnfipkbgmdpaaaDoorXAlgMirrorP0
import Derived.Test.YtjnfipkbgmdpaaaDoorXAlgMirrorP1
import Derived.Test.YtjnfipkbgmdpaaaDoorXAlgMirrorSh
namespace Go.Proofs.YtjnfipkbgmdpaaaDoor.PAll
open Go.RowKit Go.Proofs.YtjnfipkbgmdpaaaDoorW.PrintWords Go.Proofs.YtjnfipkbgmdpaaaDoorW.PrintLast Go.Proofs.YtjnfipkbgmdpaaaDoorW.PrintMore Go.Proofs.YtjnfipkbgmdpaaaDoorW.PrintWords.Kd
attribute [local go_sem] max2_int min2_int max_two min_two max_three min_three max_four min_four   -- for this text's walks alone
set_option linter.unusedVariables false
set_option linter.unusedSimpArgs false
attribute [local go_sem] ext75 ext76
def nat_number_shl.l0 : Nat → Int → Int → List Int → List Int → Int → Int → Option (List Int)
 | 0, _, _, _, _, _, _ => none
 | k + 1, x5, x6, x7, x23, x24, x25 => if x25 < x24 then (if 0 ≤ x25 then (if x25 < (x23.length : Int) then (if 0 ≤ (wrap64 (x25 + x5)) then (if (wrap64 (x25 + x5)) < (x7.length : Int) then (if 0 ≤ x6 then ((some (x7.set ((wrap64 (x25 + x5)) : Int).toNat (Go.bits .or .u64 (rd x7 (wrap64 (x25 + x5))) (shl .u64 (rd x23 x25) x6)) : List Int)).bind fun a1 => (if x6 > 0 then (if 0 ≤ (wrap64 (64 - x6)) then (if 0 ≤ (wrap64 ((wrap64 (x25 + x5)) + 1)) then (if (wrap64 ((wrap64 (x25 + x5)) + 1)) < (x7.length : Int) then (nat_number_shl.l0 k x5 x6 (a1.set ((wrap64 ((wrap64 (x25 + x5)) + 1)) : Int).toNat (shr .u64 (rd x23 x25) (wrap64 (64 - x6)))) x23 x24 (wrap64 (x25 + 1))) else (none)) else (none)) else (none)) else (nat_number_shl.l0 k x5 x6 a1 x23 x24 (wrap64 (x25 + 1))))) else (none)) else (none)) else (none)) else (none)) else (none)) else ((nat_norm.f k x7).bind fun a2 => (some a2))
def nat_number_shl.f (k : Nat) (l0 : List Int) (a1 : Int) : Option (List Int) := if (l0.length : Int) = 0 then (some ([] : List Int)) else (if 0 ≤ (wrap64 ((wrap64 ((l0.length : Int) + (wrap64 (Int.tdiv a1 64)))) + 1)) then (if (wrap64 ((wrap64 ((l0.length : Int) + (wrap64 (Int.tdiv a1 64)))) + 1) : Int).toNat ≤ 35184372088832 then (nat_number_shl.l0 k (wrap64 (Int.tdiv a1 64)) (Int.tmod a1 64) (List.replicate (wrap64 ((wrap64 ((l0.length : Int) + (wrap64 (Int.tdiv a1 64)))) + 1) : Int).toNat 0) l0 (l0.length : Int) 0) else (none)) else (none))
def nat_number_shl.T8 : Bool × List (List Nat × List Nat) := (true, [([], []), ([], []), ([], []), ([1, 2], [1, 2]), ([0, 3], [0, 3]), ([4], [4]), ([], []), ([], []), ([6, 7], [6, 7]), ([5, 8], [5, 8]), ([0, 3, 0, 1, 2, 3, 4, 5, 6, 7, 8, 9], [0, 3]), ([10, 9, 0, 1, 2, 3, 4, 5, 6, 7, 8, 9], [9, 10])])
def nat_number_shl.B8 : List Nat := [0, 0, 0, 6, 15, 31, 0, 0, 192, 511, 1023, 2047]
theorem nat_number_shl.tab8 : rtab .any (opsOf Tryd.f37 8) = nat_number_shl.T8 := by kernel_rfl
theorem nat_number_shl.bits8 : waitsOk nat_number_shl.T8.2 nat_number_shl.B8 = true := by kernel_rfl
set_option maxHeartbeats 8000000 in
set_option maxRecDepth 100000 in
theorem nat_number_shl.calls (k : Nat) (A0 : Option Addr) (c0 : Nat) (l0 : List Int) (a1 : Int) (r : List Int) (w : World) (hr0 : Kd.C (Kd.int .u64) w A0 l0.length l0) (hc0 : l0.length ≤ c0) (h : nat_number_shl.f k l0 a1 = some r) :
  Calls Tryd.prog 37 #[.slice A0 l0.length c0, .int .i64 a1] w fun e w' => ∃ v0_ : Value, e = .returned (v0_) ∧ Kd.V (Kd.int .u64) 22 w' w.heap.size (fun k_ => (w.heap.size ≤ k_)) v0_ r ∧ Below w.heap.size w w' := by
 have aJ := zA hr0;have bc := zA hc0;clear hr0 hc0;have HB := zA (Below.refl w.heap.size w);have H := h
 unfold nat_number_shl.f at H
 clear h
 by_cases c3 : (l0.length : Int) = 0
 ·rw [if_pos c3] at H;have ax := beq_iff_eq.mpr c3;have ay := bne_eq_false_iff_eq.mpr c3;clear c3;obtain rfl := Option.some.inj H;go_enter Tryd.func37, Tryd.ntmps37
  go_wp2
  go_ret;exact ⟨_, er, V_nil _ _ _ _ _, bq⟩
 rw [if_neg c3] at H;have ax := beq_eq_false_iff_ne.mpr c3;have ay := bne_iff_ne.mpr c3
 have aL : ¬ (l0 = []) := fun h_ => c3 (by rw [h_]; rfl)
 generalize ae : wrap64 ((wrap64 ((l0.length : Int) + (wrap64 (Int.tdiv a1 64)))) + 1) = au at H;have hji4w : (IntKind.i64.wrap ((wrap64 ((l0.length : Int) + (wrap64 (Int.tdiv a1 64)))) + 1)) = au := (i64_w _).trans ae;replace H := dn H;obtain ⟨c5, H⟩ := H;have aM := eq_true c5;have aN := decide_eq_true c5;clear c5;replace H := dn H;obtain ⟨c6, H⟩ := H;have aO := eq_true c6;have aP := decide_eq_true c6;clear c6;obtain ⟨aQ, af⟩ : ∃ y_ : List Int, y_ = (List.replicate (au : Int).toNat 0) := ⟨_, rfl⟩;(first | replace H := zRb af H | rw [← af] at H | skip);have av := zA af;clear af;have H' := zA H;clear H;go_enter Tryd.func37, Tryd.ntmps37
 go_wp2_with (first | ((with_reducible refine zD 22 rfl ?_); refine R_make (Kd.int .u64) _ 22 rfl (N := 22) rfl 58 _ _ rfl au rfl rfl Tryd.underlying58 (.int .u64 0) 8 info22 rfl (by decide) (by omega) 0 (ok := fun _ => True) (okp := fun _ => True) rfl (fun _ hk => hk) trivial (od) (Nat.le_trans (Nat.mul_le_mul_right _ (od : au.toNat ≤ 35184372088832)) (by omega)) (Below.refl _ _) (Nat.le_refl _) ?_; intro v184 w7 aq hb hg_ hnew_; clear hg_ hnew_; (first | rw [← av.out] at aq | (simp only [Int.reduceToNat] at aq; rw [← av.out] at aq)); have aE := zA (R_lower (R_newM (M := fun k_ => (w.heap.size ≤ k_)) aq (below_size bq) (fun k_ h_ => h_)) (below_size bq)); replace HB := ze hb; clear hb aq))
 go_loopg [25] k (fun kq v25 w' => ∃ (a5 : List Int) (a4 : Int), v25 = .int .i64 a4 ∧ Aside0 (nat_number_shl.l0 kq (wrap64 (Int.tdiv a1 64)) (Int.tmod a1 64) a5 l0 (l0.length : Int) a4 = some r) ∧ Aside0 (kq ≤ k) ∧ Aside0 (Kd.R (Kd.int .u64) 22 w' w.heap.size (fun k_ => (w.heap.size ≤ k_)) v184 a5) ∧ Aside0 (Below w.heap.size w w'))
 case atStart => exact ⟨(aQ), (0), zi, H', ⟨Nat.le_refl _⟩, ⟨ru (R_mono aE.out (fun _ hk => hk.1))⟩, ⟨bq⟩⟩
 case round =>
  clear H'
  try clear c3
  try clear ax
  try clear ay
  try clear aL
  try clear c5
  try clear aM
  try clear aN
  try clear c6
  try clear aO
  try clear aP
  obtain ⟨a5, a4, rfl, HA, HK1, a3, HB⟩ := hrel
  cases gk with
  | zero => exact absurd HA.out (by simp [nat_number_shl.l0])
  | succ k1 =>
   have H := HA.out;clear HA;simp only [nat_number_shl.l0] at H
   by_cases c9 : a4 < (l0.length : Int)
   ·rw [if_pos c9] at H;have aR := decide_eq_true c9;clear c9;replace H := dn H;obtain ⟨c10, H⟩ := H;have az := decide_eq_true c10;clear c10;replace H := dn H;obtain ⟨c11, H⟩ := H;have aZ := decide_eq_true c11;clear c11;generalize ad : wrap64 (a4 + (wrap64 (Int.tdiv a1 64))) = a2 at H;have hji12w : (IntKind.i64.wrap (a4 + (wrap64 (Int.tdiv a1 64)))) = a2 := (i64_w _).trans ad;replace H := dn H;obtain ⟨c13, H⟩ := H;have b1 := decide_eq_true c13;clear c13;replace H := dn H;obtain ⟨c14, H⟩ := H;have b2 := decide_eq_true c14;clear c14;generalize aa : Int.tmod a1 64 = ac at H;replace H := dn H;obtain ⟨c16, H⟩ := H;have b3 := eq_true c16;have b4 := decide_eq_true c16;clear c16;generalize ab : shl .u64 (rd l0 a4) (ac) = a8 at H;have hji17_ : (IntKind.u64.wrap ((rd l0 a4) * 2 ^ min (ac).toNat 64)) = a8 := ab;have hji17z : (ac) ≤ 64 → (IntKind.u64.wrap ((rd l0 a4) * 2 ^ (ac).toNat)) = a8 := shl_small ab;obtain ⟨ar, ag⟩ : ∃ y_ : List Int, y_ = (a5.set ((a2) : Int).toNat (Go.bits .or .u64 (rd a5 (a2)) (a8))) := ⟨_, rfl⟩;(first | replace H := zRb ag H | rw [← ag] at H | skip);have aw := zA ag;clear ag
    by_cases c19 : (ac) > 0
    ·rw [if_pos c19] at H;have aF := decide_eq_true c19;clear c19;generalize ah : wrap64 (64 - (ac)) = ak at H;have hji20w : (IntKind.i64.wrap (64 - (ac))) = ak := (i64_w _).trans ah;replace H := dn H;obtain ⟨c21, H⟩ := H;have b5 := eq_true c21;have b6 := decide_eq_true c21;clear c21;generalize ai : shr .u64 (rd l0 a4) (ak) = al at H;have hji22_ : ((rd l0 a4) / 2 ^ min (ak).toNat 64) = al := ai;have hji22z : (ak) ≤ 64 → ((rd l0 a4) / 2 ^ (ak).toNat) = al := shr_small ai;generalize ap : wrap64 ((a2) + 1) = a9 at H;have hji23w : (IntKind.i64.wrap ((a2) + 1)) = a9 := (i64_w _).trans ap;replace H := dn H;obtain ⟨c24, H⟩ := H;have b7 := decide_eq_true c24;clear c24;replace H := dn H;obtain ⟨c25, H⟩ := H;have b8 := decide_eq_true c25;clear c25;obtain ⟨aA, aj⟩ : ∃ y_ : List Int, y_ = (ar.set ((a9) : Int).toNat (al)) := ⟨_, rfl⟩;(first | replace H := zRb aj H | rw [← aj] at H | skip);have aG := zA aj;clear aj;have H' := zA H;clear H;have p186 : 0 ≤ (a4 : Int) := od;have q186 : a4 < (l0.length : Int) := od;obtain ⟨ad186, e186, a6⟩ := Kd.at_int aJ.out a4 p186 q186;cases e186;replace a6 := (HB.out.cell (World.block_lt_of_cell? w _ a6)).trans a6;replace p186 := eq_true p186;replace q186 := eq_true q186
     try go_wp2
     replace a3 := zA (R_drew a3.out);replace HB := zA (below_drew1 HB.out);obtain ⟨b9, aB, aC⟩ := R_slice a3.out
     (first | subst aC | (injection aC with f1_ f2_ f3_; have f4_ := f1_.symm; have f5_ := f3_.symm; clear f1_ f2_ f3_; subst f4_; subst f5_))
     have p187 : 0 ≤ ((a2) : Int) := od;have q187 : (a2) < (a5.length : Int) := od;obtain ⟨ad187, e187, a7⟩ := Kd.at_int (R_reads' a3.out).2.2 (a2) p187 q187;cases e187;replace p187 := eq_true p187;replace q187 := eq_true q187;have p18 : 0 ≤ ((a2) : Int) := od;have q18 : ((a2) : Int) < ((a5.length : Int) : Int) := od;obtain ⟨go18, aS, am, an, gl18, cl18, HG18⟩ := R_form a3.out (by omega)
     (first | cases am | (injection am with ea_ en_ ec_; (first | subst ea_ | (injection ea_ with ea_; subst ea_)); subst ec_; clear en_))
     have GB18 := zA an;have GG18 := zA HG18;clear an gl18 HG18
     (first | simp only [add_plain] at a7 | skip)
     obtain ⟨ao, hf18_0⟩ := R_celln 0 a3.out ((a2) : Int) p18 q18;replace p18 := eq_true p18;replace q18 := eq_true q18;have HP29 := R_putn a3.out ((a2) : Int) (Go.bits .or .u64 (rd a5 (a2)) (a8));rw [← aw.out] at HP29;have HQ29 := zA HP29;clear HP29;refine start_ (n := 12) (S := fun w' => w'.cell? ⟨go18, ((a2)).toNat, none⟩ = some (.int .u64 (rd a5 (a2)))) (ds := [11]) #[false, false, false, false, false, false, false, false, false, false, false, false] (by kernel_rfl) rfl rfl (a7) (fun hHeld => ?_); refine with_tabW nat_number_shl.tab8 nat_number_shl.bits8 (fun HT_ HW_ => ?_);generalize wr.drew = w27 at a3 HB GG18 HQ29 hf18_0 a7 ao hHeld ⊢;refine pure_ (i := 0) (N := some 30) (v := ?_) (a' := ?_) #[true, false, false, false, false, false, false, false, false, false, false, false] rfl rfl (any_of HT_.out (by kernel_rfl)) (fun _ _ _ h => h) (Or.inl ⟨by rfl, ?_⟩) ?_ ?_;rotate_left;·intro w';go_simp;with_reducible rfl
     rotate_left;·exact zq
     refine pure_ (i := 1) (N := some 31) (v := ?_) (a' := ?_) #[true, true, false, false, false, false, false, false, false, false, false, false] rfl rfl (any_of HT_.out (by kernel_rfl)) (fun _ _ _ h => h) (Or.inl ⟨by rfl, ?_⟩) ?_ ?_;rotate_left;·intro w';go_simp;with_reducible rfl
     rotate_left;·exact zq
     refine pure_ (i := 2) (N := some 32) (v := ?_) (a' := ?_) #[true, true, true, false, false, false, false, false, false, false, false, false] rfl rfl (any_of HT_.out (by kernel_rfl)) (fun _ _ _ h => h) (Or.inl ⟨by rfl, ?_⟩) ?_ ?_;rotate_left;·intro w';go_simp;with_reducible rfl
     rotate_left;·exact zq
     refine pure_ (i := 3) (N := some 33) (v := ?_) (a' := ?_) #[true, true, true, true, false, false, false, false, false, false, false, false] rfl rfl (any_of HT_.out (by kernel_rfl)) (fun _ _ _ h => h) (Or.inl ⟨by rfl, ?_⟩) ?_ ?_;rotate_left;·intro w';go_simp;with_reducible rfl
     rotate_left;·exact zq
     refine pure_ (i := 4) (N := some 34) (v := ?_) (a' := ?_) #[true, true, true, true, true, false, false, false, false, false, false, false] rfl rfl (any_of HT_.out (by kernel_rfl)) (fun _ _ _ h => h) (Or.inl ⟨by rfl, ?_⟩) ?_ ?_;rotate_left;·intro w';go_simp;with_reducible rfl
     rotate_left;·exact zq
     refine pure_ (i := 6) (N := some 36) (v := ?_) (a' := ?_) #[true, true, true, true, true, false, true, false, false, false, false, false] rfl rfl (any_of HT_.out (by kernel_rfl)) (fun _ _ _ h => h) (Or.inl ⟨by rfl, ?_⟩) ?_ ?_;rotate_left;·intro w';go_simp;with_reducible rfl
     rotate_left;·exact zq
     refine pure_ (i := 7) (N := some 37) (v := ?_) (a' := ?_) #[true, true, true, true, true, false, true, true, false, false, false, false] rfl rfl (any_of HT_.out (by kernel_rfl)) (fun _ _ _ h => h) (Or.inl ⟨by rfl, ?_⟩) ?_ ?_;rotate_left;·intro w';go_simp;with_reducible rfl
     rotate_left;·exact zq
     refine pure_ (i := 8) (N := some 38) (v := ?_) (a' := ?_) #[true, true, true, true, true, false, true, true, true, false, false, false] rfl rfl (any_of HT_.out (by kernel_rfl)) (fun _ _ _ h => h) (Or.inl ⟨by rfl, ?_⟩) ?_ ?_;rotate_left;·intro w';go_simp;with_reducible rfl
     rotate_left;·exact zq
     refine take_ (i := 5) (N := some 35) (v := ?_) (a' := ?_) #[true, true, true, true, true, true, true, true, true, false, false, false] rfl rfl (take_ofW HT_.out HW_.out (by kernel_rfl)) (fun _ _ _ h => h) (Or.inl ⟨by rfl, ?_⟩) hHeld ?_ ?_;rotate_left;·intro w' s0;go_simp;with_reducible rfl
     rotate_left;·exact zq
     refine pure_ (i := 9) (N := some 39) (v := ?_) (a' := ?_) #[true, true, true, true, true, true, true, true, true, true, false, false] rfl rfl (any_of HT_.out (by kernel_rfl)) (fun _ _ _ h => h) (Or.inl ⟨by rfl, ?_⟩) ?_ ?_;rotate_left;·intro w';go_simp;with_reducible rfl
     rotate_left;·exact zq
     refine pure_ (i := 10) (N := some 40) (v := ?_) (a' := ?_) #[true, true, true, true, true, true, true, true, true, true, true, false] rfl rfl (any_of HT_.out (by kernel_rfl)) (fun _ _ _ h => h) (Or.inl ⟨by rfl, ?_⟩) ?_ ?_;rotate_left;·intro w';go_simp;with_reducible rfl
     rotate_left;·exact zq
     refine last_ (i := 11) (N := none) #[true, true, true, true, true, true, true, true, true, true, true, true] rfl rfl (one_of HT_.out (by kernel_rfl)) (by decide) (fun K hK => ?_);refine skip_ (w1 := ?_) (by rfl) rfl ?_ ?_;rotate_left;·go_simp;rfl
     refine hK.out _ _ ?_;clear hK K;refine done_ (done_of HT_.out (by kernel_rfl)) ?_;have n0_ : Aside0 (Kd.R (Kd.int .u64) 22 (w27.setCell ⟨go18, ((a2) : Int).toNat, none⟩ (.int .u64 (Go.bits .or .u64 (rd a5 (a2)) (a8)))) w.heap.size (fun k_ => (w.heap.size ≤ k_)) (.slice (some ⟨go18, 0, none⟩) a5.length aB) ar) := ⟨ru HQ29.out⟩;have n1_ : Aside0 (Below w.heap.size w (w27.setCell ⟨go18, ((a2) : Int).toNat, none⟩ (.int .u64 (Go.bits .or .u64 (rd a5 (a2)) (a8))))) := ⟨by repeat (first | (with_reducible first | exact HB.out | apply below_alloc | apply pw_below_drewN | apply below_drew1 | refine below_set ?_ GB18.out) | exact HB.out)⟩;(try clear a3);(try clear HB);generalize (w27.setCell ⟨go18, ((a2) : Int).toNat, none⟩ (.int .u64 (Go.bits .or .u64 (rd a5 (a2)) (a8)))) = w30 at n0_ n1_ ⊢;have a3 := n0_;have HB := n1_;clear n0_ n1_;have p26 : 0 ≤ ((a9) : Int) := od;have q26 : ((a9) : Int) < ((a5.length : Int) : Int) := od;obtain ⟨aX, hf26_0⟩ := R_celln 0 a3.out ((a9) : Int) p26 q26;replace p26 := eq_true p26;replace q26 := eq_true q26;obtain ⟨hy31_, hz31_⟩ := R_celln 0 a3.out ((a9) : Int) (od) (od);have HP31 := R_putg a3.out ((a9) : Int) al
     try go_wp2_with (first | ((with_reducible refine gate_store (t := 22) (p := 52) rfl ?_); refine store_event (t := 22) (p := 52) (v := ?vo_w32) (w1 := (w30.setCell ⟨go18, ((a9) : Int).toNat, none⟩ (.int .u64 al))) ?hg ?ho ?hn ?hr ?_; (case ho => rfl); (case hg => rfl); (case hn => rfl); (case hr => first | (go_simp; done) | (go_simp; rfl)); intro w32 hw; have hg : w30.grownBy w32 (some go18) := (by rw [hw]; exact HP31.2); have hp_ : Kd.R (Kd.int .u64) 22 w32 w.heap.size (fun k_ => (w.heap.size ≤ k_)) (.slice (some ⟨go18, 0, none⟩) a5.length aB) aA := (by rw [hw, aG.out]; exact HP31.1); clear HP31; replace a3 := zA (hp_); replace HB := zA ((by rw [hw]; exact below_set (HB.out) GB18.out : Below w.heap.size w w32)); clear hg hw hp_))
     (try simp only [← aa, ← ah])
     go_roundg k1
     case measure => have := HK1.out; omega
     case rel => exact ⟨(aA), (wrap64 (a4 + 1)), zi, (by first | exact H' | (simp only [ae, ad, aa, ab, ah, ai, ap]; exact H') | (simp only [ae, ad, aa, ab, ah, ai, ap] at H' ⊢; exact H')), ⟨by have := HK1.out; omega⟩, ⟨ru a3.out⟩, ⟨bq⟩⟩
    rw [if_neg c19] at H;have aF := decide_eq_false c19;clear c19;have H' := zA H;clear H;have p186 : 0 ≤ (a4 : Int) := od;have q186 : a4 < (l0.length : Int) := od;obtain ⟨ad186, e186, a6⟩ := Kd.at_int aJ.out a4 p186 q186;cases e186;replace a6 := (HB.out.cell (World.block_lt_of_cell? w _ a6)).trans a6;replace p186 := eq_true p186;replace q186 := eq_true q186
    try go_wp2
    replace a3 := zA (R_drew a3.out);replace HB := zA (below_drew1 HB.out);obtain ⟨ba, bb, aD⟩ := R_slice a3.out
    (first | subst aD | (injection aD with f1_ f2_ f3_; have f4_ := f1_.symm; have f5_ := f3_.symm; clear f1_ f2_ f3_; subst f4_; subst f5_))
    have p187 : 0 ≤ ((a2) : Int) := od;have q187 : (a2) < (a5.length : Int) := od;obtain ⟨ad187, e187, a7⟩ := Kd.at_int (R_reads' a3.out).2.2 (a2) p187 q187;cases e187;replace p187 := eq_true p187;replace q187 := eq_true q187;have p18 : 0 ≤ ((a2) : Int) := od;have q18 : ((a2) : Int) < ((a5.length : Int) : Int) := od;obtain ⟨go18, aS, am, an, gl18, cl18, HG18⟩ := R_form a3.out (by omega)
    (first | cases am | (injection am with ea_ en_ ec_; (first | subst ea_ | (injection ea_ with ea_; subst ea_)); subst ec_; clear en_))
    have GB18 := zA an;have GG18 := zA HG18;clear an gl18 HG18
    (first | simp only [add_plain] at a7 | skip)
    obtain ⟨ao, hf18_0⟩ := R_celln 0 a3.out ((a2) : Int) p18 q18;replace p18 := eq_true p18;replace q18 := eq_true q18;have HP35 := R_putn a3.out ((a2) : Int) (Go.bits .or .u64 (rd a5 (a2)) (a8));rw [← aw.out] at HP35;have HQ35 := zA HP35;clear HP35;refine start_ (n := 12) (S := fun w' => w'.cell? ⟨go18, ((a2)).toNat, none⟩ = some (.int .u64 (rd a5 (a2)))) (ds := [11]) #[false, false, false, false, false, false, false, false, false, false, false, false] (by kernel_rfl) rfl rfl (a7) (fun hHeld => ?_); refine with_tabW nat_number_shl.tab8 nat_number_shl.bits8 (fun HT_ HW_ => ?_);generalize wr.drew = w33 at a3 HB GG18 HQ35 hf18_0 a7 ao hHeld ⊢;refine pure_ (i := 0) (N := some 30) (v := ?_) (a' := ?_) #[true, false, false, false, false, false, false, false, false, false, false, false] rfl rfl (any_of HT_.out (by kernel_rfl)) (fun _ _ _ h => h) (Or.inl ⟨by rfl, ?_⟩) ?_ ?_;rotate_left;·intro w';go_simp;with_reducible rfl
    rotate_left;·exact zq
    refine pure_ (i := 1) (N := some 31) (v := ?_) (a' := ?_) #[true, true, false, false, false, false, false, false, false, false, false, false] rfl rfl (any_of HT_.out (by kernel_rfl)) (fun _ _ _ h => h) (Or.inl ⟨by rfl, ?_⟩) ?_ ?_;rotate_left;·intro w';go_simp;with_reducible rfl
    rotate_left;·exact zq
    refine pure_ (i := 2) (N := some 32) (v := ?_) (a' := ?_) #[true, true, true, false, false, false, false, false, false, false, false, false] rfl rfl (any_of HT_.out (by kernel_rfl)) (fun _ _ _ h => h) (Or.inl ⟨by rfl, ?_⟩) ?_ ?_;rotate_left;·intro w';go_simp;with_reducible rfl
    rotate_left;·exact zq
    refine pure_ (i := 3) (N := some 33) (v := ?_) (a' := ?_) #[true, true, true, true, false, false, false, false, false, false, false, false] rfl rfl (any_of HT_.out (by kernel_rfl)) (fun _ _ _ h => h) (Or.inl ⟨by rfl, ?_⟩) ?_ ?_;rotate_left;·intro w';go_simp;with_reducible rfl
    rotate_left;·exact zq
    refine pure_ (i := 4) (N := some 34) (v := ?_) (a' := ?_) #[true, true, true, true, true, false, false, false, false, false, false, false] rfl rfl (any_of HT_.out (by kernel_rfl)) (fun _ _ _ h => h) (Or.inl ⟨by rfl, ?_⟩) ?_ ?_;rotate_left;·intro w';go_simp;with_reducible rfl
    rotate_left;·exact zq
    refine pure_ (i := 6) (N := some 36) (v := ?_) (a' := ?_) #[true, true, true, true, true, false, true, false, false, false, false, false] rfl rfl (any_of HT_.out (by kernel_rfl)) (fun _ _ _ h => h) (Or.inl ⟨by rfl, ?_⟩) ?_ ?_;rotate_left;·intro w';go_simp;with_reducible rfl
    rotate_left;·exact zq
    refine pure_ (i := 7) (N := some 37) (v := ?_) (a' := ?_) #[true, true, true, true, true, false, true, true, false, false, false, false] rfl rfl (any_of HT_.out (by kernel_rfl)) (fun _ _ _ h => h) (Or.inl ⟨by rfl, ?_⟩) ?_ ?_;rotate_left;·intro w';go_simp;with_reducible rfl
    rotate_left;·exact zq
    refine pure_ (i := 8) (N := some 38) (v := ?_) (a' := ?_) #[true, true, true, true, true, false, true, true, true, false, false, false] rfl rfl (any_of HT_.out (by kernel_rfl)) (fun _ _ _ h => h) (Or.inl ⟨by rfl, ?_⟩) ?_ ?_;rotate_left;·intro w';go_simp;with_reducible rfl
    rotate_left;·exact zq
    refine take_ (i := 5) (N := some 35) (v := ?_) (a' := ?_) #[true, true, true, true, true, true, true, true, true, false, false, false] rfl rfl (take_ofW HT_.out HW_.out (by kernel_rfl)) (fun _ _ _ h => h) (Or.inl ⟨by rfl, ?_⟩) hHeld ?_ ?_;rotate_left;·intro w' s0;go_simp;with_reducible rfl
    rotate_left;·exact zq
    refine pure_ (i := 9) (N := some 39) (v := ?_) (a' := ?_) #[true, true, true, true, true, true, true, true, true, true, false, false] rfl rfl (any_of HT_.out (by kernel_rfl)) (fun _ _ _ h => h) (Or.inl ⟨by rfl, ?_⟩) ?_ ?_;rotate_left;·intro w';go_simp;with_reducible rfl
    rotate_left;·exact zq
    refine pure_ (i := 10) (N := some 40) (v := ?_) (a' := ?_) #[true, true, true, true, true, true, true, true, true, true, true, false] rfl rfl (any_of HT_.out (by kernel_rfl)) (fun _ _ _ h => h) (Or.inl ⟨by rfl, ?_⟩) ?_ ?_;rotate_left;·intro w';go_simp;with_reducible rfl
    rotate_left;·exact zq
    refine last_ (i := 11) (N := none) #[true, true, true, true, true, true, true, true, true, true, true, true] rfl rfl (one_of HT_.out (by kernel_rfl)) (by decide) (fun K hK => ?_);refine skip_ (w1 := ?_) (by rfl) rfl ?_ ?_;rotate_left;·go_simp;rfl
    refine hK.out _ _ ?_;clear hK K;refine done_ (done_of HT_.out (by kernel_rfl)) ?_
    try go_wp2
    (try simp only [← aa])
    go_roundg k1
    case measure => have := HK1.out; omega
    case rel => exact ⟨(ar), (wrap64 (a4 + 1)), zi, (by first | exact H' | (simp only [ae, ad, aa, ab]; exact H') | (simp only [ae, ad, aa, ab] at H' ⊢; exact H')), ⟨by have := HK1.out; omega⟩, ⟨ru HQ35.out⟩, ⟨by repeat (first | (with_reducible first | exact HB.out | apply below_alloc | apply pw_below_drewN | apply below_drew1 | refine below_set ?_ GB18.out) | exact HB.out)⟩⟩
   rw [if_neg c9] at H;have aR := decide_eq_false c9;clear c9;obtain ⟨aT, aY, H⟩ := zh H;obtain rfl := Option.some.inj H;obtain ⟨aU, aV, aW⟩ := R_slice a3.out;subst aW
   go_wp2_with (first | ((with_reducible refine zG 38 rfl ?_); refine zC (some 55) Tryd.func38 (nat_norm.calls k1 (fun k_ => some k_ = (.slice aU a5.length aV : Value).ownBlock) _ _ a5 aT _ ?aH aY.out) ?_; (case aH => exact R_V (R_tight rfl (a3.out))); rintro e w38 ⟨v191, rfl, aK, hb⟩; refine ⟨_, rfl, ?_⟩; have aI := zA (V_lower (V_mono (ok' := fun k_ => (w.heap.size ≤ k_)) aK (fun k_ hk_ => Or.elim hk_ (fun hs_ => ((a3.out).1 k_ hs_.symm)) (fun hn_ => (Nat.le_trans (below_size bq) hn_)))) (below_size bq)); replace a3 := zA (R_below (ru a3.out) hb); replace HB := ze hb; (try clear aK)))
   go_ret;exact ⟨_, by first | rfl | (simp [errW_none, errW_some] <;> rfl) | (simp only [← ae]; first | rfl | (simp [errW_none, errW_some] <;> rfl)) | (simp [*, errW_none, errW_some] <;> rfl), vu aI.out, bq⟩
def nat_number_cmp.l0 : Nat → List Int → List Int → Int → Option (Int)
 | 0, _, _, _ => none
 | k + 1, x0, x1, x5 => if x5 ≥ 0 then (if 0 ≤ x5 then (if x5 < (x0.length : Int) then (if x5 < (x1.length : Int) then (if (rd x0 x5) < (rd x1 x5) then (some (-1)) else (if (rd x0 x5) > (rd x1 x5) then (some 1) else (nat_number_cmp.l0 k x0 x1 (wrap64 (x5 - 1))))) else (none)) else (none)) else (none)) else (some 0)
def nat_number_cmp.f (k : Nat) (l0 : List Int) (l1 : List Int) : Option (Int) := if (l0.length : Int) = (l1.length : Int) then (nat_number_cmp.l0 k l0 l1 (wrap64 ((l0.length : Int) - 1))) else (if (l0.length : Int) < (l1.length : Int) then (some (-1)) else (some 1))
set_option maxHeartbeats 8000000 in
set_option maxRecDepth 100000 in
theorem nat_number_cmp.calls (k : Nat) (A0 : Option Addr) (c0 : Nat) (l0 : List Int) (A1 : Option Addr) (c1 : Nat) (l1 : List Int) (r : Int) (w : World) (hr0 : Kd.C (Kd.int .u64) w A0 l0.length l0) (hc0 : l0.length ≤ c0) (hr1 : Kd.C (Kd.int .u64) w A1 l1.length l1) (hc1 : l1.length ≤ c1) (h : nat_number_cmp.f k l0 l1 = some r) :
  Calls Tryd.prog 62 #[.slice A0 l0.length c0, .slice A1 l1.length c1] w fun e w' => e = .returned (.int .i64 r) ∧ Drawn0 w w' := by
 have a4 := zA hr0;have aj := zA hc0;clear hr0 hc0;have a5 := zA hr1;have ak := zA hc1;clear hr1 hc1;have H := h
 unfold nat_number_cmp.f at H
 clear h
 by_cases c3 : (l0.length : Int) = (l1.length : Int)
 ·rw [if_pos c3] at H;have a8 := beq_iff_eq.mpr c3;have a9 := bne_eq_false_iff_eq.mpr c3
  have aa : (l0.length == l1.length) = true := by first | simpa using c3 | (simp at c3 ⊢; omega)
  clear c3;have H' := zA H;clear H;go_enter Tryd.func62, Tryd.ntmps62
  go_wp2
  repeat (go_quiet (fail); try go_wp2)
  go_loopg [5] k (fun kq v5 w' => ∃ (a1 : Int), v5 = .int .i64 a1 ∧ Aside0 (nat_number_cmp.l0 kq l0 l1 a1 = some r) ∧ Aside0 (kq ≤ k) ∧ Drawn0 w w')
  case atStart => exact ⟨(wrap64 ((l0.length : Int) - 1)), zi, H', ⟨Nat.le_refl _⟩, by repeat (first | exact Drawn0.refl _ | apply Drawn0.step)⟩
  case round =>
   clear H'
   try clear c1
   try clear c3
   try clear a8
   try clear a9
   try clear aa
   obtain ⟨a1, rfl, HA, HK1, ⟨m1, rfl⟩⟩ := hrel
   cases gk with
   | zero => exact absurd HA.out (by simp [nat_number_cmp.l0])
   | succ k1 =>
    have H := HA.out;clear HA;simp only [nat_number_cmp.l0] at H
    by_cases c4 : a1 ≥ 0
    ·rw [if_pos c4] at H;have ad := decide_eq_true c4;clear c4;replace H := dn H;obtain ⟨c5, H⟩ := H;have ag := decide_eq_true c5;clear c5;replace H := dn H;obtain ⟨c6, H⟩ := H;have ah := decide_eq_true c6;clear c6;replace H := dn H;obtain ⟨c7, H⟩ := H;have ai := decide_eq_true c7;clear c7
     by_cases c8 : (rd l0 a1) < (rd l1 a1)
     ·rw [if_pos c8] at H;have ae := decide_eq_true c8;clear c8;obtain rfl := Option.some.inj H;have p193 : 0 ≤ (a1 : Int) := od;have q193 : a1 < (l0.length : Int) := od;obtain ⟨ad193, e193, a2⟩ := Kd.at_int a4.out a1 p193 q193;cases e193;replace p193 := eq_true p193;replace q193 := eq_true q193;have p194 : 0 ≤ (a1 : Int) := od;have q194 : a1 < (l1.length : Int) := od;obtain ⟨ad194, e194, a3⟩ := Kd.at_int a5.out a1 p194 q194;cases e194;replace p194 := eq_true p194;replace q194 := eq_true q194
      go_wp2
      repeat (go_quiet (fail); try go_wp2)
      go_ret;exact ⟨by first | rfl | (simp; done) | (simp [*]; done), by repeat (first | exact Drawn0.refl _ | apply Drawn0.step)⟩
     rw [if_neg c8] at H;have ae := decide_eq_false c8;clear c8
     by_cases c9 : (rd l0 a1) > (rd l1 a1)
     ·rw [if_pos c9] at H;have af := decide_eq_true c9;clear c9;obtain rfl := Option.some.inj H;have p193 : 0 ≤ (a1 : Int) := od;have q193 : a1 < (l0.length : Int) := od;obtain ⟨ad193, e193, a2⟩ := Kd.at_int a4.out a1 p193 q193;cases e193;replace p193 := eq_true p193;replace q193 := eq_true q193;have p194 : 0 ≤ (a1 : Int) := od;have q194 : a1 < (l1.length : Int) := od;obtain ⟨ad194, e194, a3⟩ := Kd.at_int a5.out a1 p194 q194;cases e194;replace p194 := eq_true p194;replace q194 := eq_true q194;have p195 : 0 ≤ (a1 : Int) := od;have q195 : a1 < (l0.length : Int) := od;obtain ⟨ad195, e195, a6⟩ := Kd.at_int a4.out a1 p195 q195;obtain rfl : ad193 = ad195 := (by injection e195);replace p195 := eq_true p195;replace q195 := eq_true q195;have p196 : 0 ≤ (a1 : Int) := od;have q196 : a1 < (l1.length : Int) := od;obtain ⟨ad196, e196, a7⟩ := Kd.at_int a5.out a1 p196 q196;obtain rfl : ad194 = ad196 := (by injection e196);replace p196 := eq_true p196;replace q196 := eq_true q196
      go_wp2
      repeat (go_quiet (fail); try go_wp2)
      go_ret;exact ⟨by first | rfl | (simp; done) | (simp [*]; done), by repeat (first | exact Drawn0.refl _ | apply Drawn0.step)⟩
     rw [if_neg c9] at H;have af := decide_eq_false c9;clear c9;have H' := zA H;clear H;have p193 : 0 ≤ (a1 : Int) := od;have q193 : a1 < (l0.length : Int) := od;obtain ⟨ad193, e193, a2⟩ := Kd.at_int a4.out a1 p193 q193;cases e193;replace p193 := eq_true p193;replace q193 := eq_true q193;have p194 : 0 ≤ (a1 : Int) := od;have q194 : a1 < (l1.length : Int) := od;obtain ⟨ad194, e194, a3⟩ := Kd.at_int a5.out a1 p194 q194;cases e194;replace p194 := eq_true p194;replace q194 := eq_true q194;have p195 : 0 ≤ (a1 : Int) := od;have q195 : a1 < (l0.length : Int) := od;obtain ⟨ad195, e195, a6⟩ := Kd.at_int a4.out a1 p195 q195;obtain rfl : ad193 = ad195 := (by injection e195);replace p195 := eq_true p195;replace q195 := eq_true q195;have p196 : 0 ≤ (a1 : Int) := od;have q196 : a1 < (l1.length : Int) := od;obtain ⟨ad196, e196, a7⟩ := Kd.at_int a5.out a1 p196 q196;obtain rfl : ad194 = ad196 := (by injection e196);replace p196 := eq_true p196;replace q196 := eq_true q196
     go_wp2
     repeat (go_quiet (fail); try go_wp2)
     go_roundg k1
     case measure => have := HK1.out; omega
     case rel => exact ⟨(wrap64 (a1 - 1)), zi, H', ⟨by have := HK1.out; omega⟩, by repeat (first | exact Drawn0.refl _ | apply Drawn0.step)⟩
    rw [if_neg c4] at H;have ad := decide_eq_false c4;clear c4;obtain rfl := Option.some.inj H
    go_wp2
    repeat (go_quiet (fail); try go_wp2)
    go_ret;exact ⟨by first | rfl | (simp; done) | (simp [*]; done), by repeat (first | exact Drawn0.refl _ | apply Drawn0.step)⟩
 rw [if_neg c3] at H;have a8 := beq_eq_false_iff_ne.mpr c3;have a9 := bne_iff_ne.mpr c3
 have aa : (l0.length == l1.length) = false := by first | simpa using c3 | (simp at c3 ⊢; omega)
 by_cases c10 : (l0.length : Int) < (l1.length : Int)
 ·rw [if_pos c10] at H;have ab := decide_eq_true c10;have ac : decide (l0.length < l1.length) = true := decide_eq_true (Int.ofNat_lt.mp c10);clear c10;obtain rfl := Option.some.inj H;go_enter Tryd.func62, Tryd.ntmps62
  go_wp2
  repeat (go_quiet (fail); try go_wp2)
  go_ret;exact ⟨by first | rfl | (simp; done) | (simp [*]; done), by repeat (first | exact Drawn0.refl _ | apply Drawn0.step)⟩
 rw [if_neg c10] at H;have ab := decide_eq_false c10;have ac : decide (l0.length < l1.length) = false := decide_eq_false (fun h => c10 (Int.ofNat_lt.mpr h));clear c10;obtain rfl := Option.some.inj H;go_enter Tryd.func62, Tryd.ntmps62
 go_wp2
 repeat (go_quiet (fail); try go_wp2)
 go_ret;exact ⟨by first | rfl | (simp; done) | (simp [*]; done), by repeat (first | exact Drawn0.refl _ | apply Drawn0.step)⟩
def bits_LeadingZeros64.f (k : Nat) (a0 : Int) : Option (Int) := (bits_Len64.f k a0).bind fun a1 => (some (wrap64 (64 - a1)))
set_option maxHeartbeats 8000000 in
set_option maxRecDepth 100000 in
theorem bits_LeadingZeros64.calls (k : Nat) (a0 : Int) (r : Int) (w : World) (h : bits_LeadingZeros64.f k a0 = some r) :
  Calls Tryd.prog 64 #[.int .u64 a0] w fun e w' => e = .returned (.int .i64 r) ∧ Drawn0 w w' := by
 have H := h
 unfold bits_LeadingZeros64.f at H
 clear h;obtain ⟨a1, A2, H⟩ := zh H;obtain rfl := Option.some.inj H;go_enter Tryd.func64, Tryd.ntmps64
 go_wp2_with (first | ((with_reducible refine zG 61 rfl ?_); refine zC (some 4) Tryd.func61 (bits_Len64.calls k a0 a1 _ A2.out) ?_; rintro e w' ⟨rfl, ⟨nd, rfl⟩⟩; refine ⟨_, rfl, ?_⟩))
 go_ret;exact ⟨by first | rfl | (simp; done) | (simp [*]; done), by repeat (first | exact Drawn0.refl _ | apply Drawn0.step)⟩
mutual
def bits_Div64.j2 : Nat → Int → Int → Int → Int → Int → Int → Int → Int → Option (Int × Int)
 | 0, _, _, _, _, _, _, _, _ => none
 | k + 1, x2, x8, x9, x10, x11, x13, x14, x15 => if x9 = 0 then (none) else (bits_Div64.l1 k x2 x8 x9 x10 x14 x15 (IntKind.u64.wrap ((IntKind.u64.wrap ((IntKind.u64.wrap ((IntKind.u64.wrap (x11 * 4294967296)) + x13)) - (IntKind.u64.wrap (x15 * x2)))) - (IntKind.u64.wrap ((IntKind.u64.wrap (Int.tdiv (IntKind.u64.wrap ((IntKind.u64.wrap ((IntKind.u64.wrap (x11 * 4294967296)) + x13)) - (IntKind.u64.wrap (x15 * x2)))) x9)) * x9)))) (IntKind.u64.wrap ((IntKind.u64.wrap ((IntKind.u64.wrap (x11 * 4294967296)) + x13)) - (IntKind.u64.wrap (x15 * x2)))) (IntKind.u64.wrap (Int.tdiv (IntKind.u64.wrap ((IntKind.u64.wrap ((IntKind.u64.wrap (x11 * 4294967296)) + x13)) - (IntKind.u64.wrap (x15 * x2)))) x9)))
def bits_Div64.l1 : Nat → Int → Int → Int → Int → Int → Int → Int → Int → Int → Option (Int × Int)
 | 0, _, _, _, _, _, _, _, _, _ => none
 | k + 1, x2, x8, x9, x10, x14, x15, x16, x17, x18 => if x18 ≥ 4294967296 then (bits_Div64.j4 k x2 x8 x9 x10 x14 x15 x16 x17 x18 true) else (bits_Div64.j4 k x2 x8 x9 x10 x14 x15 x16 x17 x18 (decide ((IntKind.u64.wrap (x18 * x10)) > (IntKind.u64.wrap ((IntKind.u64.wrap (4294967296 * x16)) + x14)))))
def bits_Div64.j4 : Nat → Int → Int → Int → Int → Int → Int → Int → Int → Int → Bool → Option (Int × Int)
 | 0, _, _, _, _, _, _, _, _, _, _ => none
 | k + 1, x2, x8, x9, x10, x14, x15, x16, x17, x18, a1 => if a1 = true then (if (IntKind.u64.wrap (x16 + x9)) ≥ 4294967296 then (if 0 ≤ x8 then (some (IntKind.u64.wrap ((IntKind.u64.wrap (x15 * 4294967296)) + (IntKind.u64.wrap (x18 - 1))), shr .u64 (IntKind.u64.wrap ((IntKind.u64.wrap ((IntKind.u64.wrap (x17 * 4294967296)) + x14)) - (IntKind.u64.wrap ((IntKind.u64.wrap (x18 - 1)) * x2)))) x8)) else (none)) else (bits_Div64.l1 k x2 x8 x9 x10 x14 x15 (IntKind.u64.wrap (x16 + x9)) x17 (IntKind.u64.wrap (x18 - 1)))) else (if 0 ≤ x8 then (some (IntKind.u64.wrap ((IntKind.u64.wrap (x15 * 4294967296)) + x18), shr .u64 (IntKind.u64.wrap ((IntKind.u64.wrap ((IntKind.u64.wrap (x17 * 4294967296)) + x14)) - (IntKind.u64.wrap (x18 * x2)))) x8)) else (none))
def bits_Div64.l0 : Nat → Int → Int → Int → Int → Int → Int → Int → Int → Int → Option (Int × Int)
 | 0, _, _, _, _, _, _, _, _, _ => none
 | k + 1, x2, x8, x9, x10, x11, x13, x14, x15, x16 => if x15 ≥ 4294967296 then (bits_Div64.j1 k x2 x8 x9 x10 x11 x13 x14 x15 x16 true) else (bits_Div64.j1 k x2 x8 x9 x10 x11 x13 x14 x15 x16 (decide ((IntKind.u64.wrap (x15 * x10)) > (IntKind.u64.wrap ((IntKind.u64.wrap (4294967296 * x16)) + x13)))))
def bits_Div64.j1 : Nat → Int → Int → Int → Int → Int → Int → Int → Int → Int → Bool → Option (Int × Int)
 | 0, _, _, _, _, _, _, _, _, _, _ => none
 | k + 1, x2, x8, x9, x10, x11, x13, x14, x15, x16, x78 => if x78 = true then (if (IntKind.u64.wrap (x16 + x9)) ≥ 4294967296 then (bits_Div64.j2 k x2 x8 x9 x10 x11 x13 x14 (IntKind.u64.wrap (x15 - 1))) else (bits_Div64.l0 k x2 x8 x9 x10 x11 x13 x14 (IntKind.u64.wrap (x15 - 1)) (IntKind.u64.wrap (x16 + x9)))) else (bits_Div64.j2 k x2 x8 x9 x10 x11 x13 x14 x15)
end
def bits_Div64.f (k : Nat) (a0 : Int) (a1 : Int) (a2 : Int) : Option (Int × Int) := if a2 = 0 then (none) else (if a2 ≤ a0 then (none) else (if a0 = 0 then (some (IntKind.u64.wrap (Int.tdiv a1 a2), Int.tmod a1 a2)) else ((bits_LeadingZeros64.f k a2).bind fun a3 => (if 0 ≤ (IntKind.u64.wrap (a3)) then (if 0 ≤ (IntKind.u64.wrap (64 - (IntKind.u64.wrap (a3)))) then (if ((shl .u64 a2 (IntKind.u64.wrap (a3))) / 4294967296) = 0 then (none) else (bits_Div64.l0 k (shl .u64 a2 (IntKind.u64.wrap (a3))) (IntKind.u64.wrap (a3)) ((shl .u64 a2 (IntKind.u64.wrap (a3))) / 4294967296) (Go.bits .and .u64 (shl .u64 a2 (IntKind.u64.wrap (a3))) 4294967295) (Go.bits .or .u64 (shl .u64 a0 (IntKind.u64.wrap (a3))) (shr .u64 a1 (IntKind.u64.wrap (64 - (IntKind.u64.wrap (a3)))))) ((shl .u64 a1 (IntKind.u64.wrap (a3))) / 4294967296) (Go.bits .and .u64 (shl .u64 a1 (IntKind.u64.wrap (a3))) 4294967295) (IntKind.u64.wrap (Int.tdiv (Go.bits .or .u64 (shl .u64 a0 (IntKind.u64.wrap (a3))) (shr .u64 a1 (IntKind.u64.wrap (64 - (IntKind.u64.wrap (a3)))))) ((shl .u64 a2 (IntKind.u64.wrap (a3))) / 4294967296))) (IntKind.u64.wrap ((Go.bits .or .u64 (shl .u64 a0 (IntKind.u64.wrap (a3))) (shr .u64 a1 (IntKind.u64.wrap (64 - (IntKind.u64.wrap (a3)))))) - (IntKind.u64.wrap ((IntKind.u64.wrap (Int.tdiv (Go.bits .or .u64 (shl .u64 a0 (IntKind.u64.wrap (a3))) (shr .u64 a1 (IntKind.u64.wrap (64 - (IntKind.u64.wrap (a3)))))) ((shl .u64 a2 (IntKind.u64.wrap (a3))) / 4294967296))) * ((shl .u64 a2 (IntKind.u64.wrap (a3))) / 4294967296))))))) else (none)) else (none)))))
set_option maxHeartbeats 8000000 in
set_option maxRecDepth 100000 in
theorem bits_Div64.calls (k : Nat) (a0 : Int) (a1 : Int) (a2 : Int) (r1 : Int) (r2 : Int) (w : World) (h : bits_Div64.f k a0 a1 a2 = some (r1, r2)) :
  Calls Tryd.prog 79 #[.int .u64 a0, .int .u64 a1, .int .u64 a2] w fun e w' => e = .returned (.tuple #[.int .u64 r1, .int .u64 r2]) ∧ Drawn0 w w' := by
 have H := h
 unfold bits_Div64.f at H
 clear h
 by_cases c4 : a2 = 0
 ·rw [if_pos c4] at H;exact absurd H (by simp)
 rw [if_neg c4] at H;have ay := beq_eq_false_iff_ne.mpr c4;have aA := bne_iff_ne.mpr c4
 by_cases c5 : a2 ≤ a0
 ·rw [if_pos c5] at H;exact absurd H (by simp)
 rw [if_neg c5] at H;have aB := decide_eq_false c5;clear c5
 by_cases c6 : a0 = 0
 ·rw [if_pos c6] at H;have av := beq_iff_eq.mpr c6;have aw := bne_eq_false_iff_eq.mpr c6;clear c6;simp only [Option.some.injEq, Prod.mk.injEq] at H;obtain ⟨rfl, rfl⟩ := H;go_enter Tryd.func79, Tryd.ntmps79
  go_wp2
  repeat (go_quiet (fail); try go_wp2)
  go_ret2
  exact ⟨by first | rfl | (simp; done) | (simp [*]; done), by repeat (first | exact Drawn0.refl _ | apply Drawn0.step)⟩
 rw [if_neg c6] at H;have av := beq_eq_false_iff_ne.mpr c6;have aw := bne_iff_ne.mpr c6;obtain ⟨aE, A7, H⟩ := zh H;generalize ac : IntKind.u64.wrap (aE) = ab at H;(try rw [ac] at A7);replace H := dn H;obtain ⟨c9, H⟩ := H;have aC := eq_true c9;have aD := decide_eq_true c9;clear c9;generalize a4 : shl .u64 a2 (ab) = a3 at H;(try rw [a4] at A7);have hji10_ : (IntKind.u64.wrap (a2 * 2 ^ min (ab).toNat 64)) = a3 := a4;have hji10z : (ab) ≤ 64 → (IntKind.u64.wrap (a2 * 2 ^ (ab).toNat)) = a3 := shl_small a4;have am := eq_true (od : 0 ≤ (ab));generalize a5 : shl .u64 a0 (ab) = ad at H;(try rw [a5] at A7);have hji12_ : (IntKind.u64.wrap (a0 * 2 ^ min (ab).toNat 64)) = ad := a5;have hji12z : (ab) ≤ 64 → (IntKind.u64.wrap (a0 * 2 ^ (ab).toNat)) = ad := shl_small a5;generalize aa : IntKind.u64.wrap (64 - (ab)) = aF at H;(try rw [aa] at A7);replace H := dn H;obtain ⟨c14, H⟩ := H;have an := eq_true c14;have ao := decide_eq_true c14;clear c14;generalize a6 : shr .u64 a1 (aF) = ae at H;(try rw [a6] at A7);have hji15_ : (a1 / 2 ^ min (aF).toNat 64) = ae := a6;have hji15z : (aF) ≤ 64 → (a1 / 2 ^ (aF).toNat) = ae := shr_small a6;have ap := eq_true (od : 0 ≤ (ab));generalize a7 : shl .u64 a1 (ab) = a8 at H;(try rw [a7] at A7);have hji17_ : (IntKind.u64.wrap (a1 * 2 ^ min (ab).toNat 64)) = a8 := a7;have hji17z : (ab) ≤ 64 → (IntKind.u64.wrap (a1 * 2 ^ (ab).toNat)) = a8 := shl_small a7
 by_cases c18 : ((a3) / 4294967296) = 0
 ·rw [if_pos c18] at H;exact absurd H (by simp)
 rw [if_neg c18] at H;have aq := beq_eq_false_iff_ne.mpr c18;have ar := bne_iff_ne.mpr c18;have aK := zA H;clear H;go_enter Tryd.func79, Tryd.ntmps79
 go_upto_block 0 with (first | (go_at_call 64; (with_reducible refine (bits_LeadingZeros64.calls k a2 aE _ A7.out).mono ?_); rintro e w' ⟨rfl, ⟨nd, rfl⟩⟩; (try first | exact ⟨rfl, _, World.drewN_drewN _ _ _⟩ | exact ⟨rfl, _, Eq.trans (World.drewN_drewN _ _ _) (congrArg (World.drewN _) (Nat.add_assoc _ _ _))⟩)))
 repeat (go_quiet (first | (go_at_call 64; (with_reducible refine (bits_LeadingZeros64.calls k a2 aE _ A7.out).mono ?_); rintro e w' ⟨rfl, ⟨nd, rfl⟩⟩; (try first | exact ⟨rfl, _, World.drewN_drewN _ _ _⟩ | exact ⟨rfl, _, Eq.trans (World.drewN_drewN _ _ _) (congrArg (World.drewN _) (Nat.add_assoc _ _ _))⟩))); go_upto_block 0 with (first | (go_at_call 64; (with_reducible refine (bits_LeadingZeros64.calls k a2 aE _ A7.out).mono ?_); rintro e w' ⟨rfl, ⟨nd, rfl⟩⟩; (try first | exact ⟨rfl, _, World.drewN_drewN _ _ _⟩ | exact ⟨rfl, _, Eq.trans (World.drewN_drewN _ _ _) (congrArg (World.drewN _) (Nat.add_assoc _ _ _))⟩))))
 (try simp only [Act.put, List.setIfInBounds_toArray, List.set_cons_zero, List.set_cons_succ])
 go_cut [15] (fun v15 wc => ∃ (kq : Nat) (a9 : Int), v15 = .int .u64 a9 ∧ Aside0 (bits_Div64.j2 kq a3 ab ((a3) / 4294967296) (Go.bits .and .u64 (a3) 4294967295) (Go.bits .or .u64 (ad) (ae)) ((a8) / 4294967296) (Go.bits .and .u64 (a8) 4294967295) a9 = some (r1, r2)) ∧ Aside0 (kq ≤ k) ∧ Drawn0 w wc)
 case first =>
  have H := aK.out;clear aK;have H' := zA H;clear H
  go_wp2
  repeat (go_quiet (fail); try go_wp2)
  go_loopg [15, 16] k (fun kq v15 v16 w' => ∃ (ag : Int) (ah : Int), v15 = .int .u64 ag ∧ v16 = .int .u64 ah ∧ Aside0 (bits_Div64.l0 kq a3 ab ((a3) / 4294967296) (Go.bits .and .u64 (a3) 4294967295) (Go.bits .or .u64 (ad) (ae)) ((a8) / 4294967296) (Go.bits .and .u64 (a8) 4294967295) ag ah = some (r1, r2)) ∧ Aside0 (kq ≤ k) ∧ Drawn0 w w')
  case atStart => exact ⟨(IntKind.u64.wrap (Int.tdiv (Go.bits .or .u64 (ad) (ae)) ((a3) / 4294967296))), (IntKind.u64.wrap ((Go.bits .or .u64 (ad) (ae)) - (IntKind.u64.wrap ((IntKind.u64.wrap (Int.tdiv (Go.bits .or .u64 (ad) (ae)) ((a3) / 4294967296))) * ((a3) / 4294967296))))), (by first | rfl | (simp; done) | (simp only [← a4, ← a5, ← a6] <;> (first | rfl | simp)) | (simp [*]; done)), (by first | rfl | (simp; done) | (simp only [← a4, ← a5, ← a6] <;> (first | rfl | simp)) | (simp [*]; done)), H', ⟨Nat.le_refl _⟩, by repeat (first | exact Drawn0.refl _ | apply Drawn0.step)⟩
  case round =>
   clear H'
   try clear c1
   try clear c4
   try clear ay
   try clear aA
   try clear c5
   try clear aB
   try clear c6
   try clear av
   try clear aw
   try clear c7
   try clear c9
   try clear aC
   try clear aD
   try clear c11
   try clear am
   try clear c14
   try clear an
   try clear ao
   try clear c16
   try clear ap
   try clear c18
   try clear aq
   try clear ar
   obtain ⟨ag, ah, rfl, rfl, HA, HK1, ⟨m1, rfl⟩⟩ := hrel
   cases gk with
   | zero => exact absurd HA.out (by simp [bits_Div64.l0])
   | succ k1 =>
    have H := HA.out;clear HA;simp only [bits_Div64.l0] at H;have aL := zA H;clear H
    go_upto_region 17 with (fail)
    repeat (go_quiet (fail); go_upto_region 17 with (fail))
    go_cut [78] (fun v78 wc => ∃ (kq : Nat) (au : Bool), v78 = .bool au ∧ Aside0 (bits_Div64.j1 kq a3 ab ((a3) / 4294967296) (Go.bits .and .u64 (a3) 4294967295) (Go.bits .or .u64 (ad) (ae)) ((a8) / 4294967296) (Go.bits .and .u64 (a8) 4294967295) ag ah au = some (r1, r2)) ∧ Aside0 (kq ≤ k1) ∧ Drawn0 w wc)
    case first =>
     have H := aL.out;clear aL
     by_cases c21 : ag ≥ 4294967296
     ·rw [if_pos c21] at H;have ai := decide_eq_true c21;clear c21
      (first | rw [ai] | (simp only [i64_w, i32_w]; rw [ai]) | skip)
      have H' := zA H;clear H
      go_wp2
      repeat (go_quiet (fail); try go_wp2)
      go_meet
      case rel => exact ⟨_, (true), zi, (by first | exact H' | (simp only [ac, a4, a5, aa, a6, a7]; exact H') | (simp only [ac, a4, a5, aa, a6, a7] at H' ⊢; exact H')), ⟨by have := HK1.out; first | omega | exact Nat.le_refl _⟩, by repeat (first | exact Drawn0.refl _ | apply Drawn0.step)⟩
     rw [if_neg c21] at H;have ai := decide_eq_false c21;clear c21
     (first | rw [ai] | (simp only [i64_w, i32_w]; rw [ai]) | skip)
     have H' := zA H;clear H
     go_wp2
     repeat (go_quiet (fail); try go_wp2)
     go_meet
     case rel => exact ⟨_, (decide ((IntKind.u64.wrap (ag * (Go.bits .and .u64 (a3) 4294967295))) > (IntKind.u64.wrap ((IntKind.u64.wrap (4294967296 * ah)) + ((a8) / 4294967296))))), (by first | rfl | (simp; done) | (simp only [← a4, ← a7] <;> (first | rfl | simp)) | (simp [*]; done)), (by first | exact H' | (simp only [ac, a4, a5, aa, a6, a7]; exact H') | (simp only [ac, a4, a5, aa, a6, a7] at H' ⊢; exact H')), ⟨by have := HK1.out; first | omega | exact Nat.le_refl _⟩, by repeat (first | exact Drawn0.refl _ | apply Drawn0.step)⟩
    case rest =>
     clear aL
     try clear c1
     try clear c4
     try clear ay
     try clear aA
     try clear c5
     try clear aB
     try clear c6
     try clear av
     try clear aw
     try clear c7
     try clear c9
     try clear aC
     try clear aD
     try clear c11
     try clear am
     try clear c14
     try clear an
     try clear ao
     try clear c16
     try clear ap
     try clear c18
     try clear aq
     try clear ar
     try clear c21
     try clear ai
     obtain ⟨kq, au, rfl, HA, aG, ⟨mc19, rfl⟩⟩ := hcut
     cases kq with
     | zero => exact absurd HA.out (by simp [bits_Div64.j1])
     | succ aU =>
      have H := HA.out;clear HA;simp only [bits_Div64.j1] at H
      by_cases c22 : au = true
      ·subst c22;rw [if_pos rfl] at H
       by_cases c23 : (IntKind.u64.wrap (ah + ((a3) / 4294967296))) ≥ 4294967296
       ·rw [if_pos c23] at H;have ax : decide (4294967296 ≤ (IntKind.u64.wrap (ah + ((a3) / 4294967296)))) = true := decide_eq_true c23;clear c23;have H' := zA H;clear H
        go_wp2
        repeat (go_quiet (fail); try go_wp2)
        go_meet
        case rel => exact ⟨_, (IntKind.u64.wrap (ag - 1)), zi, (by first | exact H' | (simp only [ac, a4, a5, aa, a6, a7]; exact H') | (simp only [ac, a4, a5, aa, a6, a7] at H' ⊢; exact H')), ⟨by have := HK1.out; have := aG.out; first | omega | exact Nat.le_refl _⟩, by repeat (first | exact Drawn0.refl _ | apply Drawn0.step)⟩
       rw [if_neg c23] at H;have ax : decide (4294967296 ≤ (IntKind.u64.wrap (ah + ((a3) / 4294967296)))) = false := decide_eq_false c23;clear c23;have H' := zA H;clear H
       go_wp2
       repeat (go_quiet (fail); try go_wp2)
       go_roundg aU
       case measure => have := HK1.out; have := aG.out; omega
       case rel => exact ⟨(IntKind.u64.wrap (ag - 1)), (IntKind.u64.wrap (ah + ((a3) / 4294967296))), zi, (by first | rfl | (simp; done) | (simp only [← a4] <;> (first | rfl | simp)) | (simp [*]; done)), (by first | exact H' | (simp only [ac, a4, a5, aa, a6, a7]; exact H') | (simp only [ac, a4, a5, aa, a6, a7] at H' ⊢; exact H')), ⟨by have := HK1.out; have := aG.out; omega⟩, by repeat (first | exact Drawn0.refl _ | apply Drawn0.step)⟩
      replace c22 := Bool.eq_false_iff.mpr c22;subst c22;rw [if_neg (show ¬ (false = true) by decide)] at H;have H' := zA H;clear H
      go_wp2
      repeat (go_quiet (fail); try go_wp2)
      go_meet
      case rel => exact ⟨_, (ag), zi, (by first | exact H' | (simp only [ac, a4, a5, aa, a6, a7]; exact H') | (simp only [ac, a4, a5, aa, a6, a7] at H' ⊢; exact H')), ⟨by have := HK1.out; have := aG.out; first | omega | exact Nat.le_refl _⟩, by repeat (first | exact Drawn0.refl _ | apply Drawn0.step)⟩
 case rest =>
  clear aK
  try clear c1
  try clear c4
  try clear ay
  try clear aA
  try clear c5
  try clear aB
  try clear c6
  try clear av
  try clear aw
  try clear c7
  try clear c9
  try clear aC
  try clear aD
  try clear c11
  try clear am
  try clear c14
  try clear an
  try clear ao
  try clear c16
  try clear ap
  try clear c18
  try clear aq
  try clear ar
  try clear c19
  try clear c21
  try clear ai
  try clear c22
  try clear c23
  try clear ax
  obtain ⟨kq, a9, rfl, HA, aH, ⟨mc18, rfl⟩⟩ := hcut
  cases kq with
  | zero => exact absurd HA.out (by simp [bits_Div64.j2])
  | succ aP =>
   have H := HA.out;clear HA;simp only [bits_Div64.j2] at H
   by_cases c24 : ((a3) / 4294967296) = 0
   ·rw [if_pos c24] at H;exact absurd H (by simp)
   rw [if_neg c24] at H;have aN := beq_eq_false_iff_ne.mpr c24;have aO := bne_iff_ne.mpr c24;have H' := zA H;clear H
   go_wp2
   repeat (go_quiet (fail); try go_wp2)
   go_loopg [16, 18] aP (fun kq v16 v18 w' => ∃ (aj : Int) (af : Int), v16 = .int .u64 aj ∧ v18 = .int .u64 af ∧ Aside0 (bits_Div64.l1 kq a3 ab ((a3) / 4294967296) (Go.bits .and .u64 (a3) 4294967295) (Go.bits .and .u64 (a8) 4294967295) a9 aj (IntKind.u64.wrap ((IntKind.u64.wrap ((IntKind.u64.wrap ((Go.bits .or .u64 (ad) (ae)) * 4294967296)) + ((a8) / 4294967296))) - (IntKind.u64.wrap (a9 * a3)))) af = some (r1, r2)) ∧ Aside0 (kq ≤ aP) ∧ Drawn0 w w')
   case atStart => exact ⟨(IntKind.u64.wrap ((IntKind.u64.wrap ((IntKind.u64.wrap ((IntKind.u64.wrap ((Go.bits .or .u64 (ad) (ae)) * 4294967296)) + ((a8) / 4294967296))) - (IntKind.u64.wrap (a9 * a3)))) - (IntKind.u64.wrap ((IntKind.u64.wrap (Int.tdiv (IntKind.u64.wrap ((IntKind.u64.wrap ((IntKind.u64.wrap ((Go.bits .or .u64 (ad) (ae)) * 4294967296)) + ((a8) / 4294967296))) - (IntKind.u64.wrap (a9 * a3)))) ((a3) / 4294967296))) * ((a3) / 4294967296))))), (IntKind.u64.wrap (Int.tdiv (IntKind.u64.wrap ((IntKind.u64.wrap ((IntKind.u64.wrap ((Go.bits .or .u64 (ad) (ae)) * 4294967296)) + ((a8) / 4294967296))) - (IntKind.u64.wrap (a9 * a3)))) ((a3) / 4294967296))), (by first | rfl | (simp; done) | (simp only [← a4, ← a5, ← a6, ← a7] <;> (first | rfl | simp)) | (simp [*]; done)), (by first | rfl | (simp; done) | (simp only [← a4, ← a5, ← a6, ← a7] <;> (first | rfl | simp)) | (simp [*]; done)), H', ⟨Nat.le_refl _⟩, by repeat (first | exact Drawn0.refl _ | apply Drawn0.step)⟩
   case round =>
    clear H'
    try clear c1
    try clear c4
    try clear ay
    try clear aA
    try clear c5
    try clear aB
    try clear c6
    try clear av
    try clear aw
    try clear c7
    try clear c9
    try clear aC
    try clear aD
    try clear c11
    try clear am
    try clear c14
    try clear an
    try clear ao
    try clear c16
    try clear ap
    try clear c18
    try clear aq
    try clear ar
    try clear c19
    try clear c21
    try clear ai
    try clear c22
    try clear c23
    try clear ax
    try clear c24
    try clear aN
    try clear aO
    obtain ⟨aj, af, rfl, rfl, HA, HK2, ⟨m2, rfl⟩⟩ := hrel
    cases gk with
    | zero => exact absurd HA.out (by simp [bits_Div64.l1])
    | succ k2 =>
     have H := HA.out;clear HA;simp only [bits_Div64.l1] at H;have aM := zA H;clear H
     go_upto_region 24 with (fail)
     repeat (go_quiet (fail); go_upto_region 24 with (fail))
     go_cut [113] (fun v113 wc => ∃ (kq : Nat) (ak : Bool), v113 = .bool ak ∧ Aside0 (bits_Div64.j4 kq a3 ab ((a3) / 4294967296) (Go.bits .and .u64 (a3) 4294967295) (Go.bits .and .u64 (a8) 4294967295) a9 aj (IntKind.u64.wrap ((IntKind.u64.wrap ((IntKind.u64.wrap ((Go.bits .or .u64 (ad) (ae)) * 4294967296)) + ((a8) / 4294967296))) - (IntKind.u64.wrap (a9 * a3)))) af ak = some (r1, r2)) ∧ Aside0 (kq ≤ k2) ∧ Drawn0 w wc)
     case first =>
      have H := aM.out;clear aM
      by_cases c26 : af ≥ 4294967296
      ·rw [if_pos c26] at H;have al := decide_eq_true c26;clear c26
       (first | rw [al] | (simp only [i64_w, i32_w]; rw [al]) | skip)
       have H' := zA H;clear H
       go_wp2
       repeat (go_quiet (fail); try go_wp2)
       go_meet
       case rel => exact ⟨_, (true), zi, (by first | exact H' | (simp only [ac, a4, a5, aa, a6, a7]; exact H') | (simp only [ac, a4, a5, aa, a6, a7] at H' ⊢; exact H')), ⟨by have := aH.out; have := HK2.out; first | omega | exact Nat.le_refl _⟩, by repeat (first | exact Drawn0.refl _ | apply Drawn0.step)⟩
      rw [if_neg c26] at H;have al := decide_eq_false c26;clear c26
      (first | rw [al] | (simp only [i64_w, i32_w]; rw [al]) | skip)
      have H' := zA H;clear H
      go_wp2
      repeat (go_quiet (fail); try go_wp2)
      go_meet
      case rel => exact ⟨_, (decide ((IntKind.u64.wrap (af * (Go.bits .and .u64 (a3) 4294967295))) > (IntKind.u64.wrap ((IntKind.u64.wrap (4294967296 * aj)) + (Go.bits .and .u64 (a8) 4294967295))))), (by first | rfl | (simp; done) | (simp only [← a4, ← a7] <;> (first | rfl | simp)) | (simp [*]; done)), (by first | exact H' | (simp only [ac, a4, a5, aa, a6, a7]; exact H') | (simp only [ac, a4, a5, aa, a6, a7] at H' ⊢; exact H')), ⟨by have := aH.out; have := HK2.out; first | omega | exact Nat.le_refl _⟩, by repeat (first | exact Drawn0.refl _ | apply Drawn0.step)⟩
     case rest =>
      clear aM
      try clear c1
      try clear c4
      try clear ay
      try clear aA
      try clear c5
      try clear aB
      try clear c6
      try clear av
      try clear aw
      try clear c7
      try clear c9
      try clear aC
      try clear aD
      try clear c11
      try clear am
      try clear c14
      try clear an
      try clear ao
      try clear c16
      try clear ap
      try clear c18
      try clear aq
      try clear ar
      try clear c19
      try clear c21
      try clear ai
      try clear c22
      try clear c23
      try clear ax
      try clear c24
      try clear aN
      try clear aO
      try clear c26
      try clear al
      obtain ⟨kq, ak, rfl, HA, aQ, ⟨mc24, rfl⟩⟩ := hcut
      cases kq with
      | zero => exact absurd HA.out (by simp [bits_Div64.j4])
      | succ aV =>
       have H := HA.out;clear HA;simp only [bits_Div64.j4] at H
       by_cases c27 : ak = true
       ·subst c27;rw [if_pos rfl] at H
        by_cases c28 : (IntKind.u64.wrap (aj + ((a3) / 4294967296))) ≥ 4294967296
        ·rw [if_pos c28] at H;have aT : decide (4294967296 ≤ (IntKind.u64.wrap (aj + ((a3) / 4294967296)))) = true := decide_eq_true c28;clear c28;replace H := dn H;obtain ⟨c29, H⟩ := H;have aW := eq_true c29;have aX := decide_eq_true c29;clear c29;generalize aI : shr .u64 (IntKind.u64.wrap ((IntKind.u64.wrap ((IntKind.u64.wrap ((IntKind.u64.wrap ((IntKind.u64.wrap ((IntKind.u64.wrap ((Go.bits .or .u64 (ad) (ae)) * 4294967296)) + ((a8) / 4294967296))) - (IntKind.u64.wrap (a9 * a3)))) * 4294967296)) + (Go.bits .and .u64 (a8) 4294967295))) - (IntKind.u64.wrap ((IntKind.u64.wrap (af - 1)) * a3)))) ab = aR at H;have hji30_ : ((IntKind.u64.wrap ((IntKind.u64.wrap ((IntKind.u64.wrap ((IntKind.u64.wrap ((IntKind.u64.wrap ((IntKind.u64.wrap ((Go.bits .or .u64 (ad) (ae)) * 4294967296)) + ((a8) / 4294967296))) - (IntKind.u64.wrap (a9 * a3)))) * 4294967296)) + (Go.bits .and .u64 (a8) 4294967295))) - (IntKind.u64.wrap ((IntKind.u64.wrap (af - 1)) * a3)))) / 2 ^ min ab.toNat 64) = aR := aI;have hji30z : ab ≤ 64 → ((IntKind.u64.wrap ((IntKind.u64.wrap ((IntKind.u64.wrap ((IntKind.u64.wrap ((IntKind.u64.wrap ((IntKind.u64.wrap ((Go.bits .or .u64 (ad) (ae)) * 4294967296)) + ((a8) / 4294967296))) - (IntKind.u64.wrap (a9 * a3)))) * 4294967296)) + (Go.bits .and .u64 (a8) 4294967295))) - (IntKind.u64.wrap ((IntKind.u64.wrap (af - 1)) * a3)))) / 2 ^ ab.toNat) = aR := shr_small aI;simp only [Option.some.injEq, Prod.mk.injEq] at H;obtain ⟨rfl, rfl⟩ := H
         go_wp2
         repeat (go_quiet (fail); try go_wp2)
         go_ret2
         exact ⟨by first | rfl | (simp; done) | (simp only [← ac, ← a4, ← a5, ← aa, ← a6, ← a7, ← aI] <;> (first | rfl | simp)) | (simp [*]; done), by repeat (first | exact Drawn0.refl _ | apply Drawn0.step)⟩
        rw [if_neg c28] at H;have aT : decide (4294967296 ≤ (IntKind.u64.wrap (aj + ((a3) / 4294967296)))) = false := decide_eq_false c28;clear c28;have H' := zA H;clear H
        go_wp2
        repeat (go_quiet (fail); try go_wp2)
        go_roundg aV
        case measure => have := aH.out; have := HK2.out; have := aQ.out; omega
        case rel => exact ⟨(IntKind.u64.wrap (aj + ((a3) / 4294967296))), (IntKind.u64.wrap (af - 1)), (by first | rfl | (simp; done) | (simp only [← a4] <;> (first | rfl | simp)) | (simp [*]; done)), zi, (by first | exact H' | (simp only [ac, a4, a5, aa, a6, a7]; exact H') | (simp only [ac, a4, a5, aa, a6, a7] at H' ⊢; exact H')), ⟨by have := aH.out; have := HK2.out; have := aQ.out; omega⟩, by repeat (first | exact Drawn0.refl _ | apply Drawn0.step)⟩
       replace c27 := Bool.eq_false_iff.mpr c27;subst c27;rw [if_neg (show ¬ (false = true) by decide)] at H;replace H := dn H;obtain ⟨c31, H⟩ := H;have aY := eq_true c31;have az := decide_eq_true c31;clear c31;generalize aJ : shr .u64 (IntKind.u64.wrap ((IntKind.u64.wrap ((IntKind.u64.wrap ((IntKind.u64.wrap ((IntKind.u64.wrap ((IntKind.u64.wrap ((Go.bits .or .u64 (ad) (ae)) * 4294967296)) + ((a8) / 4294967296))) - (IntKind.u64.wrap (a9 * a3)))) * 4294967296)) + (Go.bits .and .u64 (a8) 4294967295))) - (IntKind.u64.wrap (af * a3)))) ab = aS at H;have hji32_ : ((IntKind.u64.wrap ((IntKind.u64.wrap ((IntKind.u64.wrap ((IntKind.u64.wrap ((IntKind.u64.wrap ((IntKind.u64.wrap ((Go.bits .or .u64 (ad) (ae)) * 4294967296)) + ((a8) / 4294967296))) - (IntKind.u64.wrap (a9 * a3)))) * 4294967296)) + (Go.bits .and .u64 (a8) 4294967295))) - (IntKind.u64.wrap (af * a3)))) / 2 ^ min ab.toNat 64) = aS := aJ;have hji32z : ab ≤ 64 → ((IntKind.u64.wrap ((IntKind.u64.wrap ((IntKind.u64.wrap ((IntKind.u64.wrap ((IntKind.u64.wrap ((IntKind.u64.wrap ((Go.bits .or .u64 (ad) (ae)) * 4294967296)) + ((a8) / 4294967296))) - (IntKind.u64.wrap (a9 * a3)))) * 4294967296)) + (Go.bits .and .u64 (a8) 4294967295))) - (IntKind.u64.wrap (af * a3)))) / 2 ^ ab.toNat) = aS := shr_small aJ;simp only [Option.some.injEq, Prod.mk.injEq] at H;obtain ⟨rfl, rfl⟩ := H
       go_wp2
       repeat (go_quiet (fail); try go_wp2)
       go_ret2
       exact ⟨by first | rfl | (simp; done) | (simp only [← ac, ← a4, ← a5, ← aa, ← a6, ← a7, ← aJ] <;> (first | rfl | simp)) | (simp [*]; done), by repeat (first | exact Drawn0.refl _ | apply Drawn0.step)⟩
def nat_number_short.l0 : Nat → List Int → Int → List Int → Int → Int → Option (List Int × Int)
 | 0, _, _, _, _, _ => none
 | k + 1, x0, x1, x6, x7, x8 => if x8 ≥ 0 then (if 0 ≤ x8 then (if x8 < (x0.length : Int) then ((bits_Div64.f k x7 (rd x0 x8) x1).bind fun a1 => (if x8 < (x6.length : Int) then (nat_number_short.l0 k x0 x1 (x6.set (x8 : Int).toNat a1.1) a1.2 (wrap64 (x8 - 1))) else (none))) else (none)) else (none)) else ((nat_norm.f k x6).bind fun a2 => (some (a2, x7)))
def nat_number_short.f (k : Nat) (l0 : List Int) (a1 : Int) : Option (List Int × Int) := if 0 ≤ (l0.length : Int) then (if ((l0.length : Int) : Int).toNat ≤ 35184372088832 then (nat_number_short.l0 k l0 a1 (List.replicate ((l0.length : Int) : Int).toNat 0) 0 (wrap64 ((l0.length : Int) - 1))) else (none)) else (none)
set_option maxHeartbeats 8000000 in
set_option maxRecDepth 100000 in
theorem nat_number_short.calls (k : Nat) (A0 : Option Addr) (c0 : Nat) (l0 : List Int) (a1 : Int) (r1 : List Int) (r2 : Int) (w : World) (hr0 : Kd.C (Kd.int .u64) w A0 l0.length l0) (hc0 : l0.length ≤ c0) (h : nat_number_short.f k l0 a1 = some (r1, r2)) :
  Calls Tryd.prog 63 #[.slice A0 l0.length c0, .int .u64 a1] w fun e w' => ∃ v0_ : Value, e = .returned (.tuple #[v0_, .int .u64 r2]) ∧ Kd.V (Kd.int .u64) 22 w' w.heap.size (fun k_ => (w.heap.size ≤ k_)) v0_ r1 ∧ Below w.heap.size w w' := by
 have ay := zA hr0;have aG := zA hc0;clear hr0 hc0;have HB := zA (Below.refl w.heap.size w);have H := h
 unfold nat_number_short.f at H
 clear h;replace H := dn H;obtain ⟨c3, H⟩ := H;have al := eq_true c3;have am := decide_eq_true c3;clear c3;replace H := dn H;obtain ⟨c4, H⟩ := H;have an := eq_true c4;have ao := decide_eq_true c4;clear c4;obtain ⟨ap, a6⟩ : ∃ y_ : List Int, y_ = (List.replicate ((l0.length : Int) : Int).toNat 0) := ⟨_, rfl⟩;(first | replace H := zRb a6 H | rw [← a6] at H | skip);have ab := zA a6;clear a6;have H' := zA H;clear H;go_enter Tryd.func63, Tryd.ntmps63
 go_wp2_with (first | ((with_reducible refine zD 11 rfl ?_); refine R_make (Kd.int .u64) _ 22 rfl (N := 11) rfl 58 _ _ rfl (l0.length : Int) rfl rfl Tryd.underlying58 (.int .u64 0) 8 info22 rfl (by decide) (by omega) 0 (ok := fun _ => True) (okp := fun _ => True) rfl (fun _ hk => hk) trivial (od) (Nat.le_trans (Nat.mul_le_mul_right _ (od : (l0.length : Int).toNat ≤ 35184372088832)) (by omega)) (Below.refl _ _) (Nat.le_refl _) ?_; intro v200 w5 aa hb hg_ hnew_; clear hg_ hnew_; (first | rw [← ab.out] at aa | (simp only [Int.reduceToNat] at aa; rw [← ab.out] at aa)); have ag := zA (R_lower (R_newM (M := fun k_ => (w.heap.size ≤ k_)) aa (below_size bq) (fun k_ h_ => h_)) (below_size bq)); replace HB := ze hb; clear hb aa))
 go_loopg [7, 8] k (fun kq v7 v8 w' => ∃ (a4 : List Int) (a8 : Int) (a2 : Int), v7 = .int .u64 a8 ∧ v8 = .int .i64 a2 ∧ Aside0 (nat_number_short.l0 kq l0 a1 a4 a8 a2 = some (r1, r2)) ∧ Aside0 (kq ≤ k) ∧ Aside0 (Kd.R (Kd.int .u64) 22 w' w.heap.size (fun k_ => (w.heap.size ≤ k_)) v200 a4) ∧ Aside0 (Below w.heap.size w w'))
 case atStart => exact ⟨(ap), (0), (wrap64 ((l0.length : Int) - 1)), zi, zi, H', ⟨Nat.le_refl _⟩, ⟨ru (R_mono ag.out (fun _ hk => hk.1))⟩, ⟨bq⟩⟩
 case round =>
  clear H'
  try clear c3
  try clear al
  try clear am
  try clear c4
  try clear an
  try clear ao
  try clear c6
  obtain ⟨a4, a8, a2, rfl, rfl, HA, HK1, a3, HB⟩ := hrel
  cases gk with
  | zero => exact absurd HA.out (by simp [nat_number_short.l0])
  | succ k1 =>
   have H := HA.out;clear HA;simp only [nat_number_short.l0] at H
   by_cases c7 : a2 ≥ 0
   ·rw [if_pos c7] at H;have aq := decide_eq_true c7;clear c7;replace H := dn H;obtain ⟨c8, H⟩ := H;have aE := decide_eq_true c8;clear c8;replace H := dn H;obtain ⟨c9, H⟩ := H;have aF := decide_eq_true c9;clear c9;obtain ⟨⟨a9, ac⟩, aA, H⟩ := zh H;(try dsimp only at H);replace H := dn H;obtain ⟨c11, H⟩ := H;have aD := decide_eq_true c11;clear c11;obtain ⟨ad, a7⟩ : ∃ y_ : List Int, y_ = (a4.set (a2 : Int).toNat a9) := ⟨_, rfl⟩;(first | replace H := zRb a7 H | rw [← a7] at H | skip);have ah := zA a7;clear a7;have H' := zA H;clear H;have p202 : 0 ≤ (a2 : Int) := od;have q202 : a2 < (l0.length : Int) := od;obtain ⟨ad202, e202, a5⟩ := Kd.at_int ay.out a2 p202 q202;cases e202;replace a5 := (HB.out.cell (World.block_lt_of_cell? w _ a5)).trans a5;replace p202 := eq_true p202;replace q202 := eq_true q202
    go_wp2_with (first | ((with_reducible refine zG 79 rfl ?_); refine zC (some 28) Tryd.func79 (bits_Div64.calls k1 a8 (rd l0 a2) a1 a9 ac _ aA.out) ?_; rintro e w' ⟨rfl, ⟨nd, rfl⟩⟩; refine ⟨_, rfl, ?_⟩; (try (rw [drewN_self wr]; generalize hq_ : World.drewN wr _ = wr; have n0_ : Aside0 (Kd.R (Kd.int .u64) 22 wr w.heap.size (fun k_ => (w.heap.size ≤ k_)) v200 a4) := ⟨by rw [← hq_]; exact (ru a3.out)⟩; have n1_ : Aside0 (Below w.heap.size w wr) := ⟨by rw [← hq_]; exact bq⟩; clear a3 HB hq_; have a3 := n0_; have HB := n1_; clear n0_ n1_)); have p12 : 0 ≤ (a2 : Int) := od; have q12 : (a2 : Int) < ((a4.length : Int) : Int) := od; obtain ⟨go12, ar, ae, af, gl12, cl12, HG12⟩ := R_form a3.out (by omega); (first | cases ae | (injection ae with ea_ en_ ec_; (first | subst ea_ | (injection ea_ with ea_; subst ea_)); subst ec_; clear en_)); have GB12 := zA af; have GG12 := zA HG12; clear af gl12 HG12; obtain ⟨aB, hf12_0⟩ := R_celln 0 a3.out (a2 : Int) p12 q12; replace p12 := eq_true p12; replace q12 := eq_true q12; obtain ⟨hy13_, hz13_⟩ := R_celln 0 a3.out (a2 : Int) (od) (od); have HP13 := R_putg a3.out (a2 : Int) a9) | ((with_reducible refine gate_store (t := 22) (p := 31) rfl ?_); refine store_event (t := 22) (p := 31) (v := ?vo_w14) (w1 := (wr.setCell ⟨go12, (a2 : Int).toNat, none⟩ (.int .u64 a9))) ?hg ?ho ?hn ?hr ?_; (case ho => rfl); (case hg => rfl); (case hn => rfl); (case hr => first | (go_simp; done) | (go_simp; rfl)); intro w14 hw; have hg : wr.grownBy w14 (some go12) := (by rw [hw]; exact HP13.2); have hp_ : Kd.R (Kd.int .u64) 22 w14 w.heap.size (fun k_ => (w.heap.size ≤ k_)) (.slice (some ⟨go12, 0, none⟩) a4.length ar) ad := (by rw [hw, ah.out]; exact HP13.1); clear HP13; replace a3 := zA (hp_); replace HB := zA ((by rw [hw]; exact below_set (HB.out) GB12.out : Below w.heap.size w w14)); clear hg hw hp_))
    go_roundg k1
    case measure => have := HK1.out; omega
    case rel => exact ⟨(ad), (ac), (wrap64 (a2 - 1)), zi, zi, H', ⟨by have := HK1.out; omega⟩, ⟨ru a3.out⟩, ⟨bq⟩⟩
   rw [if_neg c7] at H;have aq := decide_eq_false c7;clear c7;obtain ⟨au, aC, H⟩ := zh H;simp only [Option.some.injEq, Prod.mk.injEq] at H;obtain ⟨rfl, rfl⟩ := H;obtain ⟨av, aw, ax⟩ := R_slice a3.out;subst ax
   go_wp2_with (first | ((with_reducible refine zG 38 rfl ?_); refine zC (some 33) Tryd.func38 (nat_norm.calls k1 (fun k_ => some k_ = (.slice av a4.length aw : Value).ownBlock) _ _ a4 au _ ?ai aC.out) ?_; (case ai => exact R_V (R_tight rfl (a3.out))); rintro e w17 ⟨v207, rfl, ak, hb⟩; refine ⟨_, rfl, ?_⟩; have aj := zA (V_lower (V_mono (ok' := fun k_ => (w.heap.size ≤ k_)) ak (fun k_ hk_ => Or.elim hk_ (fun hs_ => ((a3.out).1 k_ hs_.symm)) (fun hn_ => (Nat.le_trans (below_size bq) hn_)))) (below_size bq)); replace a3 := zA (R_below (ru a3.out) hb); replace HB := ze hb; (try clear ak)))
   go_ret2
   exact ⟨_, er, vu aj.out, bq⟩
mutual
def nat_digit.j0 : Nat → Int → Int → Int → Int → Int → Option (Int)
 | 0, _, _, _, _, _ => none
 | k + 1, x2, x3, x4, x11, x12 => nat_digit.l0 k x2 x3 x4 x11 x12
def nat_digit.l0 : Nat → Int → Int → Int → Int → Int → Option (Int)
 | 0, _, _, _, _, _ => none
 | k + 1, x2, x3, x4, x11, x12 => (bits_Mul64.f x11 x4).bind fun a1 => (if a1.1 < x12 then (nat_digit.j2 k x2 x3 x4 x11 x12 true) else (if a1.1 = x12 then (nat_digit.j2 k x2 x3 x4 x11 x12 (decide (a1.2 ≤ x2))) else (nat_digit.j2 k x2 x3 x4 x11 x12 false)))
def nat_digit.j2 : Nat → Int → Int → Int → Int → Int → Bool → Option (Int)
 | 0, _, _, _, _, _, _ => none
 | k + 1, x2, x3, x4, x11, x12, x54 => if x54 = true then (some x11) else (if (add64c x12 x3 0) > 0 then (some (IntKind.u64.wrap (x11 - 1))) else (nat_digit.l0 k x2 x3 x4 (IntKind.u64.wrap (x11 - 1)) (add64s x12 x3 0)))
end
def nat_digit.f (k : Nat) (a0 : Int) (a1 : Int) (a2 : Int) (a3 : Int) (a4 : Int) : Option (Int) := if a0 < a3 then ((bits_Div64.f k a0 a1 a3).bind fun a5 => (nat_digit.j0 k a2 a3 a4 a5.1 a5.2)) else (if (add64c a1 a3 0) > 0 then (some 18446744073709551615) else (nat_digit.j0 k a2 a3 a4 18446744073709551615 (add64s a1 a3 0)))
set_option maxHeartbeats 8000000 in
set_option maxRecDepth 100000 in
theorem nat_digit.calls (k : Nat) (a0 : Int) (a1 : Int) (a2 : Int) (a3 : Int) (a4 : Int) (r : Int) (w : World) (h : nat_digit.f k a0 a1 a2 a3 a4 = some r) :
  Calls Tryd.prog 65 #[.int .u64 a0, .int .u64 a1, .int .u64 a2, .int .u64 a3, .int .u64 a4] w fun e w' => e = .returned (.int .u64 r) ∧ Drawn0 w w' := by
 have H := h
 unfold nat_digit.f at H
 clear h;have ai := zA H;clear H;go_enter Tryd.func65, Tryd.ntmps65
 go_upto_if 19 with (fail)
 go_cut [11, 12] (fun v11 v12 wc => ∃ (kq : Nat) (aa : Int) (ab : Int), v11 = .int .u64 aa ∧ v12 = .int .u64 ab ∧ Aside0 (nat_digit.j0 kq a2 a3 a4 aa ab = some r) ∧ Aside0 (kq ≤ k) ∧ Drawn0 w wc)
 case first =>
  have H := ai.out;clear ai
  by_cases c7 : a0 < a3
  ·rw [if_pos c7] at H;have a6 := decide_eq_true c7;clear c7
   (first | rw [a6] | (simp only [i64_w, i32_w]; rw [a6]) | skip)
   obtain ⟨⟨aj, ak⟩, A8, H⟩ := zh H;(try dsimp only at H);have H' := zA H;clear H
   go_wp2_with (first | ((with_reducible refine zG 79 rfl ?_); refine zC (some 24) Tryd.func79 (bits_Div64.calls k a0 a1 a3 aj ak _ A8.out) ?_; rintro e w' ⟨rfl, ⟨nd, rfl⟩⟩; refine ⟨_, rfl, ?_⟩))
   go_meet
   case rel => exact ⟨_, (aj), (ak), zi, zi, H', ⟨by first | omega | exact Nat.le_refl _⟩, by repeat (first | exact Drawn0.refl _ | apply Drawn0.step)⟩
  rw [if_neg c7] at H;have a6 := decide_eq_false c7;clear c7
  (first | rw [a6] | (simp only [i64_w, i32_w]; rw [a6]) | skip)
  by_cases c9 : (add64c a1 a3 0) > 0
  ·rw [if_pos c9] at H;have ac := decide_eq_true c9;clear c9;obtain rfl := Option.some.inj H
   go_wp2
   go_ret;exact ⟨by first | rfl | (simp; done) | (simp [*]; done), by repeat (first | exact Drawn0.refl _ | apply Drawn0.step)⟩
  rw [if_neg c9] at H;have ac := decide_eq_false c9;clear c9;have H' := zA H;clear H
  go_wp2
  go_meet
  case rel => exact ⟨_, (18446744073709551615), (add64s a1 a3 0), zi, zi, H', ⟨by first | omega | exact Nat.le_refl _⟩, by repeat (first | exact Drawn0.refl _ | apply Drawn0.step)⟩
 case rest =>
  clear ai
  try clear c6
  try clear c7
  try clear a6
  try clear c9
  try clear ac
  obtain ⟨kq, aa, ab, rfl, rfl, HA, ad, ⟨mc5, rfl⟩⟩ := hcut
  cases kq with
  | zero => exact absurd HA.out (by simp [nat_digit.j0])
  | succ ao =>
   have H := HA.out;clear HA;simp only [nat_digit.j0] at H;have H' := zA H;clear H
   go_wp2
   go_loopg [11, 12] ao (fun kq v11 v12 w' => ∃ (a7 : Int) (a5 : Int), v11 = .int .u64 a7 ∧ v12 = .int .u64 a5 ∧ Aside0 (nat_digit.l0 kq a2 a3 a4 a7 a5 = some r) ∧ Aside0 (kq ≤ ao) ∧ Drawn0 w w')
   case atStart => exact ⟨(aa), (ab), zi, zi, H', ⟨Nat.le_refl _⟩, by repeat (first | exact Drawn0.refl _ | apply Drawn0.step)⟩
   case round =>
    clear H'
    try clear c5
    try clear c6
    try clear c7
    try clear a6
    try clear c9
    try clear ac
    obtain ⟨a7, a5, rfl, rfl, HA, HK2, ⟨m2, rfl⟩⟩ := hrel
    cases gk with
    | zero => exact absurd HA.out (by simp [nat_digit.l0])
    | succ k2 =>
     have H := HA.out;clear HA;simp only [nat_digit.l0] at H;obtain ⟨⟨ae, al⟩, aq, H⟩ := zh H;(try dsimp only at H);have af := zA H;clear H
     go_upto_region 9 with (first | ((with_reducible refine zG 74 rfl ?_); refine zC (some 39) Tryd.func74 (bits_Mul64.calls a7 a4 ae al _ aq.out) ?_; rintro e w' ⟨rfl, ⟨nd, rfl⟩⟩; refine ⟨_, rfl, ?_⟩))
     (try simp only [Act.put, List.setIfInBounds_toArray, List.set_cons_zero, List.set_cons_succ])
     go_cut [54] (fun v54 wc => ∃ (kq : Nat) (a9 : Bool), v54 = .bool a9 ∧ Aside0 (nat_digit.j2 kq a2 a3 a4 a7 a5 a9 = some r) ∧ Aside0 (kq ≤ k2) ∧ Drawn0 w wc)
     case first =>
      have H := af.out;clear af
      by_cases c12 : ae < a5
      ·rw [if_pos c12] at H;have a8 := decide_eq_true c12;clear c12
       (first | rw [a8] | (simp only [i64_w, i32_w]; rw [a8]) | skip)
       have H' := zA H;clear H
       go_wp2
       go_meet
       case rel => exact ⟨_, (true), zi, H', ⟨by have := ad.out; have := HK2.out; first | omega | exact Nat.le_refl _⟩, by repeat (first | exact Drawn0.refl _ | apply Drawn0.step)⟩
      rw [if_neg c12] at H;have a8 := decide_eq_false c12;clear c12
      (first | rw [a8] | (simp only [i64_w, i32_w]; rw [a8]) | skip)
      by_cases c13 : ae = a5
      ·rw [if_pos c13] at H;have ag := beq_iff_eq.mpr c13;have ah := bne_eq_false_iff_eq.mpr c13;clear c13;have H' := zA H;clear H
       go_wp2
       go_meet
       case rel => exact ⟨_, (decide (al ≤ a2)), zi, H', ⟨by have := ad.out; have := HK2.out; first | omega | exact Nat.le_refl _⟩, by repeat (first | exact Drawn0.refl _ | apply Drawn0.step)⟩
      rw [if_neg c13] at H;have ag := beq_eq_false_iff_ne.mpr c13;have ah := bne_iff_ne.mpr c13;have H' := zA H;clear H
      go_wp2
      go_meet
      case rel => exact ⟨_, (false), zi, H', ⟨by have := ad.out; have := HK2.out; first | omega | exact Nat.le_refl _⟩, by repeat (first | exact Drawn0.refl _ | apply Drawn0.step)⟩
     case rest =>
      clear af
      try clear c1
      try clear c5
      try clear c6
      try clear c7
      try clear a6
      try clear c9
      try clear ac
      try clear c12
      try clear a8
      try clear c13
      try clear ag
      try clear ah
      obtain ⟨kq, a9, rfl, HA, am, ⟨mc10, rfl⟩⟩ := hcut
      cases kq with
      | zero => exact absurd HA.out (by simp [nat_digit.j2])
      | succ ap =>
       have H := HA.out;clear HA;simp only [nat_digit.j2] at H
       by_cases c14 : a9 = true
       ·subst c14;rw [if_pos rfl] at H;obtain rfl := Option.some.inj H
        go_wp2
        go_ret;exact ⟨by first | rfl | (simp; done) | (simp [*]; done), by repeat (first | exact Drawn0.refl _ | apply Drawn0.step)⟩
       replace c14 := Bool.eq_false_iff.mpr c14;subst c14;rw [if_neg (show ¬ (false = true) by decide)] at H
       by_cases c15 : (add64c a5 a3 0) > 0
       ·rw [if_pos c15] at H;have an := decide_eq_true c15;clear c15;obtain rfl := Option.some.inj H
        go_wp2
        go_ret;exact ⟨by first | rfl | (simp; done) | (simp [*]; done), by repeat (first | exact Drawn0.refl _ | apply Drawn0.step)⟩
       rw [if_neg c15] at H;have an := decide_eq_false c15;clear c15;have H' := zA H;clear H
       go_wp2
       go_roundg ap
       case measure => have := ad.out; have := HK2.out; have := am.out; omega
       case rel => exact ⟨(IntKind.u64.wrap (a7 - 1)), (add64s a5 a3 0), zi, zi, H', ⟨by have := ad.out; have := HK2.out; have := am.out; omega⟩, by repeat (first | exact Drawn0.refl _ | apply Drawn0.step)⟩
def nat_number_less.l0 : Nat → List Int → List Int → Int → Int → Int → List Int → Int → Int → Option (Bool × List Int)
 | 0, _, _, _, _, _, _, _, _ => none
 | k + 1, x0, x1, x2, x7, x8, x14, x15, x16 => if x16 < x15 then (if 0 ≤ x16 then (if x16 < (x14.length : Int) then ((bits_Mul64.f (rd x14 x16) x2).bind fun a1 => (if x16 < (x0.length : Int) then (if x8 ≤ 1 then (nat_number_less.l0 k (x0.set (x16 : Int).toNat (sub64s (rd x0 x16) (add64s a1.2 x7 0) x8)) x1 x2 (IntKind.u64.wrap (a1.1 + (add64c a1.2 x7 0))) (sub64c (rd x0 x16) (add64s a1.2 x7 0) x8) x14 x15 (wrap64 (x16 + 1))) else (none)) else (none))) else (none)) else (none)) else (if 0 ≤ (x1.length : Int) then (if (x1.length : Int) < (x0.length : Int) then (if x8 ≤ 1 then (some (decide ((sub64c (rd x0 (x1.length : Int)) x7 x8) > 0), (x0.set ((x1.length : Int) : Int).toNat (sub64s (rd x0 (x1.length : Int)) x7 x8)))) else (none)) else (none)) else (none))
def nat_number_less.f (k : Nat) (l0 : List Int) (l1 : List Int) (a2 : Int) : Option (Bool × List Int) := nat_number_less.l0 k l0 l1 a2 0 0 l1 (l1.length : Int) 0
def nat_number_back.l0 : Nat → List Int → List Int → Int → List Int → Int → Int → Option (List Int)
 | 0, _, _, _, _, _, _ => none
 | k + 1, x0, x1, x4, x7, x8, x9 => if x9 < x8 then (if 0 ≤ x9 then (if x9 < (x7.length : Int) then (if x9 < (x0.length : Int) then (if x4 ≤ 1 then (nat_number_back.l0 k (x0.set (x9 : Int).toNat (add64s (rd x0 x9) (rd x7 x9) x4)) x1 (add64c (rd x0 x9) (rd x7 x9) x4) x7 x8 (wrap64 (x9 + 1))) else (none)) else (none)) else (none)) else (none)) else (if 0 ≤ (x1.length : Int) then (if (x1.length : Int) < (x0.length : Int) then (some (x0.set ((x1.length : Int) : Int).toNat (IntKind.u64.wrap ((rd x0 (x1.length : Int)) + x4)))) else (none)) else (none))
def nat_number_back.f (k : Nat) (l0 : List Int) (l1 : List Int) : Option (List Int) := nat_number_back.l0 k l0 l1 0 l1 (l1.length : Int) 0
end Go.Proofs.YtjnfipkbgmdpaaaDoor.PAll
