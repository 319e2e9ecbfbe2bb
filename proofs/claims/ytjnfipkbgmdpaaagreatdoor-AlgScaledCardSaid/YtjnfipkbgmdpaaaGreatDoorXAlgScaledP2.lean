/- Printed functions, merged by a program of this session. -/
import Derived.Test.YtjnfipkbgmdpaaaGreatDoorXAlgScaledP1
namespace Go.Proofs.YtjnfipkbgmdpaaaGreatDoor.PAll
open Go.RowKit Go.Proofs.YtjnfipkbgmdpaaaGreatDoorW.PrintWords Go.Proofs.YtjnfipkbgmdpaaaGreatDoorW.PrintLast Go.Proofs.YtjnfipkbgmdpaaaGreatDoorW.PrintMore Go.Proofs.YtjnfipkbgmdpaaaGreatDoorW.PrintWords.Kd
attribute [local go_sem] max2_int min2_int max_two min_two max_three min_three max_four min_four   -- for this text's walks alone
set_option linter.unusedVariables false
set_option maxHeartbeats 8000000
set_option maxRecDepth 100000
set_option linter.unusedSimpArgs false
attribute [local go_sem] fld77_0 fld77_1 fld77_2 ext153 ext154
def Z9.l0 : Nat → Int → Int → List Int → List Int → Int → Int → Option (List Int)
 | 0, _, _, _, _, _, _ => none
 | k + 1, x5, x6, x7, x23, x24, x25 => if x25 < x24 then (if 0 ≤ x25 then (if x25 < (x23.length : Int) then (if 0 ≤ (wrap64 (x25 + x5)) then (if (wrap64 (x25 + x5)) < (x7.length : Int) then (if 0 ≤ x6 then ((some (x7.set ((wrap64 (x25 + x5)) : Int).toNat (Go.bits .or .u64 (rd x7 (wrap64 (x25 + x5))) (shl .u64 (rd x23 x25) x6)) : List Int)).bind fun a1 => (if x6 > 0 then (if 0 ≤ (wrap64 (64 - x6)) then (if 0 ≤ (wrap64 ((wrap64 (x25 + x5)) + 1)) then (if (wrap64 ((wrap64 (x25 + x5)) + 1)) < (x7.length : Int) then (Z9.l0 k x5 x6 (a1.set ((wrap64 ((wrap64 (x25 + x5)) + 1)) : Int).toNat (shr .u64 (rd x23 x25) (wrap64 (64 - x6)))) x23 x24 (wrap64 (x25 + 1))) else (none)) else (none)) else (none)) else (Z9.l0 k x5 x6 a1 x23 x24 (wrap64 (x25 + 1))))) else (none)) else (none)) else (none)) else (none)) else (none)) else ((Zl.f k x7).bind fun a2 => (some a2))
def Z9.f (k : Nat) (l0 : List Int) (a1 : Int) : Option (List Int) := if (l0.length : Int) = 0 then (some ([] : List Int)) else (if 0 ≤ (wrap64 ((wrap64 ((l0.length : Int) + (wrap64 (Int.tdiv a1 64)))) + 1)) then (if (wrap64 ((wrap64 ((l0.length : Int) + (wrap64 (Int.tdiv a1 64)))) + 1) : Int).toNat ≤ 35184372088832 then (Z9.l0 k (wrap64 (Int.tdiv a1 64)) (Int.tmod a1 64) (List.replicate (wrap64 ((wrap64 ((l0.length : Int) + (wrap64 (Int.tdiv a1 64)))) + 1) : Int).toNat 0) l0 (l0.length : Int) 0) else (none)) else (none))
def Z9.T8 : Bool × List (List Nat × List Nat) := (true, [([], []), ([], []), ([], []), ([1, 2], [1, 2]), ([0, 3], [0, 3]), ([4], [4]), ([], []), ([], []), ([6, 7], [6, 7]), ([5, 8], [5, 8]), ([0, 3, 0, 1, 2, 3, 4, 5, 6, 7, 8, 9], [0, 3]), ([10, 9, 0, 1, 2, 3, 4, 5, 6, 7, 8, 9], [9, 10])])
def Z9.B8 : List Nat := [0, 0, 0, 6, 15, 31, 0, 0, 192, 511, 1023, 2047]
theorem Z9.tab8 : rtab .any (opsOf Tryz.f86 8) = Z9.T8 := by kernel_rfl
theorem Z9.bits8 : waitsOk Z9.T8.2 Z9.B8 = true := by kernel_rfl
theorem Z9.calls (k : Nat) (A0 : Option Addr) (c0 : Nat) (l0 : List Int) (a1 : Int) (r : List Int) (w : World) (hr0 : Kd.C Zu w A0 l0.length l0) (hc0 : l0.length ≤ c0) (h : Z9.f k l0 a1 = some r) :
  Calls Tryz.prog 86 #[.slice A0 l0.length c0, .int .i64 a1] w fun e w' => ∃ v0_ : Value, e = .returned (v0_) ∧ Kd.V Zu 22 w' w.heap.size (fun k_ => (w.heap.size ≤ k_)) v0_ r ∧ Below w.heap.size w w' := by
 have aG := zA hr0;have bb := zA hc0;clear hr0 hc0;have HB := zA (Below.refl w.heap.size w);have H := h
 unfold Z9.f at H
 clear h
 by_cases c3 : (l0.length : Int) = 0
 ·rw [if_pos c3] at H;have aH := beq_iff_eq.mpr c3;have aI := bne_eq_false_iff_eq.mpr c3;clear c3;obtain rfl := Option.some.inj H;go_enter Tryz.func86, Tryz.ntmps86
  go_wp2
  go_ret;exact ⟨_, er, V_nil _ _ _ _ _, bq⟩
 rw [if_neg c3] at H;have aH := beq_eq_false_iff_ne.mpr c3;have aI := bne_iff_ne.mpr c3
 have b3 : ¬ (l0 = []) := fun h_ => c3 (by rw [h_]; rfl)
 generalize ae : wrap64 ((wrap64 ((l0.length : Int) + (wrap64 (Int.tdiv a1 64)))) + 1) = au at H;have hji4w : (IntKind.i64.wrap ((wrap64 ((l0.length : Int) + (wrap64 (Int.tdiv a1 64)))) + 1)) = au := (i64_w _).trans ae;replace H := dn H;obtain ⟨c5, H⟩ := H;have b4 := eq_true c5;have b5 := decide_eq_true c5;clear c5;replace H := dn H;obtain ⟨c6, H⟩ := H;have b6 := eq_true c6;have b7 := decide_eq_true c6;clear c6;obtain ⟨aJ, af⟩ : ∃ y_ : List Int, y_ = (List.replicate (au : Int).toNat 0) := ⟨_, rfl⟩;(first | replace H := zRb af H | rw [← af] at H | skip);have av := zA af;clear af;have H' := zA H;clear H;go_enter Tryz.func86, Tryz.ntmps86
 go_wp2_with (first | ((with_reducible refine zD 22 rfl ?_); refine R_make Zu _ 22 rfl (N := 22) rfl 97 _ _ rfl au rfl rfl Tryz.underlying97 (.int .u64 0) 8 info22 rfl (by decide) (by omega) 0 (ok := fun _ => True) (okp := fun _ => True) rfl (fun _ hk => hk) trivial (od) (Nat.le_trans (Nat.mul_le_mul_right _ (od : au.toNat ≤ 35184372088832)) (by omega)) (Below.refl _ _) (Nat.le_refl _) ?_; intro v184 w7 aq hb hg_ hnew_; clear hg_ hnew_; (first | rw [← av.out] at aq | (simp only [Int.reduceToNat] at aq; rw [← av.out] at aq)); have aC := zA (R_lower (R_newM (M := fun k_ => (w.heap.size ≤ k_)) aq (below_size bq) (fun k_ h_ => h_)) (below_size bq)); replace HB := ze hb; clear hb aq))
 go_loopg [25] k (fun kq v25 w' => ∃ (a5 : List Int) (a4 : Int), v25 = .int .i64 a4 ∧ Aside0 (Z9.l0 kq (wrap64 (Int.tdiv a1 64)) (Int.tmod a1 64) a5 l0 (l0.length : Int) a4 = some r) ∧ Aside0 (kq ≤ k) ∧ Aside0 (Kd.R Zu 22 w' w.heap.size (fun k_ => (w.heap.size ≤ k_)) v184 a5) ∧ Aside0 (Below w.heap.size w w'))
 case atStart => exact ⟨(aJ), (0), zi, H', ⟨Nat.le_refl _⟩, ⟨ru (R_mono aC.out (fun _ hk => hk.1))⟩, ⟨bq⟩⟩
 case round =>
  clear H';obtain ⟨a5, a4, rfl, HA, HK1, a3, HB⟩ := hrel
  cases gk with
  | zero => exact absurd HA.out (by simp [Z9.l0])
  | succ k1 =>
   have H := HA.out;clear HA;simp only [Z9.l0] at H
   by_cases c9 : a4 < (l0.length : Int)
   ·rw [if_pos c9] at H;have aK := decide_eq_true c9;clear c9;replace H := dn H;obtain ⟨c10, H⟩ := H;have aT := decide_eq_true c10;clear c10;replace H := dn H;obtain ⟨c11, H⟩ := H;have aU := decide_eq_true c11;clear c11;generalize ad : wrap64 (a4 + (wrap64 (Int.tdiv a1 64))) = a2 at H;have hji12w : (IntKind.i64.wrap (a4 + (wrap64 (Int.tdiv a1 64)))) = a2 := (i64_w _).trans ad;replace H := dn H;obtain ⟨c13, H⟩ := H;have aV := decide_eq_true c13;clear c13;replace H := dn H;obtain ⟨c14, H⟩ := H;have aW := decide_eq_true c14;clear c14;generalize aa : Int.tmod a1 64 = ac at H;replace H := dn H;obtain ⟨c16, H⟩ := H;have aX := eq_true c16;have aY := decide_eq_true c16;clear c16;generalize ab : shl .u64 (rd l0 a4) (ac) = a8 at H;have hji17_ : (IntKind.u64.wrap ((rd l0 a4) * 2 ^ min (ac).toNat 64)) = a8 := ab;have hji17z : (ac) ≤ 64 → (IntKind.u64.wrap ((rd l0 a4) * 2 ^ (ac).toNat)) = a8 := shl_small ab;obtain ⟨ar, ag⟩ : ∃ y_ : List Int, y_ = (a5.set ((a2) : Int).toNat (Go.bits .or .u64 (rd a5 (a2)) (a8))) := ⟨_, rfl⟩;(first | replace H := zRb ag H | rw [← ag] at H | skip);have aw := zA ag;clear ag
    by_cases c19 : (ac) > 0
    ·rw [if_pos c19] at H;have aD := decide_eq_true c19;clear c19;generalize ah : wrap64 (64 - (ac)) = ak at H;have hji20w : (IntKind.i64.wrap (64 - (ac))) = ak := (i64_w _).trans ah;replace H := dn H;obtain ⟨c21, H⟩ := H;have az := eq_true c21;have aZ := decide_eq_true c21;clear c21;generalize ai : shr .u64 (rd l0 a4) (ak) = al at H;have hji22_ : ((rd l0 a4) / 2 ^ min (ak).toNat 64) = al := ai;have hji22z : (ak) ≤ 64 → ((rd l0 a4) / 2 ^ (ak).toNat) = al := shr_small ai;generalize ap : wrap64 ((a2) + 1) = a9 at H;have hji23w : (IntKind.i64.wrap ((a2) + 1)) = a9 := (i64_w _).trans ap;replace H := dn H;obtain ⟨c24, H⟩ := H;have b1 := decide_eq_true c24;clear c24;replace H := dn H;obtain ⟨c25, H⟩ := H;have b2 := decide_eq_true c25;clear c25;obtain ⟨ax, aj⟩ : ∃ y_ : List Int, y_ = (ar.set ((a9) : Int).toNat (al)) := ⟨_, rfl⟩;(first | replace H := zRb aj H | rw [← aj] at H | skip);have aE := zA aj;clear aj;have H' := zA H;clear H;have p186 : 0 ≤ (a4 : Int) := od;have q186 : a4 < (l0.length : Int) := od;obtain ⟨ad186, e186, a6⟩ := Kd.at_int aG.out a4 p186 q186;cases e186;replace a6 := (HB.out.cell (World.block_lt_of_cell? w _ a6)).trans a6;replace p186 := eq_true p186;replace q186 := eq_true q186
     try go_wp2
     replace a3 := zA (R_drew a3.out);replace HB := zA (below_drew1 HB.out);obtain ⟨b8, ay, aA⟩ := R_slice a3.out
     (first | subst aA | (injection aA with f1_ f2_ f3_; have f4_ := f1_.symm; have f5_ := f3_.symm; clear f1_ f2_ f3_; subst f4_; subst f5_))
     have p187 : 0 ≤ ((a2) : Int) := od;have q187 : (a2) < (a5.length : Int) := od;obtain ⟨ad187, e187, a7⟩ := Kd.at_int (R_reads' a3.out).2.2 (a2) p187 q187;cases e187;replace p187 := eq_true p187;replace q187 := eq_true q187;have p18 : 0 ≤ ((a2) : Int) := od;have q18 : ((a2) : Int) < ((a5.length : Int) : Int) := od;obtain ⟨go18, aL, am, an, gl18, cl18, HG18⟩ := R_form a3.out (by omega)
     (first | cases am | (injection am with ea_ en_ ec_; (first | subst ea_ | (injection ea_ with ea_; subst ea_)); subst ec_; clear en_))
     have GB18 := zA an;have GG18 := zA HG18;clear an gl18 HG18
     (first | simp only [add_plain] at a7 | skip)
     obtain ⟨ao, hf18_0⟩ := R_celln 0 a3.out ((a2) : Int) p18 q18;replace p18 := eq_true p18;replace q18 := eq_true q18;have HP29 := R_putn a3.out ((a2) : Int) (Go.bits .or .u64 (rd a5 (a2)) (a8));rw [← aw.out] at HP29;have HQ29 := zA HP29;clear HP29;refine start_ (n := 12) (S := fun w' => w'.cell? ⟨go18, ((a2)).toNat, none⟩ = some (.int .u64 (rd a5 (a2)))) (ds := [11]) #[O, O, O, O, O, O, O, O, O, O, O, O] (by kernel_rfl) rfl rfl (a7) (fun hHeld => ?_); refine with_tabW Z9.tab8 Z9.bits8 (fun HT_ HW_ => ?_);generalize wr.drew = w27 at a3 HB GG18 HQ29 hf18_0 a7 ao hHeld ⊢;refine zP 0 30 #[I, O, O, O, O, O, O, O, O, O, O, O] ?_;refine zP 1 31 #[I, I, O, O, O, O, O, O, O, O, O, O] ?_;refine zP 2 32 #[I, I, I, O, O, O, O, O, O, O, O, O] ?_;refine zP 3 33 #[I, I, I, I, O, O, O, O, O, O, O, O] ?_;refine zP 4 34 #[I, I, I, I, I, O, O, O, O, O, O, O] ?_;refine zP 6 36 #[I, I, I, I, I, O, I, O, O, O, O, O] ?_;refine zP 7 37 #[I, I, I, I, I, O, I, I, O, O, O, O] ?_;refine zP 8 38 #[I, I, I, I, I, O, I, I, I, O, O, O] ?_;refine zT 5 35 #[I, I, I, I, I, I, I, I, I, O, O, O] ?_;refine zP 9 39 #[I, I, I, I, I, I, I, I, I, I, O, O] ?_;refine zP 10 40 #[I, I, I, I, I, I, I, I, I, I, I, O] ?_;refine last_ (i := 11) (N := none) #[I, I, I, I, I, I, I, I, I, I, I, I] rfl rfl (one_of HT_.out (by kernel_rfl)) (by decide) (fun K hK => ?_);refine skip_ (w1 := ?_) (by rfl) rfl ?_ ?_;rotate_left;·go_simp;rfl
     refine hK.out _ _ ?_;clear hK K;refine done_ (done_of HT_.out (by kernel_rfl)) ?_;have n0_ : Aside0 (Kd.R Zu 22 (w27.setCell ⟨go18, ((a2) : Int).toNat, none⟩ (.int .u64 (Go.bits .or .u64 (rd a5 (a2)) (a8)))) w.heap.size (fun k_ => (w.heap.size ≤ k_)) (.slice (some ⟨go18, 0, none⟩) a5.length ay) ar) := ⟨ru HQ29.out⟩;have n1_ : Aside0 (Below w.heap.size w (w27.setCell ⟨go18, ((a2) : Int).toNat, none⟩ (.int .u64 (Go.bits .or .u64 (rd a5 (a2)) (a8))))) := ⟨by repeat (first | (with_reducible first | exact HB.out | apply below_alloc | apply pw_below_drewN | apply below_drew1 | refine below_set ?_ GB18.out) | exact HB.out)⟩;generalize (w27.setCell ⟨go18, ((a2) : Int).toNat, none⟩ (.int .u64 (Go.bits .or .u64 (rd a5 (a2)) (a8)))) = w30 at n0_ n1_ ⊢;have a3 := n0_;have HB := n1_;clear n0_ n1_;have p26 : 0 ≤ ((a9) : Int) := od;have q26 : ((a9) : Int) < ((a5.length : Int) : Int) := od;obtain ⟨aQ, hf26_0⟩ := R_celln 0 a3.out ((a9) : Int) p26 q26;replace p26 := eq_true p26;replace q26 := eq_true q26;obtain ⟨hy31_, hz31_⟩ := R_celln 0 a3.out ((a9) : Int) (od) (od);have HP31 := R_putg a3.out ((a9) : Int) al
     try go_wp2_with (first | ((with_reducible refine gate_store (t := 22) (p := 52) rfl ?_); refine store_event (t := 22) (p := 52) (v := ?vo_w32) (w1 := (w30.setCell ⟨go18, ((a9) : Int).toNat, none⟩ (.int .u64 al))) ?hg ?ho ?hn ?hr ?_; (case ho => rfl); (case hg => rfl); (case hn => rfl); (case hr => first | (go_simp; done) | (go_simp; rfl)); intro w32 hw; have hg : w30.grownBy w32 (some go18) := (by rw [hw]; exact HP31.2); have hp_ : Kd.R Zu 22 w32 w.heap.size (fun k_ => (w.heap.size ≤ k_)) (.slice (some ⟨go18, 0, none⟩) a5.length ay) ax := (by rw [hw, aE.out]; exact HP31.1); clear HP31; replace a3 := zA (hp_); replace HB := zA ((by rw [hw]; exact below_set (HB.out) GB18.out : Below w.heap.size w w32)); clear hg hw hp_))
     (try simp only [← aa, ← ah])
     go_roundg k1
     case measure => have := HK1.out; omega
     case rel => exact ⟨(ax), (wrap64 (a4 + 1)), zi, (by first | exact H' | (simp only [ae, ad, aa, ab, ah, ai, ap]; exact H') | (simp only [ae, ad, aa, ab, ah, ai, ap] at H' ⊢; exact H')), ⟨by have := HK1.out; omega⟩, ⟨ru a3.out⟩, ⟨bq⟩⟩
    rw [if_neg c19] at H;have aD := decide_eq_false c19;clear c19;have H' := zA H;clear H;have p186 : 0 ≤ (a4 : Int) := od;have q186 : a4 < (l0.length : Int) := od;obtain ⟨ad186, e186, a6⟩ := Kd.at_int aG.out a4 p186 q186;cases e186;replace a6 := (HB.out.cell (World.block_lt_of_cell? w _ a6)).trans a6;replace p186 := eq_true p186;replace q186 := eq_true q186
    try go_wp2
    replace a3 := zA (R_drew a3.out);replace HB := zA (below_drew1 HB.out);obtain ⟨b9, ba, aB⟩ := R_slice a3.out
    (first | subst aB | (injection aB with f1_ f2_ f3_; have f4_ := f1_.symm; have f5_ := f3_.symm; clear f1_ f2_ f3_; subst f4_; subst f5_))
    have p187 : 0 ≤ ((a2) : Int) := od;have q187 : (a2) < (a5.length : Int) := od;obtain ⟨ad187, e187, a7⟩ := Kd.at_int (R_reads' a3.out).2.2 (a2) p187 q187;cases e187;replace p187 := eq_true p187;replace q187 := eq_true q187;have p18 : 0 ≤ ((a2) : Int) := od;have q18 : ((a2) : Int) < ((a5.length : Int) : Int) := od;obtain ⟨go18, aL, am, an, gl18, cl18, HG18⟩ := R_form a3.out (by omega)
    (first | cases am | (injection am with ea_ en_ ec_; (first | subst ea_ | (injection ea_ with ea_; subst ea_)); subst ec_; clear en_))
    have GB18 := zA an;have GG18 := zA HG18;clear an gl18 HG18
    (first | simp only [add_plain] at a7 | skip)
    obtain ⟨ao, hf18_0⟩ := R_celln 0 a3.out ((a2) : Int) p18 q18;replace p18 := eq_true p18;replace q18 := eq_true q18;have HP35 := R_putn a3.out ((a2) : Int) (Go.bits .or .u64 (rd a5 (a2)) (a8));rw [← aw.out] at HP35;have HQ35 := zA HP35;clear HP35;refine start_ (n := 12) (S := fun w' => w'.cell? ⟨go18, ((a2)).toNat, none⟩ = some (.int .u64 (rd a5 (a2)))) (ds := [11]) #[O, O, O, O, O, O, O, O, O, O, O, O] (by kernel_rfl) rfl rfl (a7) (fun hHeld => ?_); refine with_tabW Z9.tab8 Z9.bits8 (fun HT_ HW_ => ?_);generalize wr.drew = w33 at a3 HB GG18 HQ35 hf18_0 a7 ao hHeld ⊢;refine zP 0 30 #[I, O, O, O, O, O, O, O, O, O, O, O] ?_;refine zP 1 31 #[I, I, O, O, O, O, O, O, O, O, O, O] ?_;refine zP 2 32 #[I, I, I, O, O, O, O, O, O, O, O, O] ?_;refine zP 3 33 #[I, I, I, I, O, O, O, O, O, O, O, O] ?_;refine zP 4 34 #[I, I, I, I, I, O, O, O, O, O, O, O] ?_;refine zP 6 36 #[I, I, I, I, I, O, I, O, O, O, O, O] ?_;refine zP 7 37 #[I, I, I, I, I, O, I, I, O, O, O, O] ?_;refine zP 8 38 #[I, I, I, I, I, O, I, I, I, O, O, O] ?_;refine zT 5 35 #[I, I, I, I, I, I, I, I, I, O, O, O] ?_;refine zP 9 39 #[I, I, I, I, I, I, I, I, I, I, O, O] ?_;refine zP 10 40 #[I, I, I, I, I, I, I, I, I, I, I, O] ?_;refine last_ (i := 11) (N := none) #[I, I, I, I, I, I, I, I, I, I, I, I] rfl rfl (one_of HT_.out (by kernel_rfl)) (by decide) (fun K hK => ?_);refine skip_ (w1 := ?_) (by rfl) rfl ?_ ?_;rotate_left;·go_simp;rfl
    refine hK.out _ _ ?_;clear hK K;refine done_ (done_of HT_.out (by kernel_rfl)) ?_
    try go_wp2
    (try simp only [← aa])
    go_roundg k1
    case measure => have := HK1.out; omega
    case rel => exact ⟨(ar), (wrap64 (a4 + 1)), zi, (by first | exact H' | (simp only [ae, ad, aa, ab]; exact H') | (simp only [ae, ad, aa, ab] at H' ⊢; exact H')), ⟨by have := HK1.out; omega⟩, ⟨ru HQ35.out⟩, ⟨by repeat (first | (with_reducible first | exact HB.out | apply below_alloc | apply pw_below_drewN | apply below_drew1 | refine below_set ?_ GB18.out) | exact HB.out)⟩⟩
   rw [if_neg c9] at H;have aK := decide_eq_false c9;clear c9;obtain ⟨aM, aR, H⟩ := zh H;obtain rfl := Option.some.inj H;obtain ⟨aN, aO, aP⟩ := R_slice a3.out;subst aP
   go_wp2_with (first | ((with_reducible refine zG 87 rfl ?_); refine zC (some 55) Tryz.func87 (Zl.calls k1 (fun k_ => some k_ = (.slice aN a5.length aO : Value).ownBlock) _ _ a5 aM _ (R_V (R_tight rfl (a3.out))) aR.out) ?_; rintro e w38 ⟨v191, rfl, aS, hb⟩; refine ⟨_, rfl, ?_⟩; have aF := zA (V_lower (V_mono (ok' := fun k_ => (w.heap.size ≤ k_)) aS (fun k_ hk_ => Or.elim hk_ (fun hs_ => ((a3.out).1 k_ hs_.symm)) (fun hn_ => (Nat.le_trans (below_size bq) hn_)))) (below_size bq)); replace a3 := zA (R_below (ru a3.out) hb); replace HB := ze hb))
   go_ret;exact ⟨_, by first | rfl | (simp [errW_none, errW_some] <;> rfl) | (simp only [← ae]; first | rfl | (simp [errW_none, errW_some] <;> rfl)) | (simp [*, errW_none, errW_some] <;> rfl), vu aF.out, bq⟩
def Zs.l0 : Nat → List Int → List Int → Int → Option (Int)
 | 0, _, _, _ => none
 | k + 1, x0, x1, x5 => if x5 ≥ 0 then (if 0 ≤ x5 then (if x5 < (x0.length : Int) then (if x5 < (x1.length : Int) then (if (rd x0 x5) < (rd x1 x5) then (some (-1)) else (if (rd x0 x5) > (rd x1 x5) then (some 1) else (Zs.l0 k x0 x1 (wrap64 (x5 - 1))))) else (none)) else (none)) else (none)) else (some 0)
def Zs.f (k : Nat) (l0 : List Int) (l1 : List Int) : Option (Int) := if (l0.length : Int) = (l1.length : Int) then (Zs.l0 k l0 l1 (wrap64 ((l0.length : Int) - 1))) else (if (l0.length : Int) < (l1.length : Int) then (some (-1)) else (some 1))
theorem Zs.calls (k : Nat) (A0 : Option Addr) (c0 : Nat) (l0 : List Int) (A1 : Option Addr) (c1 : Nat) (l1 : List Int) (r : Int) (w : World) (hr0 : Kd.C Zu w A0 l0.length l0) (hc0 : l0.length ≤ c0) (hr1 : Kd.C Zu w A1 l1.length l1) (hc1 : l1.length ≤ c1) (h : Zs.f k l0 l1 = some r) :
  Calls Tryz.prog 121 #[.slice A0 l0.length c0, .slice A1 l1.length c1] w fun e w' => e = .returned (.int .i64 r) ∧ Drawn0 w w' := by
 have a4 := zA hr0;have aj := zA hc0;clear hr0 hc0;have a5 := zA hr1;have ak := zA hc1;clear hr1 hc1;have H := h
 unfold Zs.f at H
 clear h
 by_cases c3 : (l0.length : Int) = (l1.length : Int)
 ·rw [if_pos c3] at H;have aa := beq_iff_eq.mpr c3;have ab := bne_eq_false_iff_eq.mpr c3
  have ac : (l0.length == l1.length) = true := by first | simpa using c3 | (simp at c3 ⊢; omega)
  clear c3;have H' := zA H;clear H;go_enter Tryz.func121, Tryz.ntmps121
  go_wp2
  repeat (go_quiet (fail); try go_wp2)
  go_loopg [5] k (fun kq v5 w' => ∃ (a1 : Int), v5 = .int .i64 a1 ∧ Aside0 (Zs.l0 kq l0 l1 a1 = some r) ∧ Aside0 (kq ≤ k) ∧ Drawn0 w w')
  case atStart => exact ⟨(wrap64 ((l0.length : Int) - 1)), zi, H', ⟨Nat.le_refl _⟩, by repeat (first | exact Drawn0.refl _ | apply Drawn0.step)⟩
  case round =>
   clear H';obtain ⟨a1, rfl, HA, HK1, ⟨m1, rfl⟩⟩ := hrel
   cases gk with
   | zero => exact absurd HA.out (by simp [Zs.l0])
   | succ k1 =>
    have H := HA.out;clear HA;simp only [Zs.l0] at H
    by_cases c4 : a1 ≥ 0
    ·rw [if_pos c4] at H;have ad := decide_eq_true c4;clear c4;replace H := dn H;obtain ⟨c5, H⟩ := H;have ag := decide_eq_true c5;clear c5;replace H := dn H;obtain ⟨c6, H⟩ := H;have ah := decide_eq_true c6;clear c6;replace H := dn H;obtain ⟨c7, H⟩ := H;have ai := decide_eq_true c7;clear c7
     by_cases c8 : (rd l0 a1) < (rd l1 a1)
     ·rw [if_pos c8] at H;have ae := decide_eq_true c8;clear c8;obtain rfl := Option.some.inj H;have p193 : 0 ≤ (a1 : Int) := od;have q193 : a1 < (l0.length : Int) := od;obtain ⟨ad193, e193, a2⟩ := Kd.at_int a4.out a1 p193 q193;cases e193;replace p193 := eq_true p193;replace q193 := eq_true q193;have p194 : 0 ≤ (a1 : Int) := od;have q194 : a1 < (l1.length : Int) := od;obtain ⟨ad194, e194, a3⟩ := Kd.at_int a5.out a1 p194 q194;cases e194;replace p194 := eq_true p194;replace q194 := eq_true q194
      go_wp2
      repeat (go_quiet (fail); try go_wp2)
      go_ret;exact ⟨by first | rfl | (simp; done) | (simp [*]; done), by repeat (first | exact Drawn0.refl _ | apply Drawn0.step)⟩
     rw [if_neg c8] at H;have ae := decide_eq_false c8;clear c8
     by_cases c9 : (rd l0 a1) > (rd l1 a1)
     ·rw [if_pos c9] at H;have af := decide_eq_true c9;clear c9;obtain rfl := Option.some.inj H;have p193 : 0 ≤ (a1 : Int) := od;have q193 : a1 < (l0.length : Int) := od;obtain ⟨ad193, e193, a2⟩ := Kd.at_int a4.out a1 p193 q193;cases e193;replace p193 := eq_true p193;replace q193 := eq_true q193;have p194 : 0 ≤ (a1 : Int) := od;have q194 : a1 < (l1.length : Int) := od;obtain ⟨ad194, e194, a3⟩ := Kd.at_int a5.out a1 p194 q194;cases e194;replace p194 := eq_true p194;replace q194 := eq_true q194;have p195 : 0 ≤ (a1 : Int) := od;have q195 : a1 < (l0.length : Int) := od;obtain ⟨ad195, e195, a6⟩ := Kd.at_int a4.out a1 p195 q195;obtain rfl : ad193 = ad195 := (by injection e195);replace p195 := eq_true p195;replace q195 := eq_true q195;have p196 : 0 ≤ (a1 : Int) := od;have q196 : a1 < (l1.length : Int) := od;obtain ⟨ad196, e196, a7⟩ := Kd.at_int a5.out a1 p196 q196;obtain rfl : ad194 = ad196 := (by injection e196);replace p196 := eq_true p196;replace q196 := eq_true q196
      go_wp2
      repeat (go_quiet (fail); try go_wp2)
      go_ret;exact ⟨by first | rfl | (simp; done) | (simp [*]; done), by repeat (first | exact Drawn0.refl _ | apply Drawn0.step)⟩
     rw [if_neg c9] at H;have af := decide_eq_false c9;clear c9;have H' := zA H;clear H;have p193 : 0 ≤ (a1 : Int) := od;have q193 : a1 < (l0.length : Int) := od;obtain ⟨ad193, e193, a2⟩ := Kd.at_int a4.out a1 p193 q193;cases e193;replace p193 := eq_true p193;replace q193 := eq_true q193;have p194 : 0 ≤ (a1 : Int) := od;have q194 : a1 < (l1.length : Int) := od;obtain ⟨ad194, e194, a3⟩ := Kd.at_int a5.out a1 p194 q194;cases e194;replace p194 := eq_true p194;replace q194 := eq_true q194;have p195 : 0 ≤ (a1 : Int) := od;have q195 : a1 < (l0.length : Int) := od;obtain ⟨ad195, e195, a6⟩ := Kd.at_int a4.out a1 p195 q195;obtain rfl : ad193 = ad195 := (by injection e195);replace p195 := eq_true p195;replace q195 := eq_true q195;have p196 : 0 ≤ (a1 : Int) := od;have q196 : a1 < (l1.length : Int) := od;obtain ⟨ad196, e196, a7⟩ := Kd.at_int a5.out a1 p196 q196;obtain rfl : ad194 = ad196 := (by injection e196);replace p196 := eq_true p196;replace q196 := eq_true q196
     go_wp2
     repeat (go_quiet (fail); try go_wp2)
     go_roundg k1
     case measure => have := HK1.out; omega
     case rel => exact ⟨(wrap64 (a1 - 1)), zi, H', ⟨by have := HK1.out; omega⟩, by repeat (first | exact Drawn0.refl _ | apply Drawn0.step)⟩
    rw [if_neg c4] at H;have ad := decide_eq_false c4;clear c4;obtain rfl := Option.some.inj H
    go_wp2
    repeat (go_quiet (fail); try go_wp2)
    go_ret;exact ⟨by first | rfl | (simp; done) | (simp [*]; done), by repeat (first | exact Drawn0.refl _ | apply Drawn0.step)⟩
 rw [if_neg c3] at H;have aa := beq_eq_false_iff_ne.mpr c3;have ab := bne_iff_ne.mpr c3
 have ac : (l0.length == l1.length) = false := by first | simpa using c3 | (simp at c3 ⊢; omega)
 by_cases c10 : (l0.length : Int) < (l1.length : Int)
 ·rw [if_pos c10] at H;have a8 := decide_eq_true c10;have a9 : decide (l0.length < l1.length) = true := decide_eq_true (Int.ofNat_lt.mp c10);clear c10;obtain rfl := Option.some.inj H;go_enter Tryz.func121, Tryz.ntmps121
  go_wp2
  repeat (go_quiet (fail); try go_wp2)
  go_ret;exact ⟨by first | rfl | (simp; done) | (simp [*]; done), by repeat (first | exact Drawn0.refl _ | apply Drawn0.step)⟩
 rw [if_neg c10] at H;have a8 := decide_eq_false c10;have a9 : decide (l0.length < l1.length) = false := decide_eq_false (fun h => c10 (Int.ofNat_lt.mpr h));clear c10;obtain rfl := Option.some.inj H;go_enter Tryz.func121, Tryz.ntmps121
 go_wp2
 repeat (go_quiet (fail); try go_wp2)
 go_ret;exact ⟨by first | rfl | (simp; done) | (simp [*]; done), by repeat (first | exact Drawn0.refl _ | apply Drawn0.step)⟩
def ZR.f (k : Nat) (a0 : Int) : Option (Int) := (Z0b.f k a0).bind fun a1 => (some (wrap64 (64 - a1)))
theorem ZR.calls (k : Nat) (a0 : Int) (r : Int) (w : World) (h : ZR.f k a0 = some r) :
  Calls Tryz.prog 123 #[.int .u64 a0] w fun e w' => e = .returned (.int .i64 r) ∧ Drawn0 w w' := by
 have H := h
 unfold ZR.f at H
 clear h;obtain ⟨a1, A2, H⟩ := zh H;obtain rfl := Option.some.inj H;go_enter Tryz.func123, Tryz.ntmps123
 go_wp2_with (first | ((with_reducible refine zG 120 rfl ?_); refine zC (some 4) Tryz.func120 (Z0b.calls k a0 a1 _ A2.out) ?_; rintro e w' ⟨rfl, ⟨nd, rfl⟩⟩; refine ⟨_, rfl, ?_⟩))
 go_ret;exact ⟨by first | rfl | (simp; done) | (simp [*]; done), by repeat (first | exact Drawn0.refl _ | apply Drawn0.step)⟩
mutual
def Z7.j2 : Nat → Int → Int → Int → Int → Int → Int → Int → Int → Option (Int × Int)
 | 0, _, _, _, _, _, _, _, _ => none
 | k + 1, x2, x8, x9, x10, x11, x13, x14, x15 => if x9 = 0 then (none) else (Z7.l1 k x2 x8 x9 x10 x14 x15 (IntKind.u64.wrap ((IntKind.u64.wrap ((IntKind.u64.wrap ((IntKind.u64.wrap (x11 * 4294967296)) + x13)) - (IntKind.u64.wrap (x15 * x2)))) - (IntKind.u64.wrap ((IntKind.u64.wrap (Int.tdiv (IntKind.u64.wrap ((IntKind.u64.wrap ((IntKind.u64.wrap (x11 * 4294967296)) + x13)) - (IntKind.u64.wrap (x15 * x2)))) x9)) * x9)))) (IntKind.u64.wrap ((IntKind.u64.wrap ((IntKind.u64.wrap (x11 * 4294967296)) + x13)) - (IntKind.u64.wrap (x15 * x2)))) (IntKind.u64.wrap (Int.tdiv (IntKind.u64.wrap ((IntKind.u64.wrap ((IntKind.u64.wrap (x11 * 4294967296)) + x13)) - (IntKind.u64.wrap (x15 * x2)))) x9)))
def Z7.l1 : Nat → Int → Int → Int → Int → Int → Int → Int → Int → Int → Option (Int × Int)
 | 0, _, _, _, _, _, _, _, _, _ => none
 | k + 1, x2, x8, x9, x10, x14, x15, x16, x17, x18 => if x18 ≥ 4294967296 then (Z7.j4 k x2 x8 x9 x10 x14 x15 x16 x17 x18 true) else (Z7.j4 k x2 x8 x9 x10 x14 x15 x16 x17 x18 (decide ((IntKind.u64.wrap (x18 * x10)) > (IntKind.u64.wrap ((IntKind.u64.wrap (4294967296 * x16)) + x14)))))
def Z7.j4 : Nat → Int → Int → Int → Int → Int → Int → Int → Int → Int → Bool → Option (Int × Int)
 | 0, _, _, _, _, _, _, _, _, _, _ => none
 | k + 1, x2, x8, x9, x10, x14, x15, x16, x17, x18, a1 => if a1 = true then (if (IntKind.u64.wrap (x16 + x9)) ≥ 4294967296 then (if 0 ≤ x8 then (some (IntKind.u64.wrap ((IntKind.u64.wrap (x15 * 4294967296)) + (IntKind.u64.wrap (x18 - 1))), shr .u64 (IntKind.u64.wrap ((IntKind.u64.wrap ((IntKind.u64.wrap (x17 * 4294967296)) + x14)) - (IntKind.u64.wrap ((IntKind.u64.wrap (x18 - 1)) * x2)))) x8)) else (none)) else (Z7.l1 k x2 x8 x9 x10 x14 x15 (IntKind.u64.wrap (x16 + x9)) x17 (IntKind.u64.wrap (x18 - 1)))) else (if 0 ≤ x8 then (some (IntKind.u64.wrap ((IntKind.u64.wrap (x15 * 4294967296)) + x18), shr .u64 (IntKind.u64.wrap ((IntKind.u64.wrap ((IntKind.u64.wrap (x17 * 4294967296)) + x14)) - (IntKind.u64.wrap (x18 * x2)))) x8)) else (none))
def Z7.l0 : Nat → Int → Int → Int → Int → Int → Int → Int → Int → Int → Option (Int × Int)
 | 0, _, _, _, _, _, _, _, _, _ => none
 | k + 1, x2, x8, x9, x10, x11, x13, x14, x15, x16 => if x15 ≥ 4294967296 then (Z7.j1 k x2 x8 x9 x10 x11 x13 x14 x15 x16 true) else (Z7.j1 k x2 x8 x9 x10 x11 x13 x14 x15 x16 (decide ((IntKind.u64.wrap (x15 * x10)) > (IntKind.u64.wrap ((IntKind.u64.wrap (4294967296 * x16)) + x13)))))
def Z7.j1 : Nat → Int → Int → Int → Int → Int → Int → Int → Int → Int → Bool → Option (Int × Int)
 | 0, _, _, _, _, _, _, _, _, _, _ => none
 | k + 1, x2, x8, x9, x10, x11, x13, x14, x15, x16, x78 => if x78 = true then (if (IntKind.u64.wrap (x16 + x9)) ≥ 4294967296 then (Z7.j2 k x2 x8 x9 x10 x11 x13 x14 (IntKind.u64.wrap (x15 - 1))) else (Z7.l0 k x2 x8 x9 x10 x11 x13 x14 (IntKind.u64.wrap (x15 - 1)) (IntKind.u64.wrap (x16 + x9)))) else (Z7.j2 k x2 x8 x9 x10 x11 x13 x14 x15)
end
def Z7.f (k : Nat) (a0 : Int) (a1 : Int) (a2 : Int) : Option (Int × Int) := if a2 = 0 then (none) else (if a2 ≤ a0 then (none) else (if a0 = 0 then (some (IntKind.u64.wrap (Int.tdiv a1 a2), Int.tmod a1 a2)) else ((ZR.f k a2).bind fun a3 => (if 0 ≤ (IntKind.u64.wrap (a3)) then (if 0 ≤ (IntKind.u64.wrap (64 - (IntKind.u64.wrap (a3)))) then (if ((shl .u64 a2 (IntKind.u64.wrap (a3))) / 4294967296) = 0 then (none) else (Z7.l0 k (shl .u64 a2 (IntKind.u64.wrap (a3))) (IntKind.u64.wrap (a3)) ((shl .u64 a2 (IntKind.u64.wrap (a3))) / 4294967296) (Go.bits .and .u64 (shl .u64 a2 (IntKind.u64.wrap (a3))) 4294967295) (Go.bits .or .u64 (shl .u64 a0 (IntKind.u64.wrap (a3))) (shr .u64 a1 (IntKind.u64.wrap (64 - (IntKind.u64.wrap (a3)))))) ((shl .u64 a1 (IntKind.u64.wrap (a3))) / 4294967296) (Go.bits .and .u64 (shl .u64 a1 (IntKind.u64.wrap (a3))) 4294967295) (IntKind.u64.wrap (Int.tdiv (Go.bits .or .u64 (shl .u64 a0 (IntKind.u64.wrap (a3))) (shr .u64 a1 (IntKind.u64.wrap (64 - (IntKind.u64.wrap (a3)))))) ((shl .u64 a2 (IntKind.u64.wrap (a3))) / 4294967296))) (IntKind.u64.wrap ((Go.bits .or .u64 (shl .u64 a0 (IntKind.u64.wrap (a3))) (shr .u64 a1 (IntKind.u64.wrap (64 - (IntKind.u64.wrap (a3)))))) - (IntKind.u64.wrap ((IntKind.u64.wrap (Int.tdiv (Go.bits .or .u64 (shl .u64 a0 (IntKind.u64.wrap (a3))) (shr .u64 a1 (IntKind.u64.wrap (64 - (IntKind.u64.wrap (a3)))))) ((shl .u64 a2 (IntKind.u64.wrap (a3))) / 4294967296))) * ((shl .u64 a2 (IntKind.u64.wrap (a3))) / 4294967296))))))) else (none)) else (none)))))
theorem Z7.calls (k : Nat) (a0 : Int) (a1 : Int) (a2 : Int) (r1 : Int) (r2 : Int) (w : World) (h : Z7.f k a0 a1 a2 = some (r1, r2)) :
  Calls Tryz.prog 155 #[.int .u64 a0, .int .u64 a1, .int .u64 a2] w fun e w' => e = .returned (.tuple #[.int .u64 r1, .int .u64 r2]) ∧ Drawn0 w w' := by
 have H := h
 unfold Z7.f at H
 clear h
 by_cases c4 : a2 = 0
 ·rw [if_pos c4] at H;exact absurd H (by simp)
 rw [if_neg c4] at H;have aV := beq_eq_false_iff_ne.mpr c4;have aW := bne_iff_ne.mpr c4
 by_cases c5 : a2 ≤ a0
 ·rw [if_pos c5] at H;exact absurd H (by simp)
 rw [if_neg c5] at H;have aX := decide_eq_false c5;clear c5
 by_cases c6 : a0 = 0
 ·rw [if_pos c6] at H;have aF := beq_iff_eq.mpr c6;have aG := bne_eq_false_iff_eq.mpr c6;clear c6;simp only [Option.some.injEq, Prod.mk.injEq] at H;obtain ⟨rfl, rfl⟩ := H;go_enter Tryz.func155, Tryz.ntmps155
  go_wp2
  repeat (go_quiet (fail); try go_wp2)
  go_ret2
  exact ⟨by first | rfl | (simp; done) | (simp [*]; done), by repeat (first | exact Drawn0.refl _ | apply Drawn0.step)⟩
 rw [if_neg c6] at H;have aF := beq_eq_false_iff_ne.mpr c6;have aG := bne_iff_ne.mpr c6;obtain ⟨an, A7, H⟩ := zh H;generalize ac : IntKind.u64.wrap (an) = ab at H;(try rw [ac] at A7);replace H := dn H;obtain ⟨c9, H⟩ := H;have aY := eq_true c9;have az := decide_eq_true c9;clear c9;generalize a4 : shl .u64 a2 (ab) = a3 at H;(try rw [a4] at A7);have hji10_ : (IntKind.u64.wrap (a2 * 2 ^ min (ab).toNat 64)) = a3 := a4;have hji10z : (ab) ≤ 64 → (IntKind.u64.wrap (a2 * 2 ^ (ab).toNat)) = a3 := shl_small a4;have aJ := eq_true (od : 0 ≤ (ab));generalize a5 : shl .u64 a0 (ab) = ad at H;(try rw [a5] at A7);have hji12_ : (IntKind.u64.wrap (a0 * 2 ^ min (ab).toNat 64)) = ad := a5;have hji12z : (ab) ≤ 64 → (IntKind.u64.wrap (a0 * 2 ^ (ab).toNat)) = ad := shl_small a5;generalize aa : IntKind.u64.wrap (64 - (ab)) = ao at H;(try rw [aa] at A7);replace H := dn H;obtain ⟨c14, H⟩ := H;have aK := eq_true c14;have aL := decide_eq_true c14;clear c14;generalize a6 : shr .u64 a1 (ao) = ae at H;(try rw [a6] at A7);have hji15_ : (a1 / 2 ^ min (ao).toNat 64) = ae := a6;have hji15z : (ao) ≤ 64 → (a1 / 2 ^ (ao).toNat) = ae := shr_small a6;have aM := eq_true (od : 0 ≤ (ab));generalize a7 : shl .u64 a1 (ab) = a8 at H;(try rw [a7] at A7);have hji17_ : (IntKind.u64.wrap (a1 * 2 ^ min (ab).toNat 64)) = a8 := a7;have hji17z : (ab) ≤ 64 → (IntKind.u64.wrap (a1 * 2 ^ (ab).toNat)) = a8 := shl_small a7
 by_cases c18 : ((a3) / 4294967296) = 0
 ·rw [if_pos c18] at H;exact absurd H (by simp)
 rw [if_neg c18] at H;have aN := beq_eq_false_iff_ne.mpr c18;have aO := bne_iff_ne.mpr c18;have av := zA H;clear H;go_enter Tryz.func155, Tryz.ntmps155
 go_upto_block 0 with (first | (go_at_call 123; (with_reducible refine (ZR.calls k a2 an _ A7.out).mono ?_); rintro e w' ⟨rfl, ⟨nd, rfl⟩⟩; (try first | exact ⟨rfl, _, World.drewN_drewN _ _ _⟩ | exact ⟨rfl, _, Eq.trans (World.drewN_drewN _ _ _) (congrArg (World.drewN _) (Nat.add_assoc _ _ _))⟩)))
 repeat (go_quiet (first | (go_at_call 123; (with_reducible refine (ZR.calls k a2 an _ A7.out).mono ?_); rintro e w' ⟨rfl, ⟨nd, rfl⟩⟩; (try first | exact ⟨rfl, _, World.drewN_drewN _ _ _⟩ | exact ⟨rfl, _, Eq.trans (World.drewN_drewN _ _ _) (congrArg (World.drewN _) (Nat.add_assoc _ _ _))⟩))); go_upto_block 0 with (first | (go_at_call 123; (with_reducible refine (ZR.calls k a2 an _ A7.out).mono ?_); rintro e w' ⟨rfl, ⟨nd, rfl⟩⟩; (try first | exact ⟨rfl, _, World.drewN_drewN _ _ _⟩ | exact ⟨rfl, _, Eq.trans (World.drewN_drewN _ _ _) (congrArg (World.drewN _) (Nat.add_assoc _ _ _))⟩))))
 (try simp only [Act.put, List.setIfInBounds_toArray, List.set_cons_zero, List.set_cons_succ])
 go_cut [15] (fun v15 wc => ∃ (kq : Nat) (a9 : Int), v15 = .int .u64 a9 ∧ Aside0 (Z7.j2 kq a3 ab ((a3) / 4294967296) (Go.bits .and .u64 (a3) 4294967295) (Go.bits .or .u64 (ad) (ae)) ((a8) / 4294967296) (Go.bits .and .u64 (a8) 4294967295) a9 = some (r1, r2)) ∧ Aside0 (kq ≤ k) ∧ Drawn0 w wc)
 case first =>
  have H := av.out;clear av;have H' := zA H;clear H
  go_wp2
  repeat (go_quiet (fail); try go_wp2)
  go_loopg [15, 16] k (fun kq v15 v16 w' => ∃ (ag : Int) (ah : Int), v15 = .int .u64 ag ∧ v16 = .int .u64 ah ∧ Aside0 (Z7.l0 kq a3 ab ((a3) / 4294967296) (Go.bits .and .u64 (a3) 4294967295) (Go.bits .or .u64 (ad) (ae)) ((a8) / 4294967296) (Go.bits .and .u64 (a8) 4294967295) ag ah = some (r1, r2)) ∧ Aside0 (kq ≤ k) ∧ Drawn0 w w')
  case atStart => exact ⟨(IntKind.u64.wrap (Int.tdiv (Go.bits .or .u64 (ad) (ae)) ((a3) / 4294967296))), (IntKind.u64.wrap ((Go.bits .or .u64 (ad) (ae)) - (IntKind.u64.wrap ((IntKind.u64.wrap (Int.tdiv (Go.bits .or .u64 (ad) (ae)) ((a3) / 4294967296))) * ((a3) / 4294967296))))), (by first | rfl | (simp; done) | (simp only [← a4, ← a5, ← a6] <;> (first | rfl | simp)) | (simp [*]; done)), (by first | rfl | (simp; done) | (simp only [← a4, ← a5, ← a6] <;> (first | rfl | simp)) | (simp [*]; done)), H', ⟨Nat.le_refl _⟩, by repeat (first | exact Drawn0.refl _ | apply Drawn0.step)⟩
  case round =>
   clear H';obtain ⟨ag, ah, rfl, rfl, HA, HK1, ⟨m1, rfl⟩⟩ := hrel
   cases gk with
   | zero => exact absurd HA.out (by simp [Z7.l0])
   | succ k1 =>
    have H := HA.out;clear HA;simp only [Z7.l0] at H;have aw := zA H;clear H
    go_upto_region 17 with (fail)
    repeat (go_quiet (fail); go_upto_region 17 with (fail))
    go_cut [78] (fun v78 wc => ∃ (kq : Nat) (ak : Bool), v78 = .bool ak ∧ Aside0 (Z7.j1 kq a3 ab ((a3) / 4294967296) (Go.bits .and .u64 (a3) 4294967295) (Go.bits .or .u64 (ad) (ae)) ((a8) / 4294967296) (Go.bits .and .u64 (a8) 4294967295) ag ah ak = some (r1, r2)) ∧ Aside0 (kq ≤ k1) ∧ Drawn0 w wc)
    case first =>
     have H := aw.out;clear aw
     by_cases c21 : ag ≥ 4294967296
     ·rw [if_pos c21] at H;have al := decide_eq_true c21;clear c21
      (first | rw [al] | (simp only [i64_w, i32_w]; rw [al]) | skip)
      have H' := zA H;clear H
      go_wp2
      repeat (go_quiet (fail); try go_wp2)
      go_meet
      case rel => exact ⟨_, (true), zi, (by first | exact H' | (simp only [ac, a4, a5, aa, a6, a7]; exact H') | (simp only [ac, a4, a5, aa, a6, a7] at H' ⊢; exact H')), ⟨by have := HK1.out; first | omega | exact Nat.le_refl _⟩, by repeat (first | exact Drawn0.refl _ | apply Drawn0.step)⟩
     rw [if_neg c21] at H;have al := decide_eq_false c21;clear c21
     (first | rw [al] | (simp only [i64_w, i32_w]; rw [al]) | skip)
     have H' := zA H;clear H
     go_wp2
     repeat (go_quiet (fail); try go_wp2)
     go_meet
     case rel => exact ⟨_, (decide ((IntKind.u64.wrap (ag * (Go.bits .and .u64 (a3) 4294967295))) > (IntKind.u64.wrap ((IntKind.u64.wrap (4294967296 * ah)) + ((a8) / 4294967296))))), (by first | rfl | (simp; done) | (simp only [← a4, ← a7] <;> (first | rfl | simp)) | (simp [*]; done)), (by first | exact H' | (simp only [ac, a4, a5, aa, a6, a7]; exact H') | (simp only [ac, a4, a5, aa, a6, a7] at H' ⊢; exact H')), ⟨by have := HK1.out; first | omega | exact Nat.le_refl _⟩, by repeat (first | exact Drawn0.refl _ | apply Drawn0.step)⟩
    case rest =>
     clear aw;obtain ⟨kq, ak, rfl, HA, ap, ⟨mc19, rfl⟩⟩ := hcut
     cases kq with
     | zero => exact absurd HA.out (by simp [Z7.j1])
     | succ aH =>
      have H := HA.out;clear HA;simp only [Z7.j1] at H
      by_cases c22 : ak = true
      ·subst c22;rw [if_pos rfl] at H
       by_cases c23 : (IntKind.u64.wrap (ah + ((a3) / 4294967296))) ≥ 4294967296
       ·rw [if_pos c23] at H;have aD : decide (4294967296 ≤ (IntKind.u64.wrap (ah + ((a3) / 4294967296)))) = true := decide_eq_true c23;clear c23;have H' := zA H;clear H
        go_wp2
        repeat (go_quiet (fail); try go_wp2)
        go_meet
        case rel => exact ⟨_, (IntKind.u64.wrap (ag - 1)), zi, (by first | exact H' | (simp only [ac, a4, a5, aa, a6, a7]; exact H') | (simp only [ac, a4, a5, aa, a6, a7] at H' ⊢; exact H')), ⟨by have := HK1.out; have := ap.out; first | omega | exact Nat.le_refl _⟩, by repeat (first | exact Drawn0.refl _ | apply Drawn0.step)⟩
       rw [if_neg c23] at H;have aD : decide (4294967296 ≤ (IntKind.u64.wrap (ah + ((a3) / 4294967296)))) = false := decide_eq_false c23;clear c23;have H' := zA H;clear H
       go_wp2
       repeat (go_quiet (fail); try go_wp2)
       go_roundg aH
       case measure => have := HK1.out; have := ap.out; omega
       case rel => exact ⟨(IntKind.u64.wrap (ag - 1)), (IntKind.u64.wrap (ah + ((a3) / 4294967296))), zi, (by first | rfl | (simp; done) | (simp only [← a4] <;> (first | rfl | simp)) | (simp [*]; done)), (by first | exact H' | (simp only [ac, a4, a5, aa, a6, a7]; exact H') | (simp only [ac, a4, a5, aa, a6, a7] at H' ⊢; exact H')), ⟨by have := HK1.out; have := ap.out; omega⟩, by repeat (first | exact Drawn0.refl _ | apply Drawn0.step)⟩
      replace c22 := Bool.eq_false_iff.mpr c22;subst c22;rw [if_neg (show ¬ (false = true) by decide)] at H;have H' := zA H;clear H
      go_wp2
      repeat (go_quiet (fail); try go_wp2)
      go_meet
      case rel => exact ⟨_, (ag), zi, (by first | exact H' | (simp only [ac, a4, a5, aa, a6, a7]; exact H') | (simp only [ac, a4, a5, aa, a6, a7] at H' ⊢; exact H')), ⟨by have := HK1.out; have := ap.out; first | omega | exact Nat.le_refl _⟩, by repeat (first | exact Drawn0.refl _ | apply Drawn0.step)⟩
 case rest =>
  clear av;obtain ⟨kq, a9, rfl, HA, aq, ⟨mc18, rfl⟩⟩ := hcut
  cases kq with
  | zero => exact absurd HA.out (by simp [Z7.j2])
  | succ ay =>
   have H := HA.out;clear HA;simp only [Z7.j2] at H
   by_cases c24 : ((a3) / 4294967296) = 0
   ·rw [if_pos c24] at H;exact absurd H (by simp)
   rw [if_neg c24] at H;have aP := beq_eq_false_iff_ne.mpr c24;have aQ := bne_iff_ne.mpr c24;have H' := zA H;clear H
   go_wp2
   repeat (go_quiet (fail); try go_wp2)
   go_loopg [16, 18] ay (fun kq v16 v18 w' => ∃ (ai : Int) (af : Int), v16 = .int .u64 ai ∧ v18 = .int .u64 af ∧ Aside0 (Z7.l1 kq a3 ab ((a3) / 4294967296) (Go.bits .and .u64 (a3) 4294967295) (Go.bits .and .u64 (a8) 4294967295) a9 ai (IntKind.u64.wrap ((IntKind.u64.wrap ((IntKind.u64.wrap ((Go.bits .or .u64 (ad) (ae)) * 4294967296)) + ((a8) / 4294967296))) - (IntKind.u64.wrap (a9 * a3)))) af = some (r1, r2)) ∧ Aside0 (kq ≤ ay) ∧ Drawn0 w w')
   case atStart => exact ⟨(IntKind.u64.wrap ((IntKind.u64.wrap ((IntKind.u64.wrap ((IntKind.u64.wrap ((Go.bits .or .u64 (ad) (ae)) * 4294967296)) + ((a8) / 4294967296))) - (IntKind.u64.wrap (a9 * a3)))) - (IntKind.u64.wrap ((IntKind.u64.wrap (Int.tdiv (IntKind.u64.wrap ((IntKind.u64.wrap ((IntKind.u64.wrap ((Go.bits .or .u64 (ad) (ae)) * 4294967296)) + ((a8) / 4294967296))) - (IntKind.u64.wrap (a9 * a3)))) ((a3) / 4294967296))) * ((a3) / 4294967296))))), (IntKind.u64.wrap (Int.tdiv (IntKind.u64.wrap ((IntKind.u64.wrap ((IntKind.u64.wrap ((Go.bits .or .u64 (ad) (ae)) * 4294967296)) + ((a8) / 4294967296))) - (IntKind.u64.wrap (a9 * a3)))) ((a3) / 4294967296))), (by first | rfl | (simp; done) | (simp only [← a4, ← a5, ← a6, ← a7] <;> (first | rfl | simp)) | (simp [*]; done)), (by first | rfl | (simp; done) | (simp only [← a4, ← a5, ← a6, ← a7] <;> (first | rfl | simp)) | (simp [*]; done)), H', ⟨Nat.le_refl _⟩, by repeat (first | exact Drawn0.refl _ | apply Drawn0.step)⟩
   case round =>
    clear H';obtain ⟨ai, af, rfl, rfl, HA, HK2, ⟨m2, rfl⟩⟩ := hrel
    cases gk with
    | zero => exact absurd HA.out (by simp [Z7.l1])
    | succ k2 =>
     have H := HA.out;clear HA;simp only [Z7.l1] at H;have ax := zA H;clear H
     go_upto_region 24 with (fail)
     repeat (go_quiet (fail); go_upto_region 24 with (fail))
     go_cut [113] (fun v113 wc => ∃ (kq : Nat) (aj : Bool), v113 = .bool aj ∧ Aside0 (Z7.j4 kq a3 ab ((a3) / 4294967296) (Go.bits .and .u64 (a3) 4294967295) (Go.bits .and .u64 (a8) 4294967295) a9 ai (IntKind.u64.wrap ((IntKind.u64.wrap ((IntKind.u64.wrap ((Go.bits .or .u64 (ad) (ae)) * 4294967296)) + ((a8) / 4294967296))) - (IntKind.u64.wrap (a9 * a3)))) af aj = some (r1, r2)) ∧ Aside0 (kq ≤ k2) ∧ Drawn0 w wc)
     case first =>
      have H := ax.out;clear ax
      by_cases c26 : af ≥ 4294967296
      ·rw [if_pos c26] at H;have am := decide_eq_true c26;clear c26
       (first | rw [am] | (simp only [i64_w, i32_w]; rw [am]) | skip)
       have H' := zA H;clear H
       go_wp2
       repeat (go_quiet (fail); try go_wp2)
       go_meet
       case rel => exact ⟨_, (true), zi, (by first | exact H' | (simp only [ac, a4, a5, aa, a6, a7]; exact H') | (simp only [ac, a4, a5, aa, a6, a7] at H' ⊢; exact H')), ⟨by have := aq.out; have := HK2.out; first | omega | exact Nat.le_refl _⟩, by repeat (first | exact Drawn0.refl _ | apply Drawn0.step)⟩
      rw [if_neg c26] at H;have am := decide_eq_false c26;clear c26
      (first | rw [am] | (simp only [i64_w, i32_w]; rw [am]) | skip)
      have H' := zA H;clear H
      go_wp2
      repeat (go_quiet (fail); try go_wp2)
      go_meet
      case rel => exact ⟨_, (decide ((IntKind.u64.wrap (af * (Go.bits .and .u64 (a3) 4294967295))) > (IntKind.u64.wrap ((IntKind.u64.wrap (4294967296 * ai)) + (Go.bits .and .u64 (a8) 4294967295))))), (by first | rfl | (simp; done) | (simp only [← a4, ← a7] <;> (first | rfl | simp)) | (simp [*]; done)), (by first | exact H' | (simp only [ac, a4, a5, aa, a6, a7]; exact H') | (simp only [ac, a4, a5, aa, a6, a7] at H' ⊢; exact H')), ⟨by have := aq.out; have := HK2.out; first | omega | exact Nat.le_refl _⟩, by repeat (first | exact Drawn0.refl _ | apply Drawn0.step)⟩
     case rest =>
      clear ax;obtain ⟨kq, aj, rfl, HA, aA, ⟨mc24, rfl⟩⟩ := hcut
      cases kq with
      | zero => exact absurd HA.out (by simp [Z7.j4])
      | succ aI =>
       have H := HA.out;clear HA;simp only [Z7.j4] at H
       by_cases c27 : aj = true
       ·subst c27;rw [if_pos rfl] at H
        by_cases c28 : (IntKind.u64.wrap (ai + ((a3) / 4294967296))) ≥ 4294967296
        ·rw [if_pos c28] at H;have aE : decide (4294967296 ≤ (IntKind.u64.wrap (ai + ((a3) / 4294967296)))) = true := decide_eq_true c28;clear c28;replace H := dn H;obtain ⟨c29, H⟩ := H;have aR := eq_true c29;have aS := decide_eq_true c29;clear c29;generalize ar : shr .u64 (IntKind.u64.wrap ((IntKind.u64.wrap ((IntKind.u64.wrap ((IntKind.u64.wrap ((IntKind.u64.wrap ((IntKind.u64.wrap ((Go.bits .or .u64 (ad) (ae)) * 4294967296)) + ((a8) / 4294967296))) - (IntKind.u64.wrap (a9 * a3)))) * 4294967296)) + (Go.bits .and .u64 (a8) 4294967295))) - (IntKind.u64.wrap ((IntKind.u64.wrap (af - 1)) * a3)))) ab = aB at H;have hji30_ : ((IntKind.u64.wrap ((IntKind.u64.wrap ((IntKind.u64.wrap ((IntKind.u64.wrap ((IntKind.u64.wrap ((IntKind.u64.wrap ((Go.bits .or .u64 (ad) (ae)) * 4294967296)) + ((a8) / 4294967296))) - (IntKind.u64.wrap (a9 * a3)))) * 4294967296)) + (Go.bits .and .u64 (a8) 4294967295))) - (IntKind.u64.wrap ((IntKind.u64.wrap (af - 1)) * a3)))) / 2 ^ min ab.toNat 64) = aB := ar;have hji30z : ab ≤ 64 → ((IntKind.u64.wrap ((IntKind.u64.wrap ((IntKind.u64.wrap ((IntKind.u64.wrap ((IntKind.u64.wrap ((IntKind.u64.wrap ((Go.bits .or .u64 (ad) (ae)) * 4294967296)) + ((a8) / 4294967296))) - (IntKind.u64.wrap (a9 * a3)))) * 4294967296)) + (Go.bits .and .u64 (a8) 4294967295))) - (IntKind.u64.wrap ((IntKind.u64.wrap (af - 1)) * a3)))) / 2 ^ ab.toNat) = aB := shr_small ar;simp only [Option.some.injEq, Prod.mk.injEq] at H;obtain ⟨rfl, rfl⟩ := H
         go_wp2
         repeat (go_quiet (fail); try go_wp2)
         go_ret2
         exact ⟨by first | rfl | (simp; done) | (simp only [← ac, ← a4, ← a5, ← aa, ← a6, ← a7, ← ar] <;> (first | rfl | simp)) | (simp [*]; done), by repeat (first | exact Drawn0.refl _ | apply Drawn0.step)⟩
        rw [if_neg c28] at H;have aE : decide (4294967296 ≤ (IntKind.u64.wrap (ai + ((a3) / 4294967296)))) = false := decide_eq_false c28;clear c28;have H' := zA H;clear H
        go_wp2
        repeat (go_quiet (fail); try go_wp2)
        go_roundg aI
        case measure => have := aq.out; have := HK2.out; have := aA.out; omega
        case rel => exact ⟨(IntKind.u64.wrap (ai + ((a3) / 4294967296))), (IntKind.u64.wrap (af - 1)), (by first | rfl | (simp; done) | (simp only [← a4] <;> (first | rfl | simp)) | (simp [*]; done)), zi, (by first | exact H' | (simp only [ac, a4, a5, aa, a6, a7]; exact H') | (simp only [ac, a4, a5, aa, a6, a7] at H' ⊢; exact H')), ⟨by have := aq.out; have := HK2.out; have := aA.out; omega⟩, by repeat (first | exact Drawn0.refl _ | apply Drawn0.step)⟩
       replace c27 := Bool.eq_false_iff.mpr c27;subst c27;rw [if_neg (show ¬ (false = true) by decide)] at H;replace H := dn H;obtain ⟨c31, H⟩ := H;have aT := eq_true c31;have aU := decide_eq_true c31;clear c31;generalize au : shr .u64 (IntKind.u64.wrap ((IntKind.u64.wrap ((IntKind.u64.wrap ((IntKind.u64.wrap ((IntKind.u64.wrap ((IntKind.u64.wrap ((Go.bits .or .u64 (ad) (ae)) * 4294967296)) + ((a8) / 4294967296))) - (IntKind.u64.wrap (a9 * a3)))) * 4294967296)) + (Go.bits .and .u64 (a8) 4294967295))) - (IntKind.u64.wrap (af * a3)))) ab = aC at H;have hji32_ : ((IntKind.u64.wrap ((IntKind.u64.wrap ((IntKind.u64.wrap ((IntKind.u64.wrap ((IntKind.u64.wrap ((IntKind.u64.wrap ((Go.bits .or .u64 (ad) (ae)) * 4294967296)) + ((a8) / 4294967296))) - (IntKind.u64.wrap (a9 * a3)))) * 4294967296)) + (Go.bits .and .u64 (a8) 4294967295))) - (IntKind.u64.wrap (af * a3)))) / 2 ^ min ab.toNat 64) = aC := au;have hji32z : ab ≤ 64 → ((IntKind.u64.wrap ((IntKind.u64.wrap ((IntKind.u64.wrap ((IntKind.u64.wrap ((IntKind.u64.wrap ((IntKind.u64.wrap ((Go.bits .or .u64 (ad) (ae)) * 4294967296)) + ((a8) / 4294967296))) - (IntKind.u64.wrap (a9 * a3)))) * 4294967296)) + (Go.bits .and .u64 (a8) 4294967295))) - (IntKind.u64.wrap (af * a3)))) / 2 ^ ab.toNat) = aC := shr_small au;simp only [Option.some.injEq, Prod.mk.injEq] at H;obtain ⟨rfl, rfl⟩ := H
       go_wp2
       repeat (go_quiet (fail); try go_wp2)
       go_ret2
       exact ⟨by first | rfl | (simp; done) | (simp only [← ac, ← a4, ← a5, ← aa, ← a6, ← a7, ← au] <;> (first | rfl | simp)) | (simp [*]; done), by repeat (first | exact Drawn0.refl _ | apply Drawn0.step)⟩
def Zn.l0 : Nat → List Int → Int → List Int → Int → Int → Option (List Int × Int)
 | 0, _, _, _, _, _ => none
 | k + 1, x0, x1, x6, x7, x8 => if x8 ≥ 0 then (if 0 ≤ x8 then (if x8 < (x0.length : Int) then ((Z7.f k x7 (rd x0 x8) x1).bind fun a1 => (if x8 < (x6.length : Int) then (Zn.l0 k x0 x1 (x6.set (x8 : Int).toNat a1.1) a1.2 (wrap64 (x8 - 1))) else (none))) else (none)) else (none)) else ((Zl.f k x6).bind fun a2 => (some (a2, x7)))
def Zn.f (k : Nat) (l0 : List Int) (a1 : Int) : Option (List Int × Int) := if 0 ≤ (l0.length : Int) then (if ((l0.length : Int) : Int).toNat ≤ 35184372088832 then (Zn.l0 k l0 a1 (List.replicate ((l0.length : Int) : Int).toNat 0) 0 (wrap64 ((l0.length : Int) - 1))) else (none)) else (none)
theorem Zn.calls (k : Nat) (A0 : Option Addr) (c0 : Nat) (l0 : List Int) (a1 : Int) (r1 : List Int) (r2 : Int) (w : World) (hr0 : Kd.C Zu w A0 l0.length l0) (hc0 : l0.length ≤ c0) (h : Zn.f k l0 a1 = some (r1, r2)) :
  Calls Tryz.prog 122 #[.slice A0 l0.length c0, .int .u64 a1] w fun e w' => ∃ v0_ : Value, e = .returned (.tuple #[v0_, .int .u64 r2]) ∧ Kd.V Zu 22 w' w.heap.size (fun k_ => (w.heap.size ≤ k_)) v0_ r1 ∧ Below w.heap.size w w' := by
 have aq := zA hr0;have aF := zA hc0;clear hr0 hc0;have HB := zA (Below.refl w.heap.size w);have H := h
 unfold Zn.f at H
 clear h;replace H := dn H;obtain ⟨c3, H⟩ := H;have ay := eq_true c3;have aA := decide_eq_true c3;clear c3;replace H := dn H;obtain ⟨c4, H⟩ := H;have aB := eq_true c4;have aC := decide_eq_true c4;clear c4;obtain ⟨aj, a6⟩ : ∃ y_ : List Int, y_ = (List.replicate ((l0.length : Int) : Int).toNat 0) := ⟨_, rfl⟩;(first | replace H := zRb a6 H | rw [← a6] at H | skip);have ab := zA a6;clear a6;have H' := zA H;clear H;go_enter Tryz.func122, Tryz.ntmps122
 go_wp2_with (first | ((with_reducible refine zD 11 rfl ?_); refine R_make Zu _ 22 rfl (N := 11) rfl 97 _ _ rfl (l0.length : Int) rfl rfl Tryz.underlying97 (.int .u64 0) 8 info22 rfl (by decide) (by omega) 0 (ok := fun _ => True) (okp := fun _ => True) rfl (fun _ hk => hk) trivial (od) (Nat.le_trans (Nat.mul_le_mul_right _ (od : (l0.length : Int).toNat ≤ 35184372088832)) (by omega)) (Below.refl _ _) (Nat.le_refl _) ?_; intro v200 w5 aa hb hg_ hnew_; clear hg_ hnew_; (first | rw [← ab.out] at aa | (simp only [Int.reduceToNat] at aa; rw [← ab.out] at aa)); have ag := zA (R_lower (R_newM (M := fun k_ => (w.heap.size ≤ k_)) aa (below_size bq) (fun k_ h_ => h_)) (below_size bq)); replace HB := ze hb; clear hb aa))
 go_loopg [7, 8] k (fun kq v7 v8 w' => ∃ (a4 : List Int) (a8 : Int) (a2 : Int), v7 = .int .u64 a8 ∧ v8 = .int .i64 a2 ∧ Aside0 (Zn.l0 kq l0 a1 a4 a8 a2 = some (r1, r2)) ∧ Aside0 (kq ≤ k) ∧ Aside0 (Kd.R Zu 22 w' w.heap.size (fun k_ => (w.heap.size ≤ k_)) v200 a4) ∧ Aside0 (Below w.heap.size w w'))
 case atStart => exact ⟨(aj), (0), (wrap64 ((l0.length : Int) - 1)), zi, zi, H', ⟨Nat.le_refl _⟩, ⟨ru (R_mono ag.out (fun _ hk => hk.1))⟩, ⟨bq⟩⟩
 case round =>
  clear H';obtain ⟨a4, a8, a2, rfl, rfl, HA, HK1, a3, HB⟩ := hrel
  cases gk with
  | zero => exact absurd HA.out (by simp [Zn.l0])
  | succ k1 =>
   have H := HA.out;clear HA;simp only [Zn.l0] at H
   by_cases c7 : a2 ≥ 0
   ·rw [if_pos c7] at H;have ak := decide_eq_true c7;clear c7;replace H := dn H;obtain ⟨c8, H⟩ := H;have aD := decide_eq_true c8;clear c8;replace H := dn H;obtain ⟨c9, H⟩ := H;have aE := decide_eq_true c9;clear c9;obtain ⟨⟨a9, ac⟩, ar, H⟩ := zh H;(try dsimp only at H);replace H := dn H;obtain ⟨c11, H⟩ := H;have ax := decide_eq_true c11;clear c11;obtain ⟨ad, a7⟩ : ∃ y_ : List Int, y_ = (a4.set (a2 : Int).toNat a9) := ⟨_, rfl⟩;(first | replace H := zRb a7 H | rw [← a7] at H | skip);have ah := zA a7;clear a7;have H' := zA H;clear H;have p202 : 0 ≤ (a2 : Int) := od;have q202 : a2 < (l0.length : Int) := od;obtain ⟨ad202, e202, a5⟩ := Kd.at_int aq.out a2 p202 q202;cases e202;replace a5 := (HB.out.cell (World.block_lt_of_cell? w _ a5)).trans a5;replace p202 := eq_true p202;replace q202 := eq_true q202
    go_wp2_with (first | ((with_reducible refine zG 155 rfl ?_); refine zC (some 28) Tryz.func155 (Z7.calls k1 a8 (rd l0 a2) a1 a9 ac _ ar.out) ?_; rintro e w' ⟨rfl, ⟨nd, rfl⟩⟩; refine ⟨_, rfl, ?_⟩; (try (rw [drewN_self wr]; generalize hq_ : World.drewN wr _ = wr; have n0_ : Aside0 (Kd.R Zu 22 wr w.heap.size (fun k_ => (w.heap.size ≤ k_)) v200 a4) := ⟨by rw [← hq_]; exact (ru a3.out)⟩; have n1_ : Aside0 (Below w.heap.size w wr) := ⟨by rw [← hq_]; exact bq⟩; clear a3 HB hq_; have a3 := n0_; have HB := n1_; clear n0_ n1_)); have p12 : 0 ≤ (a2 : Int) := od; have q12 : (a2 : Int) < ((a4.length : Int) : Int) := od; obtain ⟨go12, al, ae, af, gl12, cl12, HG12⟩ := R_form a3.out (by omega); (first | cases ae | (injection ae with ea_ en_ ec_; (first | subst ea_ | (injection ea_ with ea_; subst ea_)); subst ec_; clear en_)); have GB12 := zA af; have GG12 := zA HG12; clear af gl12 HG12; obtain ⟨au, hf12_0⟩ := R_celln 0 a3.out (a2 : Int) p12 q12; replace p12 := eq_true p12; replace q12 := eq_true q12; obtain ⟨hy13_, hz13_⟩ := R_celln 0 a3.out (a2 : Int) (od) (od); have HP13 := R_putg a3.out (a2 : Int) a9) | ((with_reducible refine gate_store (t := 22) (p := 31) rfl ?_); refine store_event (t := 22) (p := 31) (v := ?vo_w14) (w1 := (wr.setCell ⟨go12, (a2 : Int).toNat, none⟩ (.int .u64 a9))) ?hg ?ho ?hn ?hr ?_; (case ho => rfl); (case hg => rfl); (case hn => rfl); (case hr => first | (go_simp; done) | (go_simp; rfl)); intro w14 hw; have hg : wr.grownBy w14 (some go12) := (by rw [hw]; exact HP13.2); have hp_ : Kd.R Zu 22 w14 w.heap.size (fun k_ => (w.heap.size ≤ k_)) (.slice (some ⟨go12, 0, none⟩) a4.length al) ad := (by rw [hw, ah.out]; exact HP13.1); clear HP13; replace a3 := zA (hp_); replace HB := zA ((by rw [hw]; exact below_set (HB.out) GB12.out : Below w.heap.size w w14)); clear hg hw hp_))
    go_roundg k1
    case measure => have := HK1.out; omega
    case rel => exact ⟨(ad), (ac), (wrap64 (a2 - 1)), zi, zi, H', ⟨by have := HK1.out; omega⟩, ⟨ru a3.out⟩, ⟨bq⟩⟩
   rw [if_neg c7] at H;have ak := decide_eq_false c7;clear c7;obtain ⟨am, av, H⟩ := zh H;simp only [Option.some.injEq, Prod.mk.injEq] at H;obtain ⟨rfl, rfl⟩ := H;obtain ⟨an, ao, ap⟩ := R_slice a3.out;subst ap
   go_wp2_with (first | ((with_reducible refine zG 87 rfl ?_); refine zC (some 33) Tryz.func87 (Zl.calls k1 (fun k_ => some k_ = (.slice an a4.length ao : Value).ownBlock) _ _ a4 am _ (R_V (R_tight rfl (a3.out))) av.out) ?_; rintro e w17 ⟨v207, rfl, aw, hb⟩; refine ⟨_, rfl, ?_⟩; have ai := zA (V_lower (V_mono (ok' := fun k_ => (w.heap.size ≤ k_)) aw (fun k_ hk_ => Or.elim hk_ (fun hs_ => ((a3.out).1 k_ hs_.symm)) (fun hn_ => (Nat.le_trans (below_size bq) hn_)))) (below_size bq)); replace a3 := zA (R_below (ru a3.out) hb); replace HB := ze hb))
   go_ret2
   exact ⟨_, er, vu ai.out, bq⟩
mutual
def Zo.j0 : Nat → Int → Int → Int → Int → Int → Option (Int)
 | 0, _, _, _, _, _ => none
 | k + 1, x2, x3, x4, x11, x12 => Zo.l0 k x2 x3 x4 x11 x12
def Zo.l0 : Nat → Int → Int → Int → Int → Int → Option (Int)
 | 0, _, _, _, _, _ => none
 | k + 1, x2, x3, x4, x11, x12 => (Z0v.f x11 x4).bind fun a1 => (if a1.1 < x12 then (Zo.j2 k x2 x3 x4 x11 x12 true) else (if a1.1 = x12 then (Zo.j2 k x2 x3 x4 x11 x12 (decide (a1.2 ≤ x2))) else (Zo.j2 k x2 x3 x4 x11 x12 false)))
def Zo.j2 : Nat → Int → Int → Int → Int → Int → Bool → Option (Int)
 | 0, _, _, _, _, _, _ => none
 | k + 1, x2, x3, x4, x11, x12, x54 => if x54 = true then (some x11) else (if (add64c x12 x3 0) > 0 then (some (IntKind.u64.wrap (x11 - 1))) else (Zo.l0 k x2 x3 x4 (IntKind.u64.wrap (x11 - 1)) (add64s x12 x3 0)))
end
def Zo.f (k : Nat) (a0 : Int) (a1 : Int) (a2 : Int) (a3 : Int) (a4 : Int) : Option (Int) := if a0 < a3 then ((Z7.f k a0 a1 a3).bind fun a5 => (Zo.j0 k a2 a3 a4 a5.1 a5.2)) else (if (add64c a1 a3 0) > 0 then (some 18446744073709551615) else (Zo.j0 k a2 a3 a4 18446744073709551615 (add64s a1 a3 0)))
theorem Zo.calls (k : Nat) (a0 : Int) (a1 : Int) (a2 : Int) (a3 : Int) (a4 : Int) (r : Int) (w : World) (h : Zo.f k a0 a1 a2 a3 a4 = some r) :
  Calls Tryz.prog 124 #[.int .u64 a0, .int .u64 a1, .int .u64 a2, .int .u64 a3, .int .u64 a4] w fun e w' => e = .returned (.int .u64 r) ∧ Drawn0 w w' := by
 have H := h
 unfold Zo.f at H
 clear h;have af := zA H;clear H;go_enter Tryz.func124, Tryz.ntmps124
 go_upto_if 19 with (fail)
 go_cut [11, 12] (fun v11 v12 wc => ∃ (kq : Nat) (a9 : Int) (aa : Int), v11 = .int .u64 a9 ∧ v12 = .int .u64 aa ∧ Aside0 (Zo.j0 kq a2 a3 a4 a9 aa = some r) ∧ Aside0 (kq ≤ k) ∧ Drawn0 w wc)
 case first =>
  have H := af.out;clear af
  by_cases c7 : a0 < a3
  ·rw [if_pos c7] at H;have ab := decide_eq_true c7;clear c7
   (first | rw [ab] | (simp only [i64_w, i32_w]; rw [ab]) | skip)
   obtain ⟨⟨ag, ah⟩, A8, H⟩ := zh H;(try dsimp only at H);have H' := zA H;clear H
   go_wp2_with (first | ((with_reducible refine zG 155 rfl ?_); refine zC (some 24) Tryz.func155 (Z7.calls k a0 a1 a3 ag ah _ A8.out) ?_; rintro e w' ⟨rfl, ⟨nd, rfl⟩⟩; refine ⟨_, rfl, ?_⟩))
   go_meet
   case rel => exact ⟨_, (ag), (ah), zi, zi, H', ⟨by first | omega | exact Nat.le_refl _⟩, by repeat (first | exact Drawn0.refl _ | apply Drawn0.step)⟩
  rw [if_neg c7] at H;have ab := decide_eq_false c7;clear c7
  (first | rw [ab] | (simp only [i64_w, i32_w]; rw [ab]) | skip)
  by_cases c9 : (add64c a1 a3 0) > 0
  ·rw [if_pos c9] at H;have ao := decide_eq_true c9;clear c9;obtain rfl := Option.some.inj H
   go_wp2
   go_ret;exact ⟨by first | rfl | (simp; done) | (simp [*]; done), by repeat (first | exact Drawn0.refl _ | apply Drawn0.step)⟩
  rw [if_neg c9] at H;have ao := decide_eq_false c9;clear c9;have H' := zA H;clear H
  go_wp2
  go_meet
  case rel => exact ⟨_, (18446744073709551615), (add64s a1 a3 0), zi, zi, H', ⟨by first | omega | exact Nat.le_refl _⟩, by repeat (first | exact Drawn0.refl _ | apply Drawn0.step)⟩
 case rest =>
  clear af;obtain ⟨kq, a9, aa, rfl, rfl, HA, ac, ⟨mc5, rfl⟩⟩ := hcut
  cases kq with
  | zero => exact absurd HA.out (by simp [Zo.j0])
  | succ an =>
   have H := HA.out;clear HA;simp only [Zo.j0] at H;have H' := zA H;clear H
   go_wp2
   go_loopg [11, 12] an (fun kq v11 v12 w' => ∃ (a6 : Int) (a5 : Int), v11 = .int .u64 a6 ∧ v12 = .int .u64 a5 ∧ Aside0 (Zo.l0 kq a2 a3 a4 a6 a5 = some r) ∧ Aside0 (kq ≤ an) ∧ Drawn0 w w')
   case atStart => exact ⟨(a9), (aa), zi, zi, H', ⟨Nat.le_refl _⟩, by repeat (first | exact Drawn0.refl _ | apply Drawn0.step)⟩
   case round =>
    clear H';obtain ⟨a6, a5, rfl, rfl, HA, HK2, ⟨m2, rfl⟩⟩ := hrel
    cases gk with
    | zero => exact absurd HA.out (by simp [Zo.l0])
    | succ k2 =>
     have H := HA.out;clear HA;simp only [Zo.l0] at H;obtain ⟨⟨ad, ai⟩, aq, H⟩ := zh H;(try dsimp only at H);have ae := zA H;clear H
     go_upto_region 9 with (first | ((with_reducible refine zG 152 rfl ?_); refine zC (some 39) Tryz.func152 (Z0v.calls a6 a4 ad ai _ aq.out) ?_; rintro e w' ⟨rfl, ⟨nd, rfl⟩⟩; refine ⟨_, rfl, ?_⟩))
     (try simp only [Act.put, List.setIfInBounds_toArray, List.set_cons_zero, List.set_cons_succ])
     go_cut [54] (fun v54 wc => ∃ (kq : Nat) (a7 : Bool), v54 = .bool a7 ∧ Aside0 (Zo.j2 kq a2 a3 a4 a6 a5 a7 = some r) ∧ Aside0 (kq ≤ k2) ∧ Drawn0 w wc)
     case first =>
      have H := ae.out;clear ae
      by_cases c12 : ad < a5
      ·rw [if_pos c12] at H;have a8 := decide_eq_true c12;clear c12
       (first | rw [a8] | (simp only [i64_w, i32_w]; rw [a8]) | skip)
       have H' := zA H;clear H
       go_wp2
       go_meet
       case rel => exact ⟨_, (true), zi, H', ⟨by have := ac.out; have := HK2.out; first | omega | exact Nat.le_refl _⟩, by repeat (first | exact Drawn0.refl _ | apply Drawn0.step)⟩
      rw [if_neg c12] at H;have a8 := decide_eq_false c12;clear c12
      (first | rw [a8] | (simp only [i64_w, i32_w]; rw [a8]) | skip)
      by_cases c13 : ad = a5
      ·rw [if_pos c13] at H;have ak := beq_iff_eq.mpr c13;have al := bne_eq_false_iff_eq.mpr c13;clear c13;have H' := zA H;clear H
       go_wp2
       go_meet
       case rel => exact ⟨_, (decide (ai ≤ a2)), zi, H', ⟨by have := ac.out; have := HK2.out; first | omega | exact Nat.le_refl _⟩, by repeat (first | exact Drawn0.refl _ | apply Drawn0.step)⟩
      rw [if_neg c13] at H;have ak := beq_eq_false_iff_ne.mpr c13;have al := bne_iff_ne.mpr c13;have H' := zA H;clear H
      go_wp2
      go_meet
      case rel => exact ⟨_, (false), zi, H', ⟨by have := ac.out; have := HK2.out; first | omega | exact Nat.le_refl _⟩, by repeat (first | exact Drawn0.refl _ | apply Drawn0.step)⟩
     case rest =>
      clear ae;obtain ⟨kq, a7, rfl, HA, aj, ⟨mc10, rfl⟩⟩ := hcut
      cases kq with
      | zero => exact absurd HA.out (by simp [Zo.j2])
      | succ ap =>
       have H := HA.out;clear HA;simp only [Zo.j2] at H
       by_cases c14 : a7 = true
       ·subst c14;rw [if_pos rfl] at H;obtain rfl := Option.some.inj H
        go_wp2
        go_ret;exact ⟨by first | rfl | (simp; done) | (simp [*]; done), by repeat (first | exact Drawn0.refl _ | apply Drawn0.step)⟩
       replace c14 := Bool.eq_false_iff.mpr c14;subst c14;rw [if_neg (show ¬ (false = true) by decide)] at H
       by_cases c15 : (add64c a5 a3 0) > 0
       ·rw [if_pos c15] at H;have am := decide_eq_true c15;clear c15;obtain rfl := Option.some.inj H
        go_wp2
        go_ret;exact ⟨by first | rfl | (simp; done) | (simp [*]; done), by repeat (first | exact Drawn0.refl _ | apply Drawn0.step)⟩
       rw [if_neg c15] at H;have am := decide_eq_false c15;clear c15;have H' := zA H;clear H
       go_wp2
       go_roundg ap
       case measure => have := ac.out; have := HK2.out; have := aj.out; omega
       case rel => exact ⟨(IntKind.u64.wrap (a6 - 1)), (add64s a5 a3 0), zi, zi, H', ⟨by have := ac.out; have := HK2.out; have := aj.out; omega⟩, by repeat (first | exact Drawn0.refl _ | apply Drawn0.step)⟩
def ZJ.l0 : Nat → List Int → List Int → Int → Int → Int → List Int → Int → Int → Option (Bool × List Int)
 | 0, _, _, _, _, _, _, _, _ => none
 | k + 1, x0, x1, x2, x7, x8, x14, x15, x16 => if x16 < x15 then (if 0 ≤ x16 then (if x16 < (x14.length : Int) then ((Z0v.f (rd x14 x16) x2).bind fun a1 => (if x16 < (x0.length : Int) then (if x8 ≤ 1 then (ZJ.l0 k (x0.set (x16 : Int).toNat (sub64s (rd x0 x16) (add64s a1.2 x7 0) x8)) x1 x2 (IntKind.u64.wrap (a1.1 + (add64c a1.2 x7 0))) (sub64c (rd x0 x16) (add64s a1.2 x7 0) x8) x14 x15 (wrap64 (x16 + 1))) else (none)) else (none))) else (none)) else (none)) else (if 0 ≤ (x1.length : Int) then (if (x1.length : Int) < (x0.length : Int) then (if x8 ≤ 1 then (some (decide ((sub64c (rd x0 (x1.length : Int)) x7 x8) > 0), (x0.set ((x1.length : Int) : Int).toNat (sub64s (rd x0 (x1.length : Int)) x7 x8)))) else (none)) else (none)) else (none))
def ZJ.f (k : Nat) (l0 : List Int) (l1 : List Int) (a2 : Int) : Option (Bool × List Int) := ZJ.l0 k l0 l1 a2 0 0 l1 (l1.length : Int) 0
def ZK.l0 : Nat → List Int → List Int → Int → List Int → Int → Int → Option (List Int)
 | 0, _, _, _, _, _, _ => none
 | k + 1, x0, x1, x4, x7, x8, x9 => if x9 < x8 then (if 0 ≤ x9 then (if x9 < (x7.length : Int) then (if x9 < (x0.length : Int) then (if x4 ≤ 1 then (ZK.l0 k (x0.set (x9 : Int).toNat (add64s (rd x0 x9) (rd x7 x9) x4)) x1 (add64c (rd x0 x9) (rd x7 x9) x4) x7 x8 (wrap64 (x9 + 1))) else (none)) else (none)) else (none)) else (none)) else (if 0 ≤ (x1.length : Int) then (if (x1.length : Int) < (x0.length : Int) then (some (x0.set ((x1.length : Int) : Int).toNat (IntKind.u64.wrap ((rd x0 (x1.length : Int)) + x4)))) else (none)) else (none))
def ZK.f (k : Nat) (l0 : List Int) (l1 : List Int) : Option (List Int) := ZK.l0 k l0 l1 0 l1 (l1.length : Int) 0
end Go.Proofs.YtjnfipkbgmdpaaaGreatDoor.PAll
