/- Printed functions, merged by a program of this session. -/
import Derived.Test.YtjnfipkbgmdpaaaGreatDoorXAlgScaledP18
namespace Go.Proofs.YtjnfipkbgmdpaaaGreatDoor.PAll
open Go.RowKit Go.Proofs.YtjnfipkbgmdpaaaGreatDoorW.PrintWords Go.Proofs.YtjnfipkbgmdpaaaGreatDoorW.PrintLast Go.Proofs.YtjnfipkbgmdpaaaGreatDoorW.PrintMore Go.Proofs.YtjnfipkbgmdpaaaGreatDoorW.PrintWords.Kd
attribute [local go_sem] max2_int min2_int max_two min_two max_three min_three max_four min_four   -- for this text's walks alone
set_option linter.unusedVariables false
set_option maxHeartbeats 8000000
set_option maxRecDepth 100000
set_option linter.unusedSimpArgs false
attribute [local go_sem high] eqA25
attribute [local go_sem] fld77_0 fld77_1 fld77_2 ext153 ext154
mutual
def Z4.j0 : Nat → Int → Int → Option (Bool)
 | 0, _, _ => none
 | k + 1, x0, x1 => (Z8.f k x0 2).bind fun a1 => (if a1.2 = true then (Z4.j1 k x0 x1 a1.1 (decide (x0 < 9223372036854775808))) else (Z4.j1 k x0 x1 a1.1 false))
def Z4.j1 : Nat → Int → Int → Int → Bool → Option (Bool)
 | 0, _, _, _, _ => none
 | k + 1, x0, x1, x5, x79 => if x79 = true then ((ZL.f k x0).bind fun a1 => ((ZL.f k x5).bind fun a2 => ((Z8.f k a1.1 (-1)).bind fun a3 => (if a1.2.2 = 0 then (if a2.2.2 = 0 then (if a3.2 = true then (if (!(a2.1 == a3.1) || (!(a2.2.1 == a1.2.1))) = true then (some false) else (Z4.j2 k x0 x1)) else (some false)) else (some false)) else (some false))))) else (Z4.j2 k x0 x1)
def Z4.j2 : Nat → Int → Int → Option (Bool)
 | 0, _, _ => none
 | k + 1, x0, x1 => (Z8.f k x0 1).bind fun a3 => ((Z8.f k x1 1).bind fun a4 => ((ZE.f k x0 x1).bind fun a1 => ((ZE.f k a3.1 a4.1).bind fun a2 => ((Z8.f k a1.1 1).bind fun a5 => (if a3.2 = true then (if a4.2 = true then (if a1.2.2 = 0 then (if a5.2 = true then (if a2.2.2 = 0 then (some (a2.1 == a5.1 && (a2.2.1 == a1.2.1))) else (some false)) else (some true)) else (some true)) else (some true)) else (some true))))))
end
def Z4.f (k : Nat) (a0 : Int) (a1 : Int) : Option (Bool) := (Z0S.f k).bind fun a6 => (if a6 = true then ((Z8.f k a0 3).bind fun a4 => (if a4.2 = true then ((Z0G.f k a0).bind fun a2 => ((Z0G.f k a4.1).bind fun a3 => ((Z8.f k a2.1 1).bind fun a5 => (if a2.2.2 = 0 then (if a3.2.2 = 0 then (if a5.2 = true then (if (!(a3.1 == a5.1) || (!(a3.2.1 == a2.2.1))) = true then (some false) else (Z4.j0 k a0 a1)) else (some false)) else (some false)) else (some false))))) else (Z4.j0 k a0 a1))) else (some false))
theorem Z4.calls (k : Nat) (a0 : Int) (a1 : Int) (r : Bool) (w : World) (hT : Laid w) (hr_ : Aside0 (r = true)) (h : Z4.f k a0 a1 = some r) :
  Calls Tryz.prog 5 #[.int .u64 a0, .int .u64 a1] w fun e w' => e = .returned (.bool r) ∧ Below w.heap.size w w' := by
 have hu25 := Tryz.underlying25;have HB := zA (Below.refl w.heap.size w);have H := h
 unfold Z4.f at H
 clear h;obtain ⟨bJ, A3, H⟩ := zh H
 by_cases c4 : bJ = true
 ·subst c4;rw [if_pos rfl] at H;obtain ⟨⟨aZ, b1⟩, A5, H⟩ := zh H;(try dsimp only at H);have bA := zA H;clear H;go_enter Tryz.func5, Tryz.ntmps5
  go_upto_if 35 with (first | ((with_reducible refine zG 15 rfl ?_); refine zC (some 28) Tryz.func15 (Z0S.calls k  true _ (laid_below hT bq) (zA rfl) A3.out) ?_; rintro e w7 ⟨rfl, hb⟩; refine ⟨_, rfl, ?_⟩; replace HB := ze hb) | ((with_reducible refine zG 23 rfl ?_); refine zC (some 32) Tryz.func23 (Z8.calls k a0 3 aZ b1 _ A5.out) ?_; rintro e w8 ⟨rfl, hb⟩; refine ⟨_, rfl, ?_⟩; replace HB := ze hb))
  (try simp only [Act.put, List.setIfInBounds_toArray, List.set_cons_zero, List.set_cons_succ])
  go_cut [] (fun wc => ∃ (kq : Nat), Aside0 (Z4.j0 kq a0 a1 = some r) ∧ Aside0 (kq ≤ k) ∧ Aside0 (Below w.heap.size w wc))
  case first =>
   have H := bA.out;clear bA
   by_cases c9 : b1 = true
   ·subst c9;rw [if_pos rfl] at H;obtain ⟨⟨aH, ad, b2⟩, cn, H⟩ := zh H;(try dsimp only at H);obtain ⟨⟨aa, ae, b3⟩, co, H⟩ := zh H;(try dsimp only at H);obtain ⟨⟨aI, bK⟩, cp, H⟩ := zh H;(try dsimp only at H)
    by_cases c13 : b2 = 0
    ·rw [if_pos c13] at H;have af := beq_iff_eq.mpr c13;have bL := bne_eq_false_iff_eq.mpr c13;clear c13
     (first | rw [af] | (simp only [i64_w, i32_w]; rw [af]) | skip)
     by_cases c14 : b3 = 0
     ·rw [if_pos c14] at H;have bM := beq_iff_eq.mpr c14;have bN := bne_eq_false_iff_eq.mpr c14;clear c14
      by_cases c15 : bK = true
      ·subst c15;rw [if_pos rfl] at H
       by_cases c16 : (!(aa == aI) || (!(ae == ad))) = true
       ·rw [if_pos c16] at H;have bO : (!(aa == aI) || (!(ae == ad))) = true := c16;clear c16;obtain rfl := Option.some.inj H;exact absurd hr_.out (by decide)
       rw [if_neg c16] at H
       have bO : (!(aa == aI) || (!(ae == ad))) = false := by simpa using c16
       clear c16;have H' := zA H;clear H
       go_wp2_with (first | ((with_reducible refine zG 9 rfl ?_); refine zC (some 38) Tryz.func9 (Z0G.calls k a0 aH ad b2 _ (laid_below hT bq) cn.out) ?_; rintro e w17 ⟨rfl, hb⟩; refine ⟨_, rfl, ?_⟩; replace HB := ze hb) | ((with_reducible refine zD 7 rfl ?_); refine zn (N := 7) (cs := #[.int .u64 0, .int .u8 0]) (t := 25) rfl rfl ?_; intro bB hg w18 hbox hb; have a3 := zA (hbox); have cq := zw hg; replace HB := ze hb; clear hb hbox hg; have ak := zM0 a3; have al := zM1 a3; have am := blk_frozen a3.out 0; have an := blk_frozen a3.out 1) | ((with_reducible refine zG 9 rfl ?_); refine zC (some 43) Tryz.func9 (Z0G.calls k aZ aa ae b3 _ (laid_below hT zs) co.out) ?_; rintro e w20 ⟨rfl, hb⟩; refine ⟨_, rfl, ?_⟩; replace a3 := zA (blk_below (g := bB) (o := .cells #[.int .u64 aH, .int .u8 ad] 25 (0, 0)) (by (with_reducible repeat (first | refine blk_drewN ?_ _ | refine blk_drew ?_ | refine blk_alloc ?_ _)); refine blk_put (cs := #[.int .u64 aH, .int .u8 0]) ?_ 1 _ rfl; refine blk_put (cs := #[.int .u64 0, .int .u8 0]) ?_ 0 _ rfl; exact a3.out) hb); replace HB := zf hb) | ((with_reducible refine zD 9 rfl ?_); refine zn (N := 9) (cs := #[.int .u64 0, .int .u8 0]) (t := 25) rfl rfl ?_; intro bC hg w21 hbox hb; have a6 := zA (hbox); have cr := zx hg; replace HB := zf hb; have aO := zl a3 hg; have aP := zg a3 hg; replace a3 := zb a3 hb; clear hb hbox hg; have cE := aP.out; have cF := aO.out; have ao := zM0 a6; have ap := zM1 a6; have aq := blk_frozen a6.out 0; have ar := blk_frozen a6.out 1; have au := zM0 a3; have av := zM1 a3; have aw := blk_frozen a3.out 0; have ax := blk_frozen a3.out 1) | ((with_reducible refine zG 23 rfl ?_); refine zC (some 49) Tryz.func23 (Z8.calls k aH 1 aI true _ cp.out) ?_; rintro e w25 ⟨rfl, hb⟩; refine ⟨_, rfl, ?_⟩; replace a3 := zF a3 hb; replace a6 := zA (blk_below (g := bC) (o := .cells #[.int .u64 aa, .int .u8 ae] 25 (0, 0)) (by (with_reducible repeat (first | refine blk_drewN ?_ _ | refine blk_drew ?_ | refine blk_alloc ?_ _)); refine blk_put (cs := #[.int .u64 aa, .int .u8 0]) ?_ 1 _ rfl; refine blk_put (cs := #[.int .u64 0, .int .u8 0]) ?_ 0 _ rfl; exact a6.out) hb); replace HB := zf hb; have ay := zM0 a6; have aA := zM1 a6; have aB := blk_frozen a6.out 0; have aC := blk_frozen a6.out 1; have aD := zM0 a3; have aE := zM1 a3; have aF := blk_frozen a3.out 0; have aG := blk_frozen a3.out 1))
       go_meet
       case rel => exact ⟨_, H', ⟨by first | omega | exact Nat.le_refl _⟩, ⟨zs⟩⟩
      replace c15 := Bool.eq_false_iff.mpr c15;subst c15;rw [if_neg (show ¬ (false = true) by decide)] at H;obtain rfl := Option.some.inj H;exact absurd hr_.out (by decide)
     rw [if_neg c14] at H;have bM := beq_eq_false_iff_ne.mpr c14;have bN := bne_iff_ne.mpr c14;obtain rfl := Option.some.inj H;exact absurd hr_.out (by decide)
    rw [if_neg c13] at H;have af := beq_eq_false_iff_ne.mpr c13;have bL := bne_iff_ne.mpr c13
    (first | rw [af] | (simp only [i64_w, i32_w]; rw [af]) | skip)
    obtain rfl := Option.some.inj H;exact absurd hr_.out (by decide)
   replace c9 := Bool.eq_false_iff.mpr c9;subst c9;rw [if_neg (show ¬ (false = true) by decide)] at H;have H' := zA H;clear H
   go_wp2
   go_meet
   case rel => exact ⟨_, H', ⟨by first | omega | exact Nat.le_refl _⟩, ⟨bq⟩⟩
  case rest =>
   clear bA
   try clear ak al am an
   try clear ao ap aq ar
   try clear au av aw ax
   try clear ay aA aB aC
   try clear aD aE aF aG
   obtain ⟨kq, HA, b4, HB⟩ := hcut
   cases kq with
   | zero => exact absurd HA.out (by simp [Z4.j0])
   | succ bz =>
    have H := HA.out;clear HA;simp only [Z4.j0] at H;obtain ⟨⟨aU, b5⟩, ct, H⟩ := zh H;(try dsimp only at H);have aY := zA H;clear H
    go_upto_region 11 with (first | ((with_reducible refine zG 23 rfl ?_); refine zC (some 72) Tryz.func23 (Z8.calls bz a0 2 aU b5 _ ct.out) ?_; rintro e w30 ⟨rfl, hb⟩; refine ⟨_, rfl, ?_⟩; replace HB := ze hb))
    (try simp only [Act.put, List.setIfInBounds_toArray, List.set_cons_zero, List.set_cons_succ])
    go_cut [79] (fun v79 wc => ∃ (kq : Nat) (ag : Bool), v79 = .bool ag ∧ Aside0 (Z4.j1 kq a0 a1 aU ag = some r) ∧ Aside0 (kq ≤ bz) ∧ Aside0 (Below w.heap.size w wc))
    case first =>
     have H := aY.out;clear aY
     by_cases c31 : b5 = true
     ·subst c31;rw [if_pos rfl] at H;have H' := zA H;clear H
      go_wp2
      go_meet
      case rel => exact ⟨_, (decide (a0 < 9223372036854775808)), zi, H', ⟨by have := b4.out; first | omega | exact Nat.le_refl _⟩, ⟨bq⟩⟩
     replace c31 := Bool.eq_false_iff.mpr c31;subst c31;rw [if_neg (show ¬ (false = true) by decide)] at H;have H' := zA H;clear H
     go_wp2
     go_meet
     case rel => exact ⟨_, (false), zi, H', ⟨by have := b4.out; first | omega | exact Nat.le_refl _⟩, ⟨bq⟩⟩
    case rest =>
     clear aY
     try clear ak al am an
     try clear ao ap aq ar
     try clear au av aw ax
     try clear ay aA aB aC
     try clear aD aE aF aG
     obtain ⟨kq, ag, rfl, HA, bD, HB⟩ := hcut
     cases kq with
     | zero => exact absurd HA.out (by simp [Z4.j1])
     | succ aV =>
      have H := HA.out;clear HA;simp only [Z4.j1] at H;have az := zA H;clear H
      go_upto_if 79 with (fail)
      go_cut [] (fun wc => ∃ (kq : Nat), Aside0 (Z4.j2 kq a0 a1 = some r) ∧ Aside0 (kq ≤ aV) ∧ Aside0 (Below w.heap.size w wc))
      case first =>
       have H := az.out;clear az
       by_cases c33 : ag = true
       ·subst c33;rw [if_pos rfl] at H;obtain ⟨⟨aJ, ah, b6⟩, cu, H⟩ := zh H;(try dsimp only at H);obtain ⟨⟨ab, ai, b7⟩, cv, H⟩ := zh H;(try dsimp only at H);obtain ⟨⟨aK, bP⟩, cw, H⟩ := zh H;(try dsimp only at H)
        by_cases c37 : b6 = 0
        ·rw [if_pos c37] at H;have aj := beq_iff_eq.mpr c37;have bQ := bne_eq_false_iff_eq.mpr c37;clear c37
         (first | rw [aj] | (simp only [i64_w, i32_w]; rw [aj]) | skip)
         by_cases c38 : b7 = 0
         ·rw [if_pos c38] at H;have bR := beq_iff_eq.mpr c38;have bS := bne_eq_false_iff_eq.mpr c38;clear c38
          by_cases c39 : bP = true
          ·subst c39;rw [if_pos rfl] at H
           by_cases c40 : (!(ab == aK) || (!(ai == ah))) = true
           ·rw [if_pos c40] at H;have bT : (!(ab == aK) || (!(ai == ah))) = true := c40;clear c40;obtain rfl := Option.some.inj H;exact absurd hr_.out (by decide)
           rw [if_neg c40] at H
           have bT : (!(ab == aK) || (!(ai == ah))) = false := by simpa using c40
           clear c40;have H' := zA H;clear H
           go_wp2_with (first | ((with_reducible refine zG 13 rfl ?_); refine zC (some 82) Tryz.func13 (ZL.calls aV a0 aJ ah b6 _ (laid_below hT bq) cu.out) ?_; rintro e w41 ⟨rfl, hb⟩; refine ⟨_, rfl, ?_⟩; replace HB := ze hb) | ((with_reducible refine zD 13 rfl ?_); refine zn (N := 13) (cs := #[.int .u64 0, .int .u8 0]) (t := 25) rfl rfl ?_; intro bE hg w42 hbox hb; have a4 := zA (hbox); have cx := zw hg; replace HB := ze hb; clear hb hbox hg; have bd := zM0 a4; have be := zM1 a4; have bf := blk_frozen a4.out 0; have bg := blk_frozen a4.out 1) | ((with_reducible refine zG 13 rfl ?_); refine zC (some 87) Tryz.func13 (ZL.calls aV aU ab ai b7 _ (laid_below hT zs) cv.out) ?_; rintro e w44 ⟨rfl, hb⟩; refine ⟨_, rfl, ?_⟩; replace a4 := zA (blk_below (g := bE) (o := .cells #[.int .u64 aJ, .int .u8 ah] 25 (0, 0)) (by (with_reducible repeat (first | refine blk_drewN ?_ _ | refine blk_drew ?_ | refine blk_alloc ?_ _)); refine blk_put (cs := #[.int .u64 aJ, .int .u8 0]) ?_ 1 _ rfl; refine blk_put (cs := #[.int .u64 0, .int .u8 0]) ?_ 0 _ rfl; exact a4.out) hb); replace HB := zf hb) | ((with_reducible refine zD 15 rfl ?_); refine zn (N := 15) (cs := #[.int .u64 0, .int .u8 0]) (t := 25) rfl rfl ?_; intro bF hg w45 hbox hb; have a7 := zA (hbox); have cy := zx hg; replace HB := zf hb; have aQ := zl a4 hg; have aR := zg a4 hg; replace a4 := zb a4 hb; clear hb hbox hg; have cG := aR.out; have cH := aQ.out; have bh := zM0 a7; have bi := zM1 a7; have bj := blk_frozen a7.out 0; have bk := blk_frozen a7.out 1; have bl := zM0 a4; have bm := zM1 a4; have bn := blk_frozen a4.out 0; have bo := blk_frozen a4.out 1) | ((with_reducible refine zG 23 rfl ?_); refine zC (some 93) Tryz.func23 (Z8.calls aV aJ (-1) aK true _ cw.out) ?_; rintro e w49 ⟨rfl, hb⟩; refine ⟨_, rfl, ?_⟩; replace a4 := zF a4 hb; replace a7 := zA (blk_below (g := bF) (o := .cells #[.int .u64 ab, .int .u8 ai] 25 (0, 0)) (by (with_reducible repeat (first | refine blk_drewN ?_ _ | refine blk_drew ?_ | refine blk_alloc ?_ _)); refine blk_put (cs := #[.int .u64 ab, .int .u8 0]) ?_ 1 _ rfl; refine blk_put (cs := #[.int .u64 0, .int .u8 0]) ?_ 0 _ rfl; exact a7.out) hb); replace HB := zf hb; have bp := zM0 a7; have br := zM1 a7; have bs := blk_frozen a7.out 0; have bt := blk_frozen a7.out 1; have bu := zM0 a4; have bv := zM1 a4; have bw := blk_frozen a4.out 0; have bx := blk_frozen a4.out 1))
           go_meet
           case rel => exact ⟨_, H', ⟨by have := b4.out; have := bD.out; first | omega | exact Nat.le_refl _⟩, ⟨zs⟩⟩
          replace c39 := Bool.eq_false_iff.mpr c39;subst c39;rw [if_neg (show ¬ (false = true) by decide)] at H;obtain rfl := Option.some.inj H;exact absurd hr_.out (by decide)
         rw [if_neg c38] at H;have bR := beq_eq_false_iff_ne.mpr c38;have bS := bne_iff_ne.mpr c38;obtain rfl := Option.some.inj H;exact absurd hr_.out (by decide)
        rw [if_neg c37] at H;have aj := beq_eq_false_iff_ne.mpr c37;have bQ := bne_iff_ne.mpr c37
        (first | rw [aj] | (simp only [i64_w, i32_w]; rw [aj]) | skip)
        obtain rfl := Option.some.inj H;exact absurd hr_.out (by decide)
       replace c33 := Bool.eq_false_iff.mpr c33;subst c33;rw [if_neg (show ¬ (false = true) by decide)] at H;have H' := zA H;clear H
       go_wp2
       go_meet
       case rel => exact ⟨_, H', ⟨by have := b4.out; have := bD.out; first | omega | exact Nat.le_refl _⟩, ⟨bq⟩⟩
      case rest =>
       clear az
       try clear ak al am an
       try clear ao ap aq ar
       try clear au av aw ax
       try clear ay aA aB aC
       try clear aD aE aF aG
       try clear bd be bf bg
       try clear bh bi bj bk
       try clear bl bm bn bo
       try clear bp br bs bt
       try clear bu bv bw bx
       obtain ⟨kq, HA, cK, HB⟩ := hcut
       cases kq with
       | zero => exact absurd HA.out (by simp [Z4.j2])
       | succ a8 =>
        have H := HA.out;clear HA;simp only [Z4.j2] at H;obtain ⟨⟨aW, bU⟩, bZ, H⟩ := zh H;(try dsimp only at H);obtain ⟨⟨aL, b8⟩, bG, H⟩ := zh H;(try dsimp only at H);obtain ⟨⟨ac, b9, ba⟩, cA, H⟩ := zh H;(try dsimp only at H);obtain ⟨⟨a9, aM, bb⟩, cB, H⟩ := zh H;(try dsimp only at H);obtain ⟨⟨aX, bc⟩, bH, H⟩ := zh H;(try dsimp only at H)
        by_cases c57 : bU = true
        subst c57;rw [if_pos rfl] at H
        by_cases c58 : b8 = true
        subst c58;rw [if_pos rfl] at H
        by_cases c59 : ba = 0
        rw [if_pos c59] at H;have bV := beq_iff_eq.mpr c59;have bW := bne_eq_false_iff_eq.mpr c59;clear c59
        by_cases c60 : bc = true
        subst c60;rw [if_pos rfl] at H
        by_cases c61 : bb = 0
        rw [if_pos c61] at H;have bX := beq_iff_eq.mpr c61;have bY := bne_eq_false_iff_eq.mpr c61;clear c61;rotate_left;rw [if_neg c61] at H;have bX := beq_eq_false_iff_ne.mpr c61;have bY := bne_iff_ne.mpr c61;obtain rfl := Option.some.inj H;exact absurd hr_.out (by decide);replace c60 := Bool.eq_false_iff.mpr c60;subst c60;rw [if_neg (show ¬ (false = true) by decide)] at H;rotate_left;rw [if_neg c59] at H;have bV := beq_eq_false_iff_ne.mpr c59;have bW := bne_iff_ne.mpr c59;rotate_left;replace c58 := Bool.eq_false_iff.mpr c58;subst c58;rw [if_neg (show ¬ (false = true) by decide)] at H;rotate_left;replace c57 := Bool.eq_false_iff.mpr c57;subst c57;rw [if_neg (show ¬ (false = true) by decide)] at H;rotate_left
        all_goals
         clear hr_;obtain rfl := Option.some.inj H
         go_wp2_with (first | ((with_reducible refine zG 23 rfl ?_); refine zC (some 116) Tryz.func23 (Z8.calls a8 a0 1 aW true _ bZ.out) ?_; rintro e w62 ⟨rfl, hb⟩; refine ⟨_, rfl, ?_⟩; replace HB := ze hb) | ((with_reducible refine zG 23 rfl ?_); refine zC (some 121) Tryz.func23 (Z8.calls a8 a1 1 aL true _ bG.out) ?_; rintro e w63 ⟨rfl, hb⟩; refine ⟨_, rfl, ?_⟩; replace HB := ze hb) | ((with_reducible refine zG 22 rfl ?_); refine zC (some 127) Tryz.func22 (ZE.calls a8 a0 a1 ac b9 ba _ (laid_below hT bq) cA.out) ?_; rintro e w64 ⟨rfl, hb⟩; refine ⟨_, rfl, ?_⟩; replace HB := ze hb) | ((with_reducible refine zD 22 rfl ?_); refine zn (N := 22) (cs := #[.int .u64 0, .int .u8 0]) (t := 25) rfl rfl ?_; intro bI hg w65 hbox hb; have a2 := zA (hbox); have cC := zw hg; replace HB := ze hb; clear hb hbox hg; have c1 := zM0 a2; have c2 := zM1 a2; have c3 := blk_frozen a2.out 0; have c5 := blk_frozen a2.out 1) | ((with_reducible refine zG 22 rfl ?_); refine zC (some 133) Tryz.func22 (ZE.calls a8 aW aL a9 aM bb _ (laid_below hT zs) cB.out) ?_; rintro e w67 ⟨rfl, hb⟩; refine ⟨_, rfl, ?_⟩; replace a2 := zA (blk_below (g := bI) (o := .cells #[.int .u64 ac, .int .u8 b9] 25 (0, 0)) (by (with_reducible repeat (first | refine blk_drewN ?_ _ | refine blk_drew ?_ | refine blk_alloc ?_ _)); refine blk_put (cs := #[.int .u64 ac, .int .u8 0]) ?_ 1 _ rfl; refine blk_put (cs := #[.int .u64 0, .int .u8 0]) ?_ 0 _ rfl; exact a2.out) hb); replace HB := zf hb) | ((with_reducible refine zD 24 rfl ?_); refine zn (N := 24) (cs := #[.int .u64 0, .int .u8 0]) (t := 25) rfl rfl ?_; intro aN hg w68 hbox hb; have a5 := zA (hbox); have cD := zx hg; replace HB := zf hb; have aS := zl a2 hg; have aT := zg a2 hg; replace a2 := zb a2 hb; clear hb hbox hg; have cI := aT.out; have cJ := aS.out; have c6 := zM0 a5; have c7 := zM1 a5; have c8 := blk_frozen a5.out 0; have ca := blk_frozen a5.out 1; have cb := zM0 a2; have cc := zM1 a2; have cd := blk_frozen a2.out 0; have ce := blk_frozen a2.out 1) | ((with_reducible refine zG 23 rfl ?_); refine zC (some 139) Tryz.func23 (Z8.calls a8 ac 1 aX true _ bH.out) ?_; rintro e w72 ⟨rfl, hb⟩; refine ⟨_, rfl, ?_⟩; replace a2 := zF a2 hb; replace a5 := zA (blk_below (g := aN) (o := .cells #[.int .u64 a9, .int .u8 aM] 25 (0, 0)) (by (with_reducible repeat (first | refine blk_drewN ?_ _ | refine blk_drew ?_ | refine blk_alloc ?_ _)); refine blk_put (cs := #[.int .u64 a9, .int .u8 0]) ?_ 1 _ rfl; refine blk_put (cs := #[.int .u64 0, .int .u8 0]) ?_ 0 _ rfl; exact a5.out) hb); replace HB := zf hb; have cf := zM0 a5; have cg := zM1 a5; have ch := blk_frozen a5.out 0; have ci := blk_frozen a5.out 1; have cj := zM0 a2; have ck := zM1 a2; have cl := blk_frozen a2.out 0; have cm := blk_frozen a2.out 1) | ((with_reducible refine zG 23 rfl ?_); refine zC (some 139) Tryz.func23 (Z8.calls a8 ac 1 aX false _ bH.out) ?_; rintro e w85 ⟨rfl, hb⟩; refine ⟨_, rfl, ?_⟩; replace a2 := zF a2 hb; replace a5 := zA (blk_below (g := aN) (o := .cells #[.int .u64 a9, .int .u8 aM] 25 (0, 0)) (by (with_reducible repeat (first | refine blk_drewN ?_ _ | refine blk_drew ?_ | refine blk_alloc ?_ _)); refine blk_put (cs := #[.int .u64 a9, .int .u8 0]) ?_ 1 _ rfl; refine blk_put (cs := #[.int .u64 0, .int .u8 0]) ?_ 0 _ rfl; exact a5.out) hb); replace HB := zf hb) | ((with_reducible refine zG 23 rfl ?_); refine zC (some 139) Tryz.func23 (Z8.calls a8 ac 1 aX bc _ bH.out) ?_; rintro e w96 ⟨rfl, hb⟩; refine ⟨_, rfl, ?_⟩; replace a2 := zF a2 hb; replace a5 := zA (blk_below (g := aN) (o := .cells #[.int .u64 a9, .int .u8 aM] 25 (0, 0)) (by (with_reducible repeat (first | refine blk_drewN ?_ _ | refine blk_drew ?_ | refine blk_alloc ?_ _)); refine blk_put (cs := #[.int .u64 a9, .int .u8 0]) ?_ 1 _ rfl; refine blk_put (cs := #[.int .u64 0, .int .u8 0]) ?_ 0 _ rfl; exact a5.out) hb); replace HB := zf hb) | ((with_reducible refine zG 23 rfl ?_); refine zC (some 121) Tryz.func23 (Z8.calls a8 a1 1 aL false _ bG.out) ?_; rintro e w98 ⟨rfl, hb⟩; refine ⟨_, rfl, ?_⟩; replace HB := ze hb) | ((with_reducible refine zG 23 rfl ?_); refine zC (some 116) Tryz.func23 (Z8.calls a8 a0 1 aW false _ bZ.out) ?_; rintro e w108 ⟨rfl, hb⟩; refine ⟨_, rfl, ?_⟩; replace HB := ze hb) | ((with_reducible refine zG 23 rfl ?_); refine zC (some 121) Tryz.func23 (Z8.calls a8 a1 1 aL b8 _ bG.out) ?_; rintro e w109 ⟨rfl, hb⟩; refine ⟨_, rfl, ?_⟩; replace HB := ze hb))
         go_ret;exact ⟨er, zs⟩
 replace c4 := Bool.eq_false_iff.mpr c4;subst c4;rw [if_neg (show ¬ (false = true) by decide)] at H;obtain rfl := Option.some.inj H;exact absurd hr_.out (by decide)
def Z20.f (a0 : Int) : Option (Bool) := (Z0L.f a0).bind fun a1 => (some (decide (a1 ≤ 9218868437227405312)))
def Z27.f (a0 : Int) : Option (Int) := if (Go.bits .and .u64 a0 9223372036854775808) = 0 then (some (wrap64 (a0))) else ((Z0L.f a0).bind fun a1 => (some (wrap64 (-(wrap64 (a1))))))
def Z4s.f (a0 : Int) (a1 : Int) : Option (Bool) := (Z20.f a0).bind fun a2 => (if a2 = true then ((Z20.f a1).bind fun a3 => (if a3 = true then ((Z27.f a0).bind fun a4 => ((Z27.f a1).bind fun a5 => (some (decide (a4 < a5))))) else (some false))) else (some false))
def Z2O.f (a0 : Int) : Option (Bool × Int × Int) := some (((Go.bits .and .u64 a0 9223372036854775808) != 0), wrap64 (Go.bits .and .u64 (a0 / 4503599627370496) 2047), Go.bits .and .u64 a0 4503599627370495)
def Z2x.f (a0 : Int) : Option (Bool) := (Z0L.f a0).bind fun a1 => (some (decide (a1 < 9218868437227405312)))
def Z4t.f (a0 : Int) : Option (Int × Int) := (Z2x.f a0).bind fun a2 => (if a2 = true then ((Z2O.f a0).bind fun a1 => (some (wrap64 ((mx a1.2.1 1) - 1075), 0))) else (some (0, 5)))
end Go.Proofs.YtjnfipkbgmdpaaaGreatDoor.PAll
