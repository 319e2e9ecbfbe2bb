/- Printed functions. -/
import Derived.Test.YtnjfckadjklmfaaDoorXRoundWithinP2
namespace Go.Proofs.YtnjfckadjklmfaaDoor.PAll
open RowKit YtnjfckadjklmfaaDoorW.PrintWords YtnjfckadjklmfaaDoorW.PrintLast YtnjfckadjklmfaaDoorW.PrintMore YtnjfckadjklmfaaDoorW.PrintWords.Kd
attribute [local go_sem] Z0V Z0W Z1d Z1e Z0E Z0F Z0X Z0Y
set_option linter.unusedVariables false
set_option maxHeartbeats 8000000
set_option maxRecDepth 100000
set_option linter.unusedSimpArgs false
attribute [local go_sem] fld75_0 fld75_1 fld75_2 ext118 ext119
def ZY.j0 : Nat → Bool → List Int → Int → List Int → Int → Int → Int → Option (Int × Int)
 | 0, _, _, _, _, _, _, _ => none
 | k + 1, a3, a8, a9, a4, a5, a1, a2 => if a3 = true then ((ZM.f a4 a5).bind fun a6 => (if a6 = true then (some (a1, a2)) else ((Z2L.f a1).bind fun a7 => (some (a7, a2))))) else (some (a1, a2))
def ZY.f (k : Nat) (a3 : Bool) (a4 : List Int) (a5 : Int) : Option (Int × Int) := (Z15.f k a3 a4 a5).bind fun a1 => ((ZJ.f k a1.1 a1.2).bind fun a2 => (if a2.2 = true then (if a2.1 = 9218868437227405312 then (ZY.j0 k a3 a4 a5 a1.1 a1.2 a2.1 (Go.bits .or .u8 16 4)) else ((Z00.f k a1.1 a1.2).bind fun a6 => (if a6 = true then (ZY.j0 k a3 a4 a5 a1.1 a1.2 a2.1 (Go.bits .or .u8 16 8)) else (ZY.j0 k a3 a4 a5 a1.1 a1.2 a2.1 16)))) else (ZY.j0 k a3 a4 a5 a1.1 a1.2 a2.1 0)))
theorem cells2_ {P : Program} {ops : Array Oper} {Q : Exit → Act → World → Prop} {W : World} {o : Oper} {rest : List Oper} {a : Act} {g : Nat} {t : TypeId} {cs : Array Value} (hb : W.heap[g]? = some (.cells cs t (0, 0)))
  (h : W.cell? ⟨g, 0, none⟩ = cs[0]? → W.cell? ⟨g, 1, none⟩ = cs[1]? → wpList P ops Q (o :: rest) a W) : wpList P ops Q (o :: rest) a W := h (Z3 hb 0) (Z3 hb 1)
theorem ZY.calls (k : Nat) (aw : Bool) (aA : Option Addr) (aB : Nat) (ar : List Int) (ax : Int) (r1 : Int) (r2 : Int) (w : World) (aE : Kd.C Zu w aA ar.length ar) (aF : ar.length ≤ aB) (hT : Laid w) (h : ZY.f k aw ar ax = some (r1, r2)) :
  Calls Tryd.prog 33 #[.agg #[.bool aw, .slice aA ar.length aB, .int .i64 ax]] w fun e w' => e = .returned (.agg #[.int .u64 r1, .int .u8 r2]) ∧ Below w.heap.size w w' := by
 have hu25 := Tryd.underlying25;have hu29 := Tryd.underlying29;have hu64 := Tryd.underlying64;have aJ := zA aE;have aK := zA aF;clear aE aF;have HB := zA (Below.refl w.heap.size w);have H := h
 unfold ZY.f at H
 clear h;obtain ⟨⟨ac, al⟩, A2, H⟩ := zh H;(try dsimp only at H);obtain ⟨⟨a9, aH⟩, A3, H⟩ := zh H;(try dsimp only at H);have aI := zA H;clear H;go_enter Tryd.func33, Tryd.ntmps33
 go_upto_if 16 with (first | ((with_reducible refine zD 1 rfl ?_); refine zn (N := 1) (cs := #[.bool aw, .slice aA ar.length aB, .int .i64 ax]) (t := 25) rfl rfl ?_; intro aG hg w5 hbox hb; have a4 := zA (hbox); have bQ := zw hg; replace HB := ze hb; clear hb hbox hg) | ((with_reducible refine zD 2 rfl ?_); refine zn (N := 2) (cs := #[.int .u64 0, .int .u8 0]) (t := 29) rfl rfl ?_; intro ay hg w6 hbox hb; have a2 := zA (hbox); have bR := zx hg; replace HB := zf hb; have ap := zl a4 hg; have aq := zg a4 hg; replace a4 := zb a4 hb; clear hb hbox hg; have cW := ap.out; have cX := aq.out; obtain ⟨_, _, _, _, _, _⟩ := zc a4) | ((with_reducible refine zG 35 rfl ?_); refine zC (some 8) Tryd.func35 (Z15.calls k aw _ _ ar ax ac al _ (zk (Za aJ.out HB.out)) (aK.out) A2.out) ?_; rintro e w9 ⟨v248, rfl, bO, hb⟩; refine ⟨_, rfl, ?_⟩; have aa := zA (ZH bO (Z7 zs)); replace a4 := zb a4 hb; replace a2 := zb a2 hb; replace HB := zf hb) | ((with_reducible refine zD 3 rfl ?_); refine zn (N := 3) (cs := #[.slice none 0 0, .int .i64 0]) (t := 64) rfl rfl ?_; intro au hg w10 hbox hb; replace aa := zA (Zw (ru aa.out) hb); have a3 := zA (hbox); have bS := zx hg; replace HB := zf hb; have ah := zl a4 hg; have ai := zg a4 hg; replace a4 := zb a4 hb; have aj := zl a2 hg; have ak := zg a2 hg; replace a2 := zb a2 hb; clear hb hbox hg; obtain ⟨av, ao, aO⟩ := ZO aa.out; subst aO; have bT := ai.out; have bU := ah.out; have bV := ak.out; have bW := aj.out; have aR := zM0 a3; have aS := zM1 a3; have aT := Z2 a3.out 0; have aU := Z2 a3.out 1) | ((with_reducible refine zG 68 rfl ?_); refine zC (some 11) Tryd.func68 (ZJ.calls k _ _ ac al a9 aH _ ?am ?an (laid_below hT zs) A3.out) ?_; (case am => refine (Zi (e := 26) (base := w.heap.size) (ok := fun k_ => True) (n := ac.length) (c := ao) ?_).2.2; exact (ru (ZC (ZD (p := ⟨au, 1, none⟩) (ZD (p := ⟨au, 0, none⟩) (ZR aa.out a3.out (by decide)) (fun _ hk => hk.2) (.slice av ac.length ao)) (fun _ hk => hk.2) (.int .i64 al)) (fun _ h_ => h_.1)))); (case an => exact (Zi aa.out).2.1); rintro e w15 ⟨rfl, hb⟩; refine ⟨_, rfl, ?_⟩; replace aa := zA (Zw (ru (ZC (ZD (p := ⟨au, 1, none⟩) (ZD (p := ⟨au, 0, none⟩) (ZR aa.out a3.out (by decide)) (fun _ hk => hk.2) (.slice av ac.length ao)) (fun _ hk => hk.2) (.int .i64 al)) (fun _ h_ => h_.1))) hb); replace a4 := zF a4 hb; replace a2 := zF a2 hb; replace a3 := zA (ZK (g := au) (o := .cells #[.slice av ac.length ao, .int .i64 al] 64 (0, 0)) (by (with_reducible repeat (first | refine Zf ?_ _ | refine Z8 ?_ | refine Zg ?_ _)); refine Ze (cs := #[.slice av ac.length ao, .int .i64 0]) ?_ 1 _ rfl; refine Ze (cs := #[.slice none 0 0, .int .i64 0]) ?_ 0 _ rfl; exact a3.out) hb); replace HB := zf hb) | ((with_reducible refine zD 6 rfl ?_); refine zn (N := 6) (cs := #[.int .u64 0, .int .u8 0]) (t := 29) rfl rfl ?_; intro a8 hg w16 hbox hb; replace aa := zA (Zw (ru aa.out) hb); have a1 := zA (hbox); have bX := zx hg; replace HB := zf hb; have a6 := zl a4 hg; have ae := zg a4 hg; replace a4 := zb a4 hb; have a5 := zl a2 hg; have af := zg a2 hg; replace a2 := zb a2 hb; have a7 := zl a3 hg; have ag := zg a3 hg; replace a3 := zb a3 hb; clear hb hbox hg; have bY := ae.out; have bz := a6.out; have bZ := af.out; have c1 := a5.out; have c2 := ag.out; have c3 := a7.out; have aV := zM0 a1; have aW := zM1 a1; have aX := Z2 a1.out 0; have aY := Z2 a1.out 1))
 (try simp only [Act.put, zk2, zk8, zk9])
 go_cut [] (fun wc => ∃ (kq : Nat) (ad : Int), Aside0 (ZY.j0 kq aw ar ax ac al a9 ad = some (r1, r2)) ∧ Aside0 (kq ≤ k) ∧ Aside0 (Kd.R Zu 26 wc w.heap.size (fun _ => True) (.slice av ac.length ao) ac) ∧ Aside0 (wc.heap[aG]? = some (.cells #[.bool aw, (.slice aA ar.length aB), .int .i64 ax] 25 (0, 0))) ∧ Aside0 (wc.heap[ay]? = some (.cells #[.int .u64 0, .int .u8 0] 29 (0, 0))) ∧ Aside0 (wc.heap[au]? = some (.cells #[(.slice av ac.length ao), .int .i64 al] 64 (0, 0))) ∧ Aside0 (wc.heap[a8]? = some (.cells #[.int .u64 a9, .int .u8 ad] 29 (0, 0))) ∧ Aside0 (Below w.heap.size w wc))
 case first =>
  have H := aI.out;clear aI
  by_cases c21 : aH = true
  ·subst c21;rw [if_pos rfl] at H
   by_cases c22 : a9 = 9218868437227405312
   ·rw [if_pos c22] at H;have aC := eT c22;have aL := nF c22;clear c22;(try rw [aC]);have H' := zA H;clear H;have c4 := ae.out;have c5 := a6.out;have c6 := af.out;have c7 := a5.out;have c8 := ag.out;have c9 := a7.out;have az := zM0 a1;have aZ := zM1 a1;have b1 := Z2 a1.out 0;have b2 := Z2 a1.out 1
    go_wp2_with ((with_reducible refine zD 21 rfl ?_); refine cells2_ (g := a8) (t := 29) (cs := #[.int .u64 a9, .int .u8 16]) ?hb ?_; (case hb => refine Ze (cs := #[.int .u64 a9, .int .u8 0]) ?_ 1 _ rfl; refine Ze (cs := #[.int .u64 a9, .int .u8 0]) ?_ 1 _ rfl; refine Ze (cs := #[.int .u64 0, .int .u8 0]) ?_ 0 _ rfl; exact a1.out); intro q0_ q1_; replace q0_ := q0_.trans rfl; replace q1_ := q1_.trans rfl; go_step)
    go_meet
    case rel => exact ⟨_, (Go.bits .or .u8 16 4), H', zB0, ⟨ru (ZC (ZD (p := ⟨a8, 1, none⟩) (ZD (p := ⟨a8, 1, none⟩) (ZD (p := ⟨a8, 1, none⟩) (ZD (p := ⟨a8, 0, none⟩) (ZR aa.out a1.out (by decide)) (fun _ hk => hk.2) (.int .u64 a9)) (fun _ hk => hk.2) (.int .u8 0)) (fun _ hk => hk.2) (.int .u8 16)) (fun _ hk => hk.2) (.int .u8 (Go.bits .or .u8 16 4))) (fun _ hk => trivial))⟩, ⟨by (with_reducible repeat (first | refine Zf ?_ _ | refine Z8 ?_ | refine Zg ?_ _)); refine Z9 ?_ a6.out _; refine Z9 ?_ a6.out _; refine Z9 ?_ a6.out _; refine Z9 ?_ a6.out _; exact a4.out⟩, ⟨by (with_reducible repeat (first | refine Zf ?_ _ | refine Z8 ?_ | refine Zg ?_ _)); refine Z9 ?_ a5.out _; refine Z9 ?_ a5.out _; refine Z9 ?_ a5.out _; refine Z9 ?_ a5.out _; exact a2.out⟩, ⟨by (with_reducible repeat (first | refine Zf ?_ _ | refine Z8 ?_ | refine Zg ?_ _)); refine Z9 ?_ a7.out _; refine Z9 ?_ a7.out _; refine Z9 ?_ a7.out _; refine Z9 ?_ a7.out _; exact a3.out⟩, ⟨by (with_reducible repeat (first | refine Zf ?_ _ | refine Z8 ?_ | refine Zg ?_ _)); refine Ze (cs := #[.int .u64 a9, .int .u8 16]) ?_ 1 _ rfl; refine Ze (cs := #[.int .u64 a9, .int .u8 0]) ?_ 1 _ rfl; refine Ze (cs := #[.int .u64 a9, .int .u8 0]) ?_ 1 _ rfl; refine Ze (cs := #[.int .u64 0, .int .u8 0]) ?_ 0 _ rfl; exact a1.out⟩, ⟨zs⟩⟩
   rw [if_neg c22] at H;have aC := eF c22;have aL := nT c22;(try rw [aC]);obtain ⟨aP, aM, H⟩ := zh H
   by_cases c28 : aP = true
   subst c28;rw [if_pos rfl] at H;rotate_left;replace c28 := Bool.eq_false_iff.mpr c28;subst c28;rw [if_neg (show ¬ (false = true) by decide)] at H;rotate_left
   all_goals
    have H' := zA H;clear H;have ca := ae.out;have cb := a6.out;have cc := af.out;have cd := a5.out;have ce := ag.out;have cf := a7.out;have b3 := zM0 a1;have b4 := zM1 a1;have b5 := Z2 a1.out 0;have b6 := Z2 a1.out 1;have cg := ai.out;have ch := ah.out;have ci := ak.out;have cj := aj.out;have b7 := zM0 a3;have b8 := zM1 a3;have b9 := Z2 a3.out 0;have ba := Z2 a3.out 1
    go_wp2_with (first | ((with_reducible refine zG 36 rfl ?_); refine zC (some 27) Tryd.func36 (Z00.calls k _ _ ac al true _ ?am ?an (laid_below hT zs) aM.out) ?_; (case am => refine (Zi (e := 26) (base := w.heap.size) (ok := fun k_ => True) (n := ac.length) (c := ao) ?_).2.2; exact (ru (ZC (ZD (p := ⟨a8, 1, none⟩) (ZD (p := ⟨a8, 1, none⟩) (ZD (p := ⟨a8, 0, none⟩) (ZR aa.out a1.out (by decide)) (fun _ hk => hk.2) (.int .u64 a9)) (fun _ hk => hk.2) (.int .u8 0)) (fun _ hk => hk.2) (.int .u8 16)) (fun _ h_ => h_.1)))); (case an => exact (Zi aa.out).2.1); rintro e w36 ⟨rfl, hb⟩; refine ⟨_, rfl, ?_⟩; replace aa := zA (Zw (ru (ZC (ZD (p := ⟨a8, 1, none⟩) (ZD (p := ⟨a8, 1, none⟩) (ZD (p := ⟨a8, 0, none⟩) (ZR aa.out a1.out (by decide)) (fun _ hk => hk.2) (.int .u64 a9)) (fun _ hk => hk.2) (.int .u8 0)) (fun _ hk => hk.2) (.int .u8 16)) (fun _ h_ => h_.1))) hb); replace a4 := zF a4 hb; replace a2 := zF a2 hb; replace a3 := zF a3 hb; replace a1 := zA (ZK (g := a8) (o := .cells #[.int .u64 a9, .int .u8 16] 29 (0, 0)) (by (with_reducible repeat (first | refine Zf ?_ _ | refine Z8 ?_ | refine Zg ?_ _)); refine Ze (cs := #[.int .u64 a9, .int .u8 0]) ?_ 1 _ rfl; refine Ze (cs := #[.int .u64 a9, .int .u8 0]) ?_ 1 _ rfl; refine Ze (cs := #[.int .u64 0, .int .u8 0]) ?_ 0 _ rfl; exact a1.out) hb); replace HB := zf hb; have bb := zM0 a1; have bc := zM1 a1; have bd := Z2 a1.out 0; have be := Z2 a1.out 1) | ((with_reducible refine zG 36 rfl ?_); refine zC (some 27) Tryd.func36 (Z00.calls k _ _ ac al false _ ?am ?an (laid_below hT zs) aM.out) ?_; (case am => refine (Zi (e := 26) (base := w.heap.size) (ok := fun k_ => True) (n := ac.length) (c := ao) ?_).2.2; exact (ru (ZC (ZD (p := ⟨a8, 1, none⟩) (ZD (p := ⟨a8, 1, none⟩) (ZD (p := ⟨a8, 0, none⟩) (ZR aa.out a1.out (by decide)) (fun _ hk => hk.2) (.int .u64 a9)) (fun _ hk => hk.2) (.int .u8 0)) (fun _ hk => hk.2) (.int .u8 16)) (fun _ h_ => h_.1)))); (case an => exact (Zi aa.out).2.1); rintro e w45 ⟨rfl, hb⟩; refine ⟨_, rfl, ?_⟩; replace aa := zA (Zw (ru (ZC (ZD (p := ⟨a8, 1, none⟩) (ZD (p := ⟨a8, 1, none⟩) (ZD (p := ⟨a8, 0, none⟩) (ZR aa.out a1.out (by decide)) (fun _ hk => hk.2) (.int .u64 a9)) (fun _ hk => hk.2) (.int .u8 0)) (fun _ hk => hk.2) (.int .u8 16)) (fun _ h_ => h_.1))) hb); replace a4 := zF a4 hb; replace a2 := zF a2 hb; replace a3 := zF a3 hb; replace a1 := zA (ZK (g := a8) (o := .cells #[.int .u64 a9, .int .u8 16] 29 (0, 0)) (by (with_reducible repeat (first | refine Zf ?_ _ | refine Z8 ?_ | refine Zg ?_ _)); refine Ze (cs := #[.int .u64 a9, .int .u8 0]) ?_ 1 _ rfl; refine Ze (cs := #[.int .u64 a9, .int .u8 0]) ?_ 1 _ rfl; refine Ze (cs := #[.int .u64 0, .int .u8 0]) ?_ 0 _ rfl; exact a1.out) hb); replace HB := zf hb))
   ·go_meet
    case rel => exact ⟨_, (Go.bits .or .u8 16 8), H', zB0, ⟨ru (ZC (ZD (p := ⟨a8, 1, none⟩) (ZR aa.out a1.out (by decide)) (fun _ hk => hk.2) (.int .u8 (Go.bits .or .u8 16 8))) (fun _ hk => trivial))⟩, ⟨by (with_reducible repeat (first | refine Zf ?_ _ | refine Z8 ?_ | refine Zg ?_ _)); refine Z9 ?_ a6.out _; exact a4.out⟩, ⟨by (with_reducible repeat (first | refine Zf ?_ _ | refine Z8 ?_ | refine Zg ?_ _)); refine Z9 ?_ a5.out _; exact a2.out⟩, ⟨by (with_reducible repeat (first | refine Zf ?_ _ | refine Z8 ?_ | refine Zg ?_ _)); refine Z9 ?_ a7.out _; exact a3.out⟩, ⟨by (with_reducible repeat (first | refine Zf ?_ _ | refine Z8 ?_ | refine Zg ?_ _)); refine Ze (cs := #[.int .u64 a9, .int .u8 16]) ?_ 1 _ rfl; exact a1.out⟩, ⟨zs⟩⟩
   go_meet
   case rel => exact ⟨_, (16), H', zB0, ⟨ru aa.out⟩, ⟨zu a4⟩, ⟨zu a2⟩, ⟨zu a3⟩, ⟨zu a1⟩, ⟨zs⟩⟩
  replace c21 := Bool.eq_false_iff.mpr c21;subst c21;rw [if_neg (show ¬ (false = true) by decide)] at H;have H' := zA H;clear H
  go_wp2
  go_meet
  case rel => exact ⟨_, (0), H', zB0, ⟨ru (ZC (ZD (p := ⟨a8, 1, none⟩) (ZD (p := ⟨a8, 0, none⟩) (ZR aa.out a1.out (by decide)) (fun _ hk => hk.2) (.int .u64 a9)) (fun _ hk => hk.2) (.int .u8 0)) (fun _ hk => trivial))⟩, ⟨by (with_reducible repeat (first | refine Zf ?_ _ | refine Z8 ?_ | refine Zg ?_ _)); refine Z9 ?_ a6.out _; refine Z9 ?_ a6.out _; exact a4.out⟩, ⟨by (with_reducible repeat (first | refine Zf ?_ _ | refine Z8 ?_ | refine Zg ?_ _)); refine Z9 ?_ a5.out _; refine Z9 ?_ a5.out _; exact a2.out⟩, ⟨by (with_reducible repeat (first | refine Zf ?_ _ | refine Z8 ?_ | refine Zg ?_ _)); refine Z9 ?_ a7.out _; refine Z9 ?_ a7.out _; exact a3.out⟩, ⟨by (with_reducible repeat (first | refine Zf ?_ _ | refine Z8 ?_ | refine Zg ?_ _)); refine Ze (cs := #[.int .u64 a9, .int .u8 0]) ?_ 1 _ rfl; refine Ze (cs := #[.int .u64 0, .int .u8 0]) ?_ 0 _ rfl; exact a1.out⟩, ⟨zs⟩⟩
 case rest =>
  clear aI;obtain ⟨kq, ad, HA, cY, ab, a4, a2, a3, a1, HB⟩ := hcut
  cases kq with
  | zero => exact absurd HA.out (by simp [ZY.j0])
  | succ cz =>
   have H := HA.out;clear HA;simp only [ZY.j0] at H
   by_cases c46 : aw = true
   ·subst c46;rw [if_pos rfl] at H;obtain ⟨aQ, aN, H⟩ := zh H
    by_cases c48 : aQ = true
    ·subst c48;rw [if_pos rfl] at H;simp only [zk3, zk7] at H;obtain ⟨rfl, rfl⟩ := H;have ck := ap.out;have cl := aq.out;have cm := ah.out;have cn := ai.out;have co := a6.out;have cp := ae.out;obtain ⟨_, _, _, _, _, _⟩ := zc a4;have cq := ak.out;have cr := aj.out;have ct := a7.out;have cu := ag.out;have bf := zM0 a3;have bg := zM1 a3;have bh := Z2 a3.out 0;have bi := Z2 a3.out 1
     go_wp2_with (first | (go_at_call 50; (with_reducible refine (ZM.calls _ _ ac al true _ ?am ?an aN.out).mono ?_); (case am => exact zk (Zi ab.out).2.2); (case an => exact (Zi ab.out).2.1); rintro e w56 ⟨rfl, hb⟩; replace ab := zA (Zw (ru ab.out) hb); replace a4 := zb a4 hb; replace a2 := zb a2 hb; replace a3 := zb a3 hb; replace a1 := zb a1 hb; replace HB := zf hb; have cv := af.out; have cw := a5.out; have bj := zM0 a1; have bk := zM1 a1; have bl := Z2 a1.out 0; have bm := Z2 a1.out 1; have bn := zM0 a2; have bo := zM1 a2; have bp := Z2 a2.out 0; have br := Z2 a2.out 1))
     refine bodyPost_ret (results_cell_row rfl _ _ ay 29 #[.int .u64 a9, .int .u8 ad] (0, 0) _ rfl (by (with_reducible repeat (first | refine Zf ?_ _ | refine Z8 ?_ | refine Zg ?_ _)); refine Ze (cs := #[.int .u64 a9, .int .u8 0]) ?_ 1 _ rfl; refine Ze (cs := #[.int .u64 0, .int .u8 0]) ?_ 0 _ rfl; exact a2.out) Tryd.underlying29 rfl (by kernel_rfl)) rfl ?_;exact ⟨er, zs⟩
    replace c48 := Bool.eq_false_iff.mpr c48;subst c48;rw [if_neg (show ¬ (false = true) by decide)] at H;obtain ⟨aD, bP, H⟩ := zh H;simp only [zk3, zk7] at H;obtain ⟨rfl, rfl⟩ := H;have cx := ap.out;have cy := aq.out;have cA := ah.out;have cB := ai.out;have cC := a6.out;have cD := ae.out;obtain ⟨_, _, _, _, _, _⟩ := zc a4;have cE := ak.out;have cF := aj.out;have cG := a7.out;have cH := ag.out;have bs := zM0 a3;have bt := zM1 a3;have bu := Z2 a3.out 0;have bv := Z2 a3.out 1
    go_wp2_with (first | (go_at_call 50; (with_reducible refine (ZM.calls _ _ ac al false _ ?am ?an aN.out).mono ?_); (case am => exact zk (Zi ab.out).2.2); (case an => exact (Zi ab.out).2.1); rintro e w68 ⟨rfl, hb⟩; replace ab := zA (Zw (ru ab.out) hb); replace a4 := zb a4 hb; replace a2 := zb a2 hb; replace a3 := zb a3 hb; replace a1 := zb a1 hb; replace HB := zf hb; have cI := af.out; have cJ := a5.out; have bw := zM0 a1; have bx := zM1 a1; have bA := Z2 a1.out 0; have bB := Z2 a1.out 1) | ((with_reducible refine zG 17 rfl ?_); refine zC (some 41) Tryd.func17 (Z2L.calls a9 aD _ bP.out) ?_; rintro e w' ⟨rfl, ⟨nd, rfl⟩⟩; refine ⟨_, rfl, ?_⟩; (try (rw [Z59 w68]; generalize hq_ : World.drewN w68 _ = w68; have n0_ : Aside0 (Kd.R Zu 26 w68 w.heap.size (fun _ => True) (.slice av ac.length ao) ac) := ⟨by rw [← hq_]; exact (ru ab.out)⟩; have n1_ : Aside0 (w68.heap[aG]? = some (.cells #[.bool true, .slice aA ar.length aB, .int .i64 ax] 25 (0, 0))) := ⟨by rw [← hq_]; exact (zu a4)⟩; have n2_ : Aside0 (w68.heap[ay]? = some (.cells #[.int .u64 0, .int .u8 0] 29 (0, 0))) := ⟨by rw [← hq_]; exact (zu a2)⟩; have n3_ : Aside0 (w68.heap[au]? = some (.cells #[.slice av ac.length ao, .int .i64 al] 64 (0, 0))) := ⟨by rw [← hq_]; exact (zu a3)⟩; have n4_ : Aside0 (w68.heap[a8]? = some (.cells #[.int .u64 a9, .int .u8 ad] 29 (0, 0))) := ⟨by rw [← hq_]; exact (zu a1)⟩; have n5_ : Aside0 (Below w.heap.size w w68) := ⟨by rw [← hq_]; exact zs⟩; clear ab a4 a2 a3 a1 HB hq_; have ab := n0_; have a4 := n1_; have a2 := n2_; have a3 := n3_; have a1 := n4_; have HB := n5_; clear n0_ n1_ n2_ n3_ n4_ n5_)); have bC := zM0 a2; have bD := zM1 a2; have bE := Z2 a2.out 0; have bF := Z2 a2.out 1; have hcy0_ := zM0 a1; have hcy1_ := zM1 a1; have hfy0_ := Z2 a1.out 0; have hfy1_ := Z2 a1.out 1))
    refine bodyPost_ret (results_cell_row rfl _ _ ay 29 #[.int .u64 aD, .int .u8 ad] (0, 0) _ rfl (by (with_reducible repeat (first | refine Zf ?_ _ | refine Z8 ?_ | refine Zg ?_ _)); refine Ze (cs := #[.int .u64 aD, .int .u8 0]) ?_ 1 _ rfl; refine Ze (cs := #[.int .u64 0, .int .u8 0]) ?_ 0 _ rfl; refine Z9 ?_ a5.out _; exact a2.out) Tryd.underlying29 rfl (by kernel_rfl)) rfl ?_;exact ⟨er, zs⟩
   replace c46 := Bool.eq_false_iff.mpr c46;subst c46;rw [if_neg (show ¬ (false = true) by decide)] at H;simp only [zk3, zk7] at H;obtain ⟨rfl, rfl⟩ := H;have cK := ap.out;have cL := aq.out;have cM := ah.out;have cN := ai.out;have cO := a6.out;have cP := ae.out;obtain ⟨_, _, _, _, _, _⟩ := zc a4;have cQ := af.out;have cR := a5.out;have cS := ag.out;have cT := a7.out;have bG := zM0 a1;have bH := zM1 a1;have bI := Z2 a1.out 0;have bJ := Z2 a1.out 1;have cU := aj.out;have cV := ak.out;have bK := zM0 a2;have bL := zM1 a2;have bM := Z2 a2.out 0;have bN := Z2 a2.out 1
   go_wp2
   refine bodyPost_ret (results_cell_row rfl _ _ ay 29 #[.int .u64 a9, .int .u8 ad] (0, 0) _ rfl (by (with_reducible repeat (first | refine Zf ?_ _ | refine Z8 ?_ | refine Zg ?_ _)); refine Ze (cs := #[.int .u64 a9, .int .u8 0]) ?_ 1 _ rfl; refine Ze (cs := #[.int .u64 0, .int .u8 0]) ?_ 0 _ rfl; exact a2.out) Tryd.underlying29 rfl (by kernel_rfl)) rfl ?_;exact ⟨er, zs⟩
def Z0A.f (k : Nat) (a2 : Bool) (a3 : List Int) (a4 : Int) : Option (Int × Int × Int) := (Z2l.f k a2 a3 a4).bind fun a5 => (if a5 = 0 then ((ZY.f k a2 a3 a4).bind fun a1 => (some (a1.1, a1.2, 0))) else (some (0, 0, a5)))
theorem Z0A.calls (k : Nat) (a4 : Bool) (a8 : Option Addr) (a9 : Nat) (a3 : List Int) (a5 : Int) (r1 : Int) (r2 : Int) (r3 : Int) (w : World) (ab : Kd.C Zu w a8 a3.length a3) (ac : a3.length ≤ a9) (hT : Laid w) (h : Z0A.f k a4 a3 a5 = some (r1, r2, r3)) :
  Calls Tryd.prog 8 #[.agg #[.bool a4, .slice a8 a3.length a9, .int .i64 a5]] w fun e w' => e = .returned (.tuple #[.agg #[.int .u64 r1, .int .u8 r2], .int .i64 r3]) ∧ Below w.heap.size w w' := by
 have hu25 := Tryd.underlying25;have hu29 := Tryd.underlying29;have ad := zA ab;have ae := zA ac;clear ab ac;have HB := zA (Below.refl w.heap.size w);have H := h
 unfold Z0A.f at H
 clear h;obtain ⟨ag, A2, H⟩ := zh H
 by_cases c3 : ag = 0
 rw [if_pos c3] at H;have ai := eT c3;have aj := nF c3;clear c3;obtain ⟨⟨aa, ah⟩, A4, H⟩ := zh H;(try dsimp only at H);rotate_left;rw [if_neg c3] at H;have ai := eF c3;have aj := nT c3;rotate_left
 all_goals
  simp only [zk3, zk7] at H;obtain ⟨rfl, rfl, rfl⟩ := H;go_enter Tryd.func8, Tryd.ntmps8
  go_wp2_with (first | ((with_reducible refine zD 1 rfl ?_); refine zn (N := 1) (cs := #[.bool a4, .slice a8 a3.length a9, .int .i64 a5]) (t := 25) rfl rfl ?_; intro aB hg w5 hbox hb; have a2 := zA (hbox); have aC := zw hg; replace HB := ze hb; clear hb hbox hg) | ((with_reducible refine zD 2 rfl ?_); refine zn (N := 2) (cs := #[.int .u64 0, .int .u8 0]) (t := 29) rfl rfl ?_; intro af hg w6 hbox hb; have a1 := zA (hbox); have aD := zx hg; replace HB := zf hb; have a6 := zl a2 hg; have a7 := zg a2 hg; replace a2 := zb a2 hb; clear hb hbox hg; have aE := a6.out; have aF := a7.out; obtain ⟨_, _, _, _, _, _⟩ := zc a2) | ((with_reducible refine zG 32 rfl ?_); refine zC (some 6) Tryd.func32 (Z2l.calls k a4 _ _ a3 a5 ag _ (zk (Za ad.out HB.out)) (ae.out) A2.out) ?_; rintro e w9 ⟨rfl, hb⟩; refine ⟨_, rfl, ?_⟩; replace a2 := zb a2 hb; replace a1 := zb a1 hb; replace HB := zf hb; (try (obtain ⟨ak, al, am, an, ao, ap⟩ := zc a2)); (try (have aq := zM0 a1; have ar := zM1 a1; have au := Z2 a1.out 0; have av := Z2 a1.out 1))) | ((with_reducible refine zG 33 rfl ?_); refine zC (some 12) Tryd.func33 (ZY.calls k a4 _ _ a3 a5 aa ah _ (zk (Za ad.out HB.out)) (ae.out) (laid_below hT zs) A4.out) ?_; rintro e w11 ⟨rfl, hb⟩; refine ⟨_, rfl, ?_⟩; replace a2 := zb a2 hb; replace a1 := zb a1 hb; replace HB := zf hb; have aw := zM0 a1; have ax := zM1 a1; have ay := Z2 a1.out 0; have aA := Z2 a1.out 1))
 ·refine bodyPost_ret (Z2k rfl _ _ af 29 #[.int .u64 aa, .int .u8 ah] (0, 0) _ rfl (by (with_reducible repeat (first | refine Zf ?_ _ | refine Z8 ?_ | refine Zg ?_ _)); refine Ze (cs := #[.int .u64 aa, .int .u8 0]) ?_ 1 _ rfl; refine Ze (cs := #[.int .u64 0, .int .u8 0]) ?_ 0 _ rfl; exact a1.out) Tryd.underlying29 rfl (by kernel_rfl)) rfl ?_;exact ⟨er, zs⟩
 refine bodyPost_ret (Z2k rfl _ _ af 29 #[.int .u64 0, .int .u8 0] (0, 0) _ rfl (by (with_reducible repeat (first | refine Zf ?_ _ | refine Z8 ?_ | refine Zg ?_ _)); refine Ze (cs := #[.int .u64 0, .int .u8 0]) ?_ 1 _ rfl; refine Ze (cs := #[.int .u64 0, .int .u8 0]) ?_ 0 _ rfl; exact a1.out) Tryd.underlying29 rfl (by kernel_rfl)) rfl ?_;exact ⟨er, zs⟩
def Z0a.l0 : Nat → Int → List Int → Int → Int → Option (Bool)
 | 0, _, _, _, _ => none
 | k + 1, x3, x6, x7, x8 => if x8 < x7 then (if 0 ≤ x8 then (if x8 < (x6.length : Int) then (if (rd x6 x8) = 0 then (Z0a.l0 k x3 x6 x7 (wrap64 (x8 + 1))) else (Z0a.l0 k (wrap64 (x8 + 1)) x6 x7 (wrap64 (x8 + 1)))) else (none)) else (none)) else (some (decide (x3 > 1024)))
def Z0a.f (k : Nat) (l0 : List Int) : Option (Bool) := Z0a.l0 k 0 l0 (l0.length : Int) 0
theorem Z0a.calls (k : Nat) (A0 : Option Addr) (c0 : Nat) (l0 : List Int) (r : Bool) (w : World) (hr0 : Kd.C Zu w A0 l0.length l0) (hc0 : l0.length ≤ c0) (h : Z0a.f k l0 = some r) :
  Calls Tryd.prog 52 #[.slice A0 l0.length c0] w fun e w' => e = .returned (.bool r) ∧ Drawn0 w w' := by
 have a4 := zA hr0;have aa := zA hc0;clear hr0 hc0;have H := h
 unfold Z0a.f at H
 clear h;have H' := zA H;clear H;go_enter Tryd.func52, Tryd.ntmps52
 go_wp2
 go_loopg [3, 8] k (fun kq v3 v8 w' => ∃ (a2 : Int) (a1 : Int), v3 = .int .i64 a2 ∧ v8 = .int .i64 a1 ∧ Aside0 (Z0a.l0 kq a2 l0 (l0.length : Int) a1 = some r) ∧ Aside0 (kq ≤ k) ∧ Drawn0 w w')
 case atStart => exact ⟨(0), (0), zi, zi, H', zB2, by repeat (first | exact Drawn0.refl _ | apply Drawn0.step)⟩
 case round =>
  clear H';obtain ⟨a2, a1, rfl, rfl, HA, HK1, ⟨m1, rfl⟩⟩ := hrel
  cases gk with
  | zero => exact absurd HA.out (by simp [Z0a.l0])
  | succ k1 =>
   have H := HA.out;clear HA;simp only [Z0a.l0] at H
   by_cases c2 : a1 < (l0.length : Int)
   ·rw [if_pos c2] at H;have a5 := dT c2;clear c2;replace H := dn H;obtain ⟨c3, H⟩ := H;have a8 := dT c3;clear c3;replace H := dn H;obtain ⟨c4, H⟩ := H;have a9 := dT c4;clear c4
    by_cases c5 : (rd l0 a1) = 0
    ·rw [if_pos c5] at H;have a6 := eT c5;have a7 := nF c5;clear c5;have H' := zA H;clear H;have p263 : 0 ≤ (a1 : Int) := od;have q263 : a1 < (l0.length : Int) := od;obtain ⟨ad263, e263, a3⟩ := Kd.ZF a4.out a1 p263 q263;cases e263;replace p263 := eq_true p263;replace q263 := eq_true q263
     go_wp2
     go_roundg k1
     case measure => have := HK1.out; omega
     case rel => exact ⟨(a2), (wrap64 (a1 + 1)), zi, zi, H', zB1, by repeat (first | exact Drawn0.refl _ | apply Drawn0.step)⟩
    rw [if_neg c5] at H;have a6 := eF c5;have a7 := nT c5;have H' := zA H;clear H;have p263 : 0 ≤ (a1 : Int) := od;have q263 : a1 < (l0.length : Int) := od;obtain ⟨ad263, e263, a3⟩ := Kd.ZF a4.out a1 p263 q263;cases e263;replace p263 := eq_true p263;replace q263 := eq_true q263
    go_wp2
    go_roundg k1
    case measure => have := HK1.out; omega
    case rel => exact ⟨(wrap64 (a1 + 1)), (wrap64 (a1 + 1)), zi, zi, H', zB1, by repeat (first | exact Drawn0.refl _ | apply Drawn0.step)⟩
   rw [if_neg c2] at H;have a5 := dF c2;clear c2;obtain rfl := zk1 H
   go_wp2
   go_ret;exact ⟨by first | rfl | (simp; done) | (simp [*]; done), by repeat (first | exact Drawn0.refl _ | apply Drawn0.step)⟩
def ZV.f (k : Nat) (a4 : Bool) (a2 : List Int) (a1 : Int) : Option (Bool) := (Z0a.f k a2).bind fun a3 => (if a3 = true then (some false) else (if a1 ≥ (-32768) then (some (decide (a1 ≤ 32768))) else (some false)))
theorem ZV.calls (k : Nat) (a3 : Bool) (a4 : Option Addr) (a5 : Nat) (a1 : List Int) (a2 : Int) (r : Bool) (w : World) (a6 : Kd.C Zu w a4 a1.length a1) (a7 : a1.length ≤ a5) (h : ZV.f k a3 a1 a2 = some r) :
  Calls Tryd.prog 24 #[.agg #[.bool a3, .slice a4 a1.length a5, .int .i64 a2]] w fun e w' => e = .returned (.bool r) ∧ Below w.heap.size w w' := by
 have hu25 := Tryd.underlying25;have a8 := zA a6;have a9 := zA a7;clear a6 a7;have HB := zA (Below.refl w.heap.size w);have H := h
 unfold ZV.f at H
 clear h;obtain ⟨ab, A2, H⟩ := zh H
 by_cases c3 : ab = true
 subst c3;rw [if_pos rfl] at H;rotate_left;replace c3 := Bool.eq_false_iff.mpr c3;subst c3;rw [if_neg (show ¬ (false = true) by decide)] at H
 by_cases c6 : a2 ≥ (-32768)
 rw [if_pos c6] at H;have ac := dT c6;clear c6;rotate_left;rw [if_neg c6] at H;have ac := dF c6;clear c6;rotate_left
 all_goals
  obtain rfl := zk1 H;go_enter Tryd.func24, Tryd.ntmps24
  go_wp2_with (first | ((with_reducible refine zD 1 rfl ?_); refine zn (N := 1) (cs := #[.bool a3, .slice a4 a1.length a5, .int .i64 a2]) (t := 25) rfl rfl ?_; intro aj hg w4 hbox hb; have aa := zA (hbox); have ak := zw hg; replace HB := ze hb; clear hb hbox hg; (try (obtain ⟨_, _, _, _, _, _⟩ := zc aa)); (try (obtain ⟨ad, ae, af, ag, ah, ai⟩ := zc aa))) | ((with_reducible refine zG 52 rfl ?_); refine zC (some 5) Tryd.func52 (Z0a.calls k _ _ a1 true _ (zk (Za a8.out HB.out)) (a9.out) A2.out) ?_; rintro e w' ⟨rfl, ⟨nd, rfl⟩⟩; refine ⟨_, rfl, ?_⟩) | ((with_reducible refine zG 52 rfl ?_); refine zC (some 5) Tryd.func52 (Z0a.calls k _ _ a1 false _ (zk (Za a8.out HB.out)) (a9.out) A2.out) ?_; rintro e w' ⟨rfl, ⟨nd, rfl⟩⟩; refine ⟨_, rfl, ?_⟩))
  go_ret;exact ⟨er, zs⟩
def Z0w.l0 : Nat → List Int → Int → Int → Option (Int)
 | 0, _, _, _ => none
 | k + 1, x5, x6, x7 => if x7 < x6 then (if 0 ≤ x7 then (if x7 < (x5.length : Int) then (if (rd x5 x7) = 0 then (Z0w.l0 k x5 x6 (wrap64 (x7 + 1))) else ((Z0z.f (rd x5 x7)).bind fun a1 => (some (wrap64 ((wrap64 (64 * x7)) + a1))))) else (none)) else (none)) else (some 0)
def Z0w.f (k : Nat) (l0 : List Int) : Option (Int) := Z0w.l0 k l0 (l0.length : Int) 0
theorem Z0w.calls (k : Nat) (A0 : Option Addr) (c0 : Nat) (l0 : List Int) (r : Int) (w : World) (hr0 : Kd.C Zu w A0 l0.length l0) (hc0 : l0.length ≤ c0) (hT : Laid w) (h : Z0w.f k l0 = some r) :
  Calls Tryd.prog 85 #[.slice A0 l0.length c0] w fun e w' => e = .returned (.int .i64 r) ∧ Drawn0 w w' := by
 have a3 := zA hr0;have aa := zA hc0;clear hr0 hc0;have H := h
 unfold Z0w.f at H
 clear h;have H' := zA H;clear H;go_enter Tryd.func85, Tryd.ntmps85
 go_wp2
 go_loopg [7] k (fun kq v7 w' => ∃ (a1 : Int), v7 = .int .i64 a1 ∧ Aside0 (Z0w.l0 kq l0 (l0.length : Int) a1 = some r) ∧ Aside0 (kq ≤ k) ∧ Drawn0 w w')
 case atStart => exact ⟨(0), zi, H', zB2, by repeat (first | exact Drawn0.refl _ | apply Drawn0.step)⟩
 case round =>
  clear H';obtain ⟨a1, rfl, HA, HK1, ⟨m1, rfl⟩⟩ := hrel
  cases gk with
  | zero => exact absurd HA.out (by simp [Z0w.l0])
  | succ k1 =>
   have H := HA.out;clear HA;simp only [Z0w.l0] at H
   by_cases c2 : a1 < (l0.length : Int)
   ·rw [if_pos c2] at H;have a4 := dT c2;clear c2;replace H := dn H;obtain ⟨c3, H⟩ := H;have a8 := dT c3;clear c3;replace H := dn H;obtain ⟨c4, H⟩ := H;have a9 := dT c4;clear c4
    by_cases c5 : (rd l0 a1) = 0
    ·rw [if_pos c5] at H;have a5 := eT c5;have a6 := nF c5;clear c5;have H' := zA H;clear H;have p412 : 0 ≤ (a1 : Int) := od;have q412 : a1 < (l0.length : Int) := od;obtain ⟨ad412, e412, a2⟩ := Kd.ZF a3.out a1 p412 q412;cases e412;replace p412 := eq_true p412;replace q412 := eq_true q412
     go_wp2
     go_roundg k1
     case measure => have := HK1.out; omega
     case rel => exact ⟨(wrap64 (a1 + 1)), zi, H', zB1, by repeat (first | exact Drawn0.refl _ | apply Drawn0.step)⟩
    rw [if_neg c5] at H;have a5 := eF c5;have a6 := nT c5;obtain ⟨a7, A6, H⟩ := zh H;obtain rfl := zk1 H;have p412 : 0 ≤ (a1 : Int) := od;have q412 : a1 < (l0.length : Int) := od;obtain ⟨ad412, e412, a2⟩ := Kd.ZF a3.out a1 p412 q412;cases e412;replace p412 := eq_true p412;replace q412 := eq_true q412
    go_wp2_with (first | ((with_reducible refine zG 116 rfl ?_); refine zC (some 17) Tryd.func116 (Z0z.calls (rd l0 a1) a7 _ (by repeat (first | (with_reducible first | exact hT | apply laid_drewN | apply laid_drew) | exact hT)) A6.out) ?_; rintro e w' ⟨rfl, ⟨nd, rfl⟩⟩; refine ⟨_, rfl, ?_⟩))
    go_ret;exact ⟨by first | rfl | (simp; done) | (simp [*]; done), by repeat (first | exact Drawn0.refl _ | apply Drawn0.step)⟩
   rw [if_neg c2] at H;have a4 := dF c2;clear c2;obtain rfl := zk1 H
   go_wp2
   go_ret;exact ⟨by first | rfl | (simp; done) | (simp [*]; done), by repeat (first | exact Drawn0.refl _ | apply Drawn0.step)⟩
end Go.Proofs.YtnjfckadjklmfaaDoor.PAll
