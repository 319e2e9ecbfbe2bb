/- The law's row. -/
import Derived.Test.YtnjfckadjklmfaaDoorRows
import Derived.Test.YtnjfckadjklmfaaDoorCards
import Derived.Test.YtnjfckadjklmfaaDoorTie
import Derived.Test.YtnjfckadjklmfaaDoorXRoundWithinN1
import Derived.ProofKit
import Derived.OpenShut
import Derived.ShutString
import Derived.ChangeOld
import Derived.Lib.SmallJoins
import Derived.JoinedCond
import Derived.Deep.DeepHandedRow
import Derived.Lib.LaidTab
namespace Go.Proofs.YtnjfckadjklmfaaDoor.roundWithin
open Go.ChangeShapes Go.WideShapes Go.ChangeAt Go.RowKit Go.Joins
open Go.ChangeMaps (open_string shut_string)
set_option linter.unusedVariables false
theorem own : ownKnob Tryd.prog.godebug = none := by kernel_rfl
theorem laidOut : laidOutB Tryd.prog = true := by kernel_rfl
theorem cellsD : Tryd.prog.cellsOf 25 = 3 := by kernel_rfl
def IsRow (k : IntKind) (w : World) (a : Option Addr) (len cap : Nat) (zs : List Int) : Prop :=
 (a = none ∧ len = 0 ∧ cap = 0 ∧ zs = []) ∨
 ∃ x, a = some x ∧ len ≤ cap ∧ cap ≤ maxLen ∧ zs.length = cap ∧ (∀ i, i < zs.length → w.cell? (x.add i) = some (.int k (zs.getD i 0))) ∧ ∀ n ∈ zs, (Lit.int k n).wf = true
theorem sized_part {H : Type} {P : Program} {ts : List TypeId} {ds : List (DataW H)} {j : Nat} {t : TypeId} {parts : List (DataW H)} {fs : Array Field} (hsz : (DataW.weightsEach P ts ds).all (· ≤ reachBytes) = true) (ht : ts[j]? = some t) (hd : ds[j]? = some (.agg parts)) (hu : P.underlying t = some (.struct fs)) :
  (DataW.weightsEach P (fs.toList.map (·.type)) parts).all (· ≤ reachBytes) = true := by
 rw [List.all_eq_true]
 intro n hn
 exact List.all_eq_true.1 hsz n (DataW.weights_mem_each ht hd n (by simp only [DataW.weights, hu]; exact hn))
theorem cellsI : Tryd.prog.cellsOf 49 = 6 := by kernel_rfl
section
variable {H : Type} {enc : TypeId × Value → H} {W : World} {base : Nat} {held : Bool} {P : Program}
theorem trod3 {t : TypeId} {f0 f1 f2 : Field} {fuel : Nat} {cs : List Value} {x : DataW H × List MemPlace} (ht : P.underlying t = some (.struct #[f0, f1, f2])) (h : DataW.trod enc P W base (fun _ => true) held fuel t cs = some x) :
  ∃ y0 y1 y2 n, x.1 = .agg [y0.1, y1.1, y2.1] ∧ DataW.trod enc P W base (fun _ => true) held n f0.type ((cs.drop f0.offset).take (P.cellsOf f0.type)) = some y0 ∧ DataW.trod enc P W base (fun _ => true) held n f1.type ((cs.drop f1.offset).take (P.cellsOf f1.type)) = some y1 ∧ DataW.trod enc P W base (fun _ => true) held n f2.type ((cs.drop f2.offset).take (P.cellsOf f2.type)) = some y2 := by
 obtain ⟨xs, n, _, rfl, hl, hlen, hf⟩ := DataW.trod_struct ht h
 match xs, hlen with
 | [y0, y1, y2], _ => exact ⟨y0, y1, y2, n, by simp, by simpa using hf 0 f0 rfl, by simpa using hf 1 f1 rfl, by simpa using hf 2 f2 rfl⟩
theorem array6 {cs : Array Value} (h : cs.size = 6) : ∃ c0 c1 c2 c3 c4 c5, cs = #[c0, c1, c2, c3, c4, c5] := by
 obtain ⟨l⟩ := cs
 replace h : l.length = 6 := h
 rcases l with _ | ⟨c0, _ | ⟨c1, _ | ⟨c2, _ | ⟨c3, _ | ⟨c4, _ | ⟨c5, _ | ⟨c6, l⟩⟩⟩⟩⟩⟩⟩ <;> first | exact ⟨c0, c1, c2, c3, c4, c5, rfl⟩ | (simp at h; done)
theorem open_two {r : Reach} {b0 : Nat} {t tD : TypeId} {f0 f1 : Field} {v : Value} {d : DataW H} {p : List MemPlace} (hs : P.underlying t = some (.struct #[f0, f1])) (e0 : f0.type = tD) (e1 : f1.type = tD) (o0 : f0.offset = 0) (o1 : f1.offset = 3) (hC : P.cellsOf t = 6) (hD : P.cellsOf tD = 3)
  (hv : Value.okWide P W r b0 t v) (h : DataW.Trod enc P W base (fun _ => true) held t v d p) :
  ∃ (c0 c1 c2 c3 c4 c5 : Value) (y0 y1 : DataW H × List MemPlace) (n : Nat), v = .agg #[c0, c1, c2, c3, c4, c5] ∧ d = .agg [y0.1, y1.1] ∧ DataW.trod enc P W base (fun _ => true) held n tD [c0, c1, c2] = some y0 ∧ DataW.trod enc P W base (fun _ => true) held n tD [c3, c4, c5] = some y1 := by
 obtain ⟨cs, rfl, hsz⟩ := okWide_struct hs hv
 obtain ⟨c0, c1, c2, c3, c4, c5, rfl⟩ := array6 (hsz.trans hC)
 obtain ⟨fuel, hf⟩ := h
 obtain ⟨y0, y1, n, hx, _, h0, h1⟩ := trod_struct2 hs hf
 simp only [Prod.mk.injEq] at hx
 subst e0
 rw [e1] at h1
 exact ⟨c0, c1, c2, c3, c4, c5, y0, y1, n, rfl, hx.1, by simpa [Value.cells, o0, hD] using h0, by simpa [Value.cells, o1, hD] using h1⟩
theorem open_dyad {tD tU : TypeId} {f0 f1 f2 : Field} {ts : List TypeId} {ds : List (DataW H)} {j n : Nat} {c0 c1 c2 : Value} {y : DataW H × List MemPlace} (hs : P.underlying tD = some (.struct #[f0, f1, f2])) (hb : P.underlying f0.type = some .bool) (hl : P.underlying f1.type = some (.slice tU)) (hu : P.underlying tU = some (.int .u64)) (hi : P.underlying f2.type = some (.int .i64))
  (o0 : f0.offset = 0) (o1 : f1.offset = 1) (o2 : f2.offset = 2) (k0 : P.cellsOf f0.type = 1) (k1 : P.cellsOf f1.type = 1) (k2 : P.cellsOf f2.type = 1) (kU : P.cellsOf tU = 1) (bU : P.bytesOf tU = 8)
  (hsz : (DataW.weightsEach P ts ds).all (· ≤ reachBytes) = true) (ht : ts[j]? = some tD) (hd : ds[j]? = some y.1)
  (h : DataW.trod enc P W base (fun _ => true) held n tD [c0, c1, c2] = some y) :
  ∃ s a len cap zs x, c0 = .bool s ∧ c1 = .slice a len cap ∧ c2 = .int .i64 x ∧ IsRow .u64 W a len cap zs ∧ len * 8 ≤ 140737488351232 ∧ (Lit.int .i64 x).wf = true := by
 obtain ⟨y0, y1, y2, m, hx, h0, h1, h2⟩ := trod3 hs h
 rw [hx] at hd
 replace h0 : DataW.trod enc P W base (fun _ => true) held m f0.type [c0] = some y0 := by simpa [o0, k0] using h0
 replace h1 : DataW.trod enc P W base (fun _ => true) held m f1.type [c1] = some y1 := by simpa [o1, k1] using h1
 replace h2 : DataW.trod enc P W base (fun _ => true) held m f2.type [c2] = some y2 := by simpa [o2, k2] using h2
 obtain ⟨s, e0, _⟩ := DataW.trod_bool hb h0
 obtain ⟨x, e2, _, wx⟩ := DataW.trod_int hi h2
 have z := sized_part hsz ht hd hs
 simp only [List.cons.injEq, and_true] at e0 e2
 rcases open_ints hl hu kU h1 with ⟨hcs, _⟩ | ⟨x_, l, c, zs, hcs, _, hl_, hm, hz, hx_, hcell, hwz⟩
 ·simp only [List.cons.injEq, and_true] at hcs
  exact ⟨s, none, 0, 0, [], x, e0, hcs, e2, .inl ⟨rfl, rfl, rfl, rfl⟩, by decide, wx⟩
 simp only [List.cons.injEq, and_true] at hcs
 subst hcs
 exact ⟨s, some x_, l, c, zs, x, e0, rfl, e2, .inr ⟨_, rfl, hl_, hm, by simpa using hz, hcell, hwz⟩, Go.Proofs.YtnjfckadjklmfaaDoorW.PrintWords.Z5a z (j := 1) (t := f1.type) rfl rfl hl hu kU bU ⟨m, h1⟩, wx⟩
end
theorem gTab : Tryd.prog.globalNamed "math/bits.deBruijn64tab" = some 0 := by kernel_rfl
theorem gTabType : (Tryd.prog.globals[0]?).map (·.type) = some 131 := by kernel_rfl
theorem table {W : World} (h : laidMetH Tryd.prog Rows.roundWithinRow.laid W) : PAll.Laid W := fun i hi =>
 (Lib.tabIs_of_head (rest := []) (k := .u8) (zs := PAll.tzTab) (n := 64) (e := 5) gTab gTabType (by kernel_rfl) (by kernel_rfl) (by kernel_rfl) (by kernel_rfl) h).cell gTab i hi
noncomputable def laidWorld (os : Os) : World :=
 { World.holding Tryd.prog os ⟨#[], #[], []⟩ with heap := (World.holding Tryd.prog os ⟨#[], #[], []⟩).heap.modify 0 fun
   | .cells _ t frozen => .cells #[.int .u8 0, .int .u8 1, .int .u8 56, .int .u8 2, .int .u8 57, .int .u8 49, .int .u8 28, .int .u8 3, .int .u8 61, .int .u8 58, .int .u8 42, .int .u8 50, .int .u8 38, .int .u8 29, .int .u8 17, .int .u8 4, .int .u8 62, .int .u8 47, .int .u8 59, .int .u8 36, .int .u8 45, .int .u8 43, .int .u8 51, .int .u8 22, .int .u8 53, .int .u8 39, .int .u8 33, .int .u8 30, .int .u8 24, .int .u8 18, .int .u8 12, .int .u8 5, .int .u8 63, .int .u8 55, .int .u8 48, .int .u8 27, .int .u8 60, .int .u8 41, .int .u8 37, .int .u8 16, .int .u8 46, .int .u8 35, .int .u8 44, .int .u8 21, .int .u8 52, .int .u8 32, .int .u8 23, .int .u8 11, .int .u8 54, .int .u8 26, .int .u8 40, .int .u8 15, .int .u8 34, .int .u8 20, .int .u8 31, .int .u8 10, .int .u8 25, .int .u8 14, .int .u8 19, .int .u8 9, .int .u8 13, .int .u8 8, .int .u8 7, .int .u8 6] t frozen
   | o => o }
theorem laid_met (os : Os) : laidMet Tryd.prog Rows.roundWithinRow.laid ((laidWorld os).forCall (fun _ _ => 0) ⟨#[], #[.agg #[.bool false, .slice none 0 0, .int .i64 0, .bool false, .slice none 0 0, .int .i64 0], .agg #[.bool false, .slice none 0 0, .int .i64 0, .bool false, .slice none 0 0, .int .i64 0], .int .i64 0, .agg #[.bool false, .slice none 0 0, .int .i64 0]], []⟩).memory :=
 laidMet_of_run' 8 (by kernel_rfl) (by kernel_rfl)
theorem reads (os : Os) {H : Type} (enc : TypeId × Value → H) : ∃ places, DataW.whole enc Tryd.prog ((laidWorld os).forCall (fun _ _ => 0) ⟨#[], #[.agg #[.bool false, .slice none 0 0, .int .i64 0, .bool false, .slice none 0 0, .int .i64 0], .agg #[.bool false, .slice none 0 0, .int .i64 0, .bool false, .slice none 0 0, .int .i64 0], .int .i64 0, .agg #[.bool false, .slice none 0 0, .int .i64 0]], []⟩).memory Tryd.f6.params.toList Rows.roundWithinSpec.vars false (#[.agg #[.bool false, .slice none 0 0, .int .i64 0, .bool false, .slice none 0 0, .int .i64 0], .agg #[.bool false, .slice none 0 0, .int .i64 0, .bool false, .slice none 0 0, .int .i64 0], .int .i64 0, .agg #[.bool false, .slice none 0 0, .int .i64 0]] : Array Value).toList 8 = some ([.agg [.agg [.lit (.bool false), .nil, .lit (.int .i64 0)], .agg [.lit (.bool false), .nil, .lit (.int .i64 0)]], .agg [.agg [.lit (.bool false), .nil, .lit (.int .i64 0)], .agg [.lit (.bool false), .nil, .lit (.int .i64 0)]], .lit (.int .i64 0), .agg [.lit (.bool false), .nil, .lit (.int .i64 0)]], [], places) :=
 ⟨[], by kernel_rfl⟩
set_option maxRecDepth 100000 in
theorem lifted (os : Os) (started : os.Started) (H : Type) (enc : TypeId × Value → H) (F : Stop.Interp) :
  ReturnsInHanded {} Tryd.checked os 6 .any ((OpenSpec.ofChange Rows.roundWithinSpec).preRow enc Tryd.prog Tryd.f6 Rows.roundWithinRow.domain false Rows.roundWithinRow.laid) (((OpenSpec.ofChange Rows.roundWithinSpec).at F).post enc Tryd.prog Tryd.f6 false true false false) := by
 obtain ⟨places, hx⟩ := reads os enc
 refine returnsInHanded_of_row (C := Tryd.checked) (s := (OpenSpec.ofChange Rows.roundWithinSpec)) own started (by kernel_rfl) Tryd.func6
  (witness_row_at (enc := enc) (C := Tryd.checked) false (laidWorld os) #[.agg #[.bool false, .slice none 0 0, .int .i64 0, .bool false, .slice none 0 0, .int .i64 0], .agg #[.bool false, .slice none 0 0, .int .i64 0, .bool false, .slice none 0 0, .int .i64 0], .int .i64 0, .agg #[.bool false, .slice none 0 0, .int .i64 0]] rfl (by kernel_rfl) (by kernel_rfl) (by kernel_rfl)
   (OpenSpec.preRow_of_cond 8 hx (by kernel_rfl) (fun k hk => by cases hk) (by kernel_rfl) (laid_met os))) ?_
 intro W base args ds gs before hval0 hW hcnd hcond hsz0 hL _ _
 have hsz : (DataW.weightsEach Tryd.prog (Tryd.f6.params.toList ++ Rows.roundWithinSpec.plain.varTypes Tryd.prog) (ds ++ gs)).all (· ≤ reachBytes) = true := hsz0
 have hval : ∀ (j : Nat) t v, Tryd.f6.params[j]? = some t → args[j]? = some v → Value.okWide Tryd.prog W .any base t v := hval0
 have hW' := hW
 obtain ⟨p, q, hA0, hV, rfl, hfz, hnd⟩ := hW
 have hA : DataW.TrodAll enc Tryd.prog W 0 (fun _ => true) true Tryd.f6.params.toList args.toList ds p := hA0
 rw [Tryd.params6] at hA hval hsz
 obtain ⟨v0, vs0, d0, ds0, p0, q0, hargs, rfl, rfl, h0, r0⟩ := trodAll_cons hA
 obtain ⟨v1, vs1, d1, ds1, p1, q1, rfl, rfl, rfl, h1, r1⟩ := trodAll_cons r0
 obtain ⟨v2, vs2, d2, ds2, p2, q2, rfl, rfl, rfl, h2, r2⟩ := trodAll_cons r1
 obtain ⟨v3, vs3, d3, ds3, p3, q3, rfl, rfl, rfl, h3, r3⟩ := trodAll_cons r2
 obtain ⟨rfl, rfl, rfl⟩ := trodAll_nil r3
 obtain rfl : args = #[v0, v1, v2, v3] := by cases args; simp_all
 obtain ⟨rfl, rfl⟩ := trodVars_none hV
 have k0 := h0
 have lt0 : ∀ x ∈ p0, x.block < W.heap.size := by obtain ⟨m, hm⟩ := k0; exact DataW.trod_lt m _ _ _ hm
 obtain ⟨b0_0, b0_1, b0_2, b0_3, b0_4, b0_5, u0a, u0b, n0, rfl, hd0, f0a, f0b⟩ := open_two Tryd.underlying49 rfl rfl rfl rfl cellsI cellsD (hval 0 49 v0 rfl rfl) h0
 have zz0 := sized_part (j := 0) (t := 49) hsz rfl (by subst hd0; rfl) Tryd.underlying49
 obtain ⟨s0a, a0a, len0a, cap0a, z0a, x0a, rfl, rfl, rfl, w0a, y0a, wx0a⟩ := open_dyad Tryd.underlying25 Tryd.underlying4 Tryd.underlying23 Tryd.underlying26 Tryd.underlying3 rfl rfl rfl (by kernel_rfl) (by kernel_rfl) (by kernel_rfl) (by kernel_rfl) (by kernel_rfl) zz0 (j := 0) rfl rfl f0a
 obtain ⟨s0b, a0b, len0b, cap0b, z0b, x0b, rfl, rfl, rfl, w0b, y0b, wx0b⟩ := open_dyad Tryd.underlying25 Tryd.underlying4 Tryd.underlying23 Tryd.underlying26 Tryd.underlying3 rfl rfl rfl (by kernel_rfl) (by kernel_rfl) (by kernel_rfl) (by kernel_rfl) (by kernel_rfl) zz0 (j := 1) rfl rfl f0b
 have k1 := h1
 have lt1 : ∀ x ∈ p1, x.block < W.heap.size := by obtain ⟨m, hm⟩ := k1; exact DataW.trod_lt m _ _ _ hm
 obtain ⟨b1_0, b1_1, b1_2, b1_3, b1_4, b1_5, u1a, u1b, n1, rfl, hd1, f1a, f1b⟩ := open_two Tryd.underlying49 rfl rfl rfl rfl cellsI cellsD (hval 1 49 v1 rfl rfl) h1
 have zz1 := sized_part (j := 1) (t := 49) hsz rfl (by subst hd1; rfl) Tryd.underlying49
 obtain ⟨s1a, a1a, len1a, cap1a, z1a, x1a, rfl, rfl, rfl, w1a, y1a, wx1a⟩ := open_dyad Tryd.underlying25 Tryd.underlying4 Tryd.underlying23 Tryd.underlying26 Tryd.underlying3 rfl rfl rfl (by kernel_rfl) (by kernel_rfl) (by kernel_rfl) (by kernel_rfl) (by kernel_rfl) zz1 (j := 0) rfl rfl f1a
 obtain ⟨s1b, a1b, len1b, cap1b, z1b, x1b, rfl, rfl, rfl, w1b, y1b, wx1b⟩ := open_dyad Tryd.underlying25 Tryd.underlying4 Tryd.underlying23 Tryd.underlying26 Tryd.underlying3 rfl rfl rfl (by kernel_rfl) (by kernel_rfl) (by kernel_rfl) (by kernel_rfl) (by kernel_rfl) zz1 (j := 1) rfl rfl f1b
 obtain ⟨a2, rfl, rfl, rfl, w2⟩ := open_int Tryd.underlying3 (hval 2 3 v2 rfl rfl) h2
 have k3 := h3
 have lt3 : ∀ x ∈ p3, x.block < W.heap.size := by obtain ⟨m, hm⟩ := k3; exact DataW.trod_lt m _ _ _ hm
 obtain ⟨c3_0, c3_1, c3_2, y3_0, y3_1, y3_2, m3, rfl, hd3, hp3, g3_0, g3_1, g3_2⟩ := open_agg3 Tryd.underlying25 (by kernel_rfl) cellsD (hval 3 25 v3 rfl rfl) h3
 obtain ⟨s3, e3_0, _⟩ := DataW.trod_bool Tryd.underlying4 g3_0
 obtain ⟨x3, e3_2, _, wx3⟩ := DataW.trod_int Tryd.underlying3 g3_2
 simp only [List.cons.injEq, and_true] at e3_0; subst e3_0
 simp only [List.cons.injEq, and_true] at e3_2; subst e3_2
 obtain ⟨a3, len3, cap3, z3, e3_1, w3, y3⟩ : ∃ a len cap zs, c3_1 = .slice a len cap ∧ IsRow .u64 W a len cap zs ∧ len * 8 ≤ 140737488351232 := by
  have z := sized_part (j := 3) (t := 25) hsz rfl (by subst hd3; rfl) Tryd.underlying25
  rcases open_ints Tryd.underlying23 Tryd.underlying26 (by kernel_rfl) g3_1 with ⟨hcs, _⟩ | ⟨x, l, c, zs, hcs, _, hl, hm, hz, hx, hcell, hwz⟩
  ·simp only [List.cons.injEq, and_true] at hcs
   exact ⟨none, 0, 0, [], hcs, .inl ⟨rfl, rfl, rfl, rfl⟩, by decide⟩
  simp only [List.cons.injEq, and_true] at hcs
  subst hcs
  refine ⟨some x, l, c, zs, rfl, .inr ⟨_, rfl, hl, hm, by simpa using hz, hcell, hwz⟩, ?_⟩
  exact Go.Proofs.YtnjfckadjklmfaaDoorW.PrintWords.Z5a z (j := 1) (t := 23) rfl rfl Tryd.underlying23 Tryd.underlying26 (by kernel_rfl) (by kernel_rfl) ⟨m3, g3_1⟩
 subst e3_1
 obtain ⟨l0a, rfl, hr0a, hm0a, hw0a, hc0a⟩ := Go.Proofs.YtnjfckadjklmfaaDoorW.PrintWords.ReadsInt.ofRowC w0a
 obtain ⟨l0b, rfl, hr0b, hm0b, hw0b, hc0b⟩ := Go.Proofs.YtnjfckadjklmfaaDoorW.PrintWords.ReadsInt.ofRowC w0b
 obtain ⟨l1a, rfl, hr1a, hm1a, hw1a, hc1a⟩ := Go.Proofs.YtnjfckadjklmfaaDoorW.PrintWords.ReadsInt.ofRowC w1a
 obtain ⟨l1b, rfl, hr1b, hm1b, hw1b, hc1b⟩ := Go.Proofs.YtnjfckadjklmfaaDoorW.PrintWords.ReadsInt.ofRowC w1b
 obtain ⟨l3, rfl, hr3, hm3, hw3, hc3⟩ := Go.Proofs.YtnjfckadjklmfaaDoorW.PrintWords.ReadsInt.ofRowC w3
 clear hA0 hval0 hsz0 hsz
 obtain ⟨k, hk⟩ := Pure.RoundWithin s0a l0a x0a s0b l0b x0b s1a l1a x1a s1b l1b x1b a2 s3 l3 x3 y0a hw0a wx0a y0b hw0b wx0b y1a hw1a wx1a y1b hw1b wx1b w2 y3 hw3 wx3
 refine (PAll.Zl.calls k s0a _ _ l0a x0a s0b _ _ l0b x0b s1a _ _ l1a x1a s1b _ _ l1b x1b a2 s3 _ _ l3 x3 true W (Go.Proofs.YtnjfckadjklmfaaDoorW.PrintWords.Kd.Z1T (d := (0 : Int)) (h1 := fun _ => rfl) hr0a) hc0a (Go.Proofs.YtnjfckadjklmfaaDoorW.PrintWords.Kd.Z1T (d := (0 : Int)) (h1 := fun _ => rfl) hr0b) hc0b (Go.Proofs.YtnjfckadjklmfaaDoorW.PrintWords.Kd.Z1T (d := (0 : Int)) (h1 := fun _ => rfl) hr1a) hc1a (Go.Proofs.YtnjfckadjklmfaaDoorW.PrintWords.Kd.Z1T (d := (0 : Int)) (h1 := fun _ => rfl) hr1b) hc1b (Go.Proofs.YtnjfckadjklmfaaDoorW.PrintWords.Kd.Z1T (d := (0 : Int)) (h1 := fun _ => rfl) hr3) hc3 (table hL) (Go.Proofs.YtnjfckadjklmfaaDoorW.PrintWords.Aside0.mk rfl) hk).mono fun e W' ⟨he, bel⟩ => ?_
 subst he
 exact ⟨_, rfl, _, _, _, [], _, [], hW', trodAll_mk1 (shut_bool Tryd.underlying4 _), (trodAll_cons_mk (Below.trod laidOut (by kernel_rfl) (of_decide_eq_true (by kernel_rfl)) k0 bel lt0) (trodAll_cons_mk (Below.trod laidOut (by kernel_rfl) (of_decide_eq_true (by kernel_rfl)) k1 bel lt1) (trodAll_cons_mk (shut_int Tryd.underlying3 w2) (trodAll_cons_mk (Below.trod laidOut (by kernel_rfl) (of_decide_eq_true (by kernel_rfl)) k3 bel lt3) trodAll_mk0)))), rfl, bel.frame _, fun h => by cases h⟩
theorem over : Rows.roundWithinRow.holds Tryd.pinned (OpenSpec.ofChange Rows.roundWithinSpec) :=
 OpenClaim.holds_of_cond 6 Tryd.f6 rfl rfl rfl rfl rfl rfl rfl ⟨rfl, rfl, rfl, rfl, rfl⟩ rfl rfl rfl rfl rfl (by kernel_rfl) Tryd.func6 (by kernel_rfl)
  (of_decide_eq_true (by kernel_rfl)) (by unfold Func.isWrapper; first | (rw [if_pos (by decide +kernel)]; kernel_rfl) | (rw [if_neg (by decide +kernel)]; exact ⟨rfl, rfl⟩))
  (fun os started H enc _ F => by rw [OpenClaim.pre_eq_preRow]; exact lifted os started H enc F)
theorem proved : Rows.RoundWithinSaid := over
theorem plain (f : FuncId) (fn : Func) (hf : Tryd.pinned.checked.prog.funcNamed "ulp/ulplaw05.RoundWithin" = some f) (hfn : Tryd.pinned.checked.prog.funcs[f]? = some fn) :
  false = Tryd.pinned.checked.prog.looks [] ∧ ∀ (j : Nat) t, fn.params[j]? = some t → Tryd.pinned.checked.prog.wantsStandIn t = false := by
 obtain rfl : f = 6 := Option.some.inj ((show Tryd.prog.funcNamed "ulp/ulplaw05.RoundWithin" = some 6 by kernel_rfl).symm.trans hf) |>.symm
 obtain rfl : fn = Tryd.f6 := (Option.some.inj (Tryd.func6.symm.trans hfn)).symm
 refine ⟨by kernel_rfl, fun j t ht => ?_⟩
 rw [Tryd.params6] at ht
 obtain rfl | rfl | rfl : t = 49 ∨ t = 3 ∨ t = 25 := by simpa using Array.mem_of_getElem? ht
 ·exact (show Tryd.prog.wantsStandIn 49 = false by kernel_rfl)
 ·exact (show Tryd.prog.wantsStandIn 3 = false by kernel_rfl)
 exact (show Tryd.prog.wantsStandIn 25 = false by kernel_rfl)
theorem card : Rows.RoundWithinCardSaid :=
 Claim7.holds_tied_plain_at .later [] _ _ _ _ proved (fun _ h => by cases h) (by kernel_rfl) (fun _ h => by cases h) roundWithin_row_tie rfl ⟨rfl, rfl⟩ (by kernel_rfl) rfl plain (by kernel_rfl)
#print axioms card
end Go.Proofs.YtnjfckadjklmfaaDoor.roundWithin
namespace Go.Proofs.YtnjfckadjklmfaaDoor
theorem roundWithin_holds : Rows.RoundWithinCardSaid := roundWithin.card
end Go.Proofs.YtnjfckadjklmfaaDoor
