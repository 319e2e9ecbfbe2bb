/- Pairs of floats: what the steps come to, and that they all come to floats. Plain numbers: no program. -/
import Derived.Test.YteaghcchalfgmaaNXb
namespace Go.Proofs.Yteaghcchalfgmaa.Nm
open Ieee
set_option linter.unusedVariables false
set_option maxRecDepth 10000

def fA (x y : Nat) : Option Nat := floatBits .add .f64 x y
def fS (x y : Nat) : Option Nat := floatBits .sub .f64 x y
def fM (x y : Nat) : Option Nat := floatBits .mul .f64 x y
def fD (x y : Nat) : Option Nat := floatBits .quo .f64 x y


def twoF (a b : Nat) : Option (Nat × Nat) :=
  (fA a b).bind fun s => (fS s a).bind fun x => (fS s x).bind fun y => (fS a y).bind fun u => (fS b x).bind fun v => (fA u v).bind fun t => some (s, t)
def fastF (a b : Nat) : Option (Nat × Nat) :=
  (fA a b).bind fun s => (fS s a).bind fun x => (fS b x).bind fun t => some (s, t)
def halvesF (a : Nat) : Option (Nat × Nat) :=
  (fM 4728779608772575232 a).bind fun c => (fS c a).bind fun x => (fS c x).bind fun h => (fS a h).bind fun l => some (h, l)
def prodF (a b : Nat) : Option (Nat × Nat) :=
  (fM a b).bind fun p => (halvesF a).bind fun hl => (halvesF b).bind fun mn => (fM hl.1 mn.1).bind fun x0 => (fS p x0).bind fun x => (fM hl.2 mn.1).bind fun y0 => (fS x y0).bind fun y =>
  (fM hl.1 mn.2).bind fun z0 => (fS y z0).bind fun z => (fM hl.2 mn.2).bind fun u => (fS u z).bind fun t => some (p, t)
def addF (a b c d : Nat) : Option (Nat × Nat) :=
  (twoF a c).bind fun st => (twoF b d).bind fun uv => (fA st.2 uv.1).bind fun w => (fastF st.1 w).bind fun q => (fA uv.2 q.2).bind fun z => fastF q.1 z
def mulF (a b c d : Nat) : Option (Nat × Nat) :=
  (prodF a c).bind fun ce => (fM a d).bind fun f => (fM b c).bind fun g => (fA f g).bind fun h => (fA ce.2 h).bind fun i => fastF ce.1 i
def timesF (a b k : Nat) : Option (Nat × Nat) :=
  (prodF a k).bind fun ce => (fM b k).bind fun f => (fastF ce.1 f).bind fun q => (fA q.2 ce.2).bind fun g => fastF q.1 g
def divF (a b c d : Nat) : Option (Nat × Nat) :=
  (fD a c).bind fun q => (timesF c d q).bind fun r => (fS a r.1).bind fun u => (fS b r.2).bind fun v => (fA u v).bind fun e => (fD e c).bind fun g => fastF q g

theorem two_Bd {i a b : Nat} (ha : Bd i a) (hb : Bd i b) (h1 : 1 ≤ i) (h2 : i ≤ 2030) : ∃ s t, twoF a b = some (s, t) ∧ Bd (i + 2) s ∧ Bd (i + 10) t := by
  obtain ⟨s, es, bs⟩ := add_Bd ha hb h1 (by omega)
  obtain ⟨x, ex, bx⟩ := sub_Bd (i := i + 2) bs (bd_mono ha (by omega)) (by omega) (by omega)
  obtain ⟨y, ey, by_⟩ := sub_Bd (i := i + 4) (bd_mono bs (by omega)) bx (by omega) (by omega)
  obtain ⟨u, eu, bu⟩ := sub_Bd (i := i + 6) (bd_mono ha (by omega)) by_ (by omega) (by omega)
  obtain ⟨v, ev, bv⟩ := sub_Bd (i := i + 4) (bd_mono hb (by omega)) bx (by omega) (by omega)
  obtain ⟨t, et, bt⟩ := add_Bd (i := i + 8) bu (bd_mono bv (by omega)) (by omega) (by omega)
  refine ⟨s, t, ?_, bs, bt⟩
  unfold twoF fA fS
  simp only [es, ex, ey, eu, ev, et, Option.bind_some]

theorem fast_Bd {i a b : Nat} (ha : Bd i a) (hb : Bd i b) (h1 : 1 ≤ i) (h2 : i ≤ 2030) : ∃ s t, fastF a b = some (s, t) ∧ Bd (i + 2) s ∧ Bd (i + 6) t := by
  obtain ⟨s, es, bs⟩ := add_Bd ha hb h1 (by omega)
  obtain ⟨x, ex, bx⟩ := sub_Bd (i := i + 2) bs (bd_mono ha (by omega)) (by omega) (by omega)
  obtain ⟨t, et, bt⟩ := sub_Bd (i := i + 4) (bd_mono hb (by omega)) bx (by omega) (by omega)
  refine ⟨s, t, ?_, bs, bt⟩
  unfold fastF fA fS
  simp only [es, ex, et, Option.bind_some]

theorem halves_Bd {i a : Nat} (ha : Bd i a) (h1 : 1 ≤ i) (h2 : i ≤ 2000) : ∃ h l, halvesF a = some (h, l) ∧ Bd (i + 33) h ∧ Bd (i + 35) l := by
  have hk : Bd 1051 4728779608772575232 := ⟨by decide, by decide⟩
  obtain ⟨c, ec, bc⟩ := mul_Bd hk ha (by omega) (by omega) h1 (by omega) (by omega) (by omega)
  obtain ⟨x, ex, bx⟩ := sub_Bd (i := i + 29) (bd_mono bc (by omega)) (bd_mono ha (by omega)) (by omega) (by omega)
  obtain ⟨h, eh, bh⟩ := sub_Bd (i := i + 31) (bd_mono bc (by omega)) bx (by omega) (by omega)
  obtain ⟨l, el, bl⟩ := sub_Bd (i := i + 33) (bd_mono ha (by omega)) bh (by omega) (by omega)
  refine ⟨h, l, ?_, bh, bl⟩
  unfold halvesF fM fS
  simp only [ec, ex, eh, el, Option.bind_some]

theorem prod_Bd {i j a b : Nat} (ha : Bd i a) (hb : Bd j b) (h1 : 1 ≤ i) (h2 : i ≤ 2000) (h3 : 1 ≤ j) (h4 : j ≤ 2000) (h5 : 1024 ≤ i + j) (h6 : i + j ≤ 2990) : ∃ p t, prodF a b = some (p, t) ∧ Bd (i + j - 1022) p ∧ Bd (i + j - 948) t := by
  obtain ⟨p, ep, bp⟩ := mul_Bd ha hb h1 (by omega) h3 (by omega) h5 (by omega)
  obtain ⟨h, l, e1, bh, bl⟩ := halves_Bd ha h1 h2
  obtain ⟨m, n, e2, bm, bn⟩ := halves_Bd hb h3 h4
  obtain ⟨x0, e3, b3⟩ := mul_Bd bh bm (by omega) (by omega) (by omega) (by omega) (by omega) (by omega)
  obtain ⟨x, e4, b4⟩ := sub_Bd (i := i + j - 956) (bd_mono bp (by omega)) (bd_mono b3 (by omega)) (by omega) (by omega)
  obtain ⟨y0, e5, b5⟩ := mul_Bd bl bm (by omega) (by omega) (by omega) (by omega) (by omega) (by omega)
  obtain ⟨y, e6, b6⟩ := sub_Bd (i := i + j - 954) (bd_mono b4 (by omega)) (bd_mono b5 (by omega)) (by omega) (by omega)
  obtain ⟨z0, e7, b7⟩ := mul_Bd bh bn (by omega) (by omega) (by omega) (by omega) (by omega) (by omega)
  obtain ⟨z, e8, b8⟩ := sub_Bd (i := i + j - 952) (bd_mono b6 (by omega)) (bd_mono b7 (by omega)) (by omega) (by omega)
  obtain ⟨u, e9, b9⟩ := mul_Bd bl bn (by omega) (by omega) (by omega) (by omega) (by omega) (by omega)
  obtain ⟨t, e10, b10⟩ := sub_Bd (i := i + j - 950) (bd_mono b9 (by omega)) (bd_mono b8 (by omega)) (by omega) (by omega)
  refine ⟨p, t, ?_, bp, bd_mono b10 (by omega)⟩
  unfold prodF fM fS
  simp only [ep, e1, e2, e3, e4, e5, e6, e7, e8, e9, e10, Option.bind_some]

theorem addF_Bd {i a b c d : Nat} (ha : Bd i a) (hb : Bd i b) (hc : Bd i c) (hd : Bd i d) (h1 : 1 ≤ i) (h2 : i ≤ 2000) : ∃ s t, addF a b c d = some (s, t) ∧ Bd (i + 30) s ∧ Bd (i + 30) t := by
  obtain ⟨s, t, e1, b1, b2⟩ := two_Bd ha hc h1 (by omega)
  obtain ⟨u, v, e2, b3, b4⟩ := two_Bd hb hd h1 (by omega)
  obtain ⟨w, e3, b5⟩ := add_Bd (i := i + 10) b2 (bd_mono b3 (by omega)) (by omega) (by omega)
  obtain ⟨q, r, e4, b6, b7⟩ := fast_Bd (i := i + 12) (bd_mono b1 (by omega)) b5 (by omega) (by omega)
  obtain ⟨z, e5, b8⟩ := add_Bd (i := i + 18) (bd_mono b4 (by omega)) b7 (by omega) (by omega)
  obtain ⟨g, h, e6, b9, b10⟩ := fast_Bd (i := i + 20) (bd_mono b6 (by omega)) b8 (by omega) (by omega)
  refine ⟨g, h, ?_, bd_mono b9 (by omega), bd_mono b10 (by omega)⟩
  unfold addF fA
  simp only [e1, e2, e3, e4, e5, e6, Option.bind_some]

theorem mulF_Bd {i j a b c d : Nat} (ha : Bd i a) (hb : Bd i b) (hc : Bd j c) (hd : Bd j d) (h1 : 1 ≤ i) (h2 : i ≤ 2000) (h3 : 1 ≤ j) (h4 : j ≤ 2000) (h5 : 1024 ≤ i + j) (h6 : i + j ≤ 2900) : ∃ s t, mulF a b c d = some (s, t) ∧ Bd (i + j - 930) s ∧ Bd (i + j - 930) t := by
  obtain ⟨p, e, e1, b1, b2⟩ := prod_Bd ha hc h1 h2 h3 h4 h5 (by omega)
  obtain ⟨f, e2, b3⟩ := mul_Bd ha hd h1 (by omega) h3 (by omega) h5 (by omega)
  obtain ⟨g, e3, b4⟩ := mul_Bd hb hc h1 (by omega) h3 (by omega) h5 (by omega)
  obtain ⟨h, e4, b5⟩ := add_Bd b3 b4 (by omega) (by omega)
  obtain ⟨z, e5, b6⟩ := add_Bd (i := i + j - 948) b2 (bd_mono b5 (by omega)) (by omega) (by omega)
  obtain ⟨s, t, e6, b7, b8⟩ := fast_Bd (i := i + j - 946) (bd_mono b1 (by omega)) (bd_mono b6 (by omega)) (by omega) (by omega)
  refine ⟨s, t, ?_, bd_mono b7 (by omega), bd_mono b8 (by omega)⟩
  unfold mulF fM fA
  simp only [e1, e2, e3, e4, e5, e6, Option.bind_some]

theorem timesF_Bd {i j a b k : Nat} (ha : Bd i a) (hb : Bd i b) (hk : Bd j k) (h1 : 1 ≤ i) (h2 : i ≤ 2000) (h3 : 1 ≤ j) (h4 : j ≤ 2000) (h5 : 1024 ≤ i + j) (h6 : i + j ≤ 2900) : ∃ s t, timesF a b k = some (s, t) ∧ Bd (i + j - 930) s ∧ Bd (i + j - 930) t := by
  obtain ⟨p, e, e1, b1, b2⟩ := prod_Bd ha hk h1 h2 h3 h4 h5 (by omega)
  obtain ⟨f, e2, b3⟩ := mul_Bd hb hk h1 (by omega) h3 (by omega) h5 (by omega)
  obtain ⟨q, r, e3, b4, b5⟩ := fast_Bd b1 b3 (by omega) (by omega)
  obtain ⟨g, e4, b6⟩ := add_Bd (i := i + j - 948) (bd_mono b5 (by omega)) b2 (by omega) (by omega)
  obtain ⟨s, t, e5, b7, b8⟩ := fast_Bd (i := i + j - 946) (bd_mono b4 (by omega)) (bd_mono b6 (by omega)) (by omega) (by omega)
  refine ⟨s, t, ?_, bd_mono b7 (by omega), bd_mono b8 (by omega)⟩
  unfold timesF fM fA
  simp only [e1, e2, e3, e4, e5, Option.bind_some]

theorem div_facts {x c l : Nat} (hc : 0 < c) (h : x / c = l) : l * c ≤ x ∧ x ≤ (l + 1) * c := by
  subst h
  refine ⟨Nat.div_mul_le_self _ _, ?_⟩
  have h1 := Nat.div_add_mod x c
  have h2 := Nat.mod_lt x hc
  rw [Nat.add_mul, Nat.mul_comm (x / c)]
  omega

theorem divF_Bd {a b c d : Nat} (ha : Bd 1323 a) (hb : Bd 1323 b) (hc : c < 18446744073709551616) (hd : d < 18446744073709551616) (hl : rg d ≤ rg c) (h1 : 723 * 4503599627370496 ≤ rg c) (h2 : rg c ≤ 1323 * 4503599627370496) :
    ∃ s t, divF a b c d = some (s, t) ∧ Bd 2040 s ∧ Bd 2040 t := by
  generalize hL : rg c / 4503599627370496 = l
  have hl1 : 723 ≤ l := by omega
  have hl2 : l ≤ 1323 := by omega
  obtain ⟨hlo, hhi⟩ := div_facts (by decide) hL
  have hc' : Bd (l + 1) c := ⟨hc, hhi⟩
  have hd' : Bd (l + 1) d := ⟨hd, Nat.le_trans hl hhi⟩
  obtain ⟨q, e1, b1⟩ := div_Bd ha hlo (by omega) (by omega) (by omega) (by omega) (by omega) (by omega)
  obtain ⟨rh, rl, e2, b2, b3⟩ := timesF_Bd hc' hd' b1 (by omega) (by omega) (by omega) (by omega) (by omega) (by omega)
  obtain ⟨u, e3, b4⟩ := sub_Bd (i := 1430) (bd_mono ha (by omega)) (bd_mono b2 (by omega)) (by omega) (by omega)
  obtain ⟨v, e4, b5⟩ := sub_Bd (i := 1430) (bd_mono hb (by omega)) (bd_mono b3 (by omega)) (by omega) (by omega)
  obtain ⟨e, e5, b6⟩ := add_Bd b4 b5 (by omega) (by omega)
  obtain ⟨g, e6, b7⟩ := div_Bd b6 hlo (by omega) (by omega) (by omega) (by omega) (by omega) (by omega)
  obtain ⟨s, t, e7, b8, b9⟩ := fast_Bd (i := 1800) (bd_mono b1 (by omega)) (bd_mono b7 (by omega)) (by omega) (by omega)
  refine ⟨s, t, ?_, bd_mono b8 (by omega), bd_mono b9 (by omega)⟩
  unfold divF fD fS fA
  simp only [e1, e2, e3, e4, e5, e6, e7, Option.bind_some]
end Go.Proofs.Yteaghcchalfgmaa.Nm
