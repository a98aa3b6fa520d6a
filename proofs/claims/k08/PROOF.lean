import PyProof.Rows.All
import Wide.All
import OpenK.AllK
import Wide.FinOn
import KE.KStateDown
import HandS.ForMost
import HandS.Wide
import HandS.Defaults
import HandS.Head0
import HandS.Head1
import HandS.Head2
import HandS.HeadEnd
import HandS.HeadHook1
import HandS.HeadHook2
import HandS.HeadHook3
import HandS.HeadHook4
import PySem.Challenge.RW_scenetongue_k08_whole_roots_solve
set_option linter.all false
/-! The plain laws: fractions as Rat, signs, the comparison of root numbers. No program in sight. -/
namespace K8
/-- the sign of a rational -/
def sg (x : Rat) : Int := if 0 < x then 1 else if x < 0 then -1 else 0
theorem sg_pos {x : Rat} (h : 0 < x) : sg x = 1 := by
  unfold sg
  rw [if_pos h]
theorem sg_neg {x : Rat} (h : x < 0) : sg x = -1 := by
  unfold sg
  rw [if_neg (by grind), if_pos h]
theorem sg_zero : sg 0 = 0 := by decide
theorem sg_zero_of {x : Rat} (h : x = 0) : sg x = 0 := by
  subst h
  exact sg_zero
theorem sg_tri (x : Rat) : (0 < x ∧ sg x = 1) ∨ (x < 0 ∧ sg x = -1) ∨ (x = 0 ∧ sg x = 0) := by
  by_cases h : 0 < x
  · exact .inl ⟨h, sg_pos h⟩
  · by_cases h2 : x < 0
    · exact .inr (.inl ⟨h2, sg_neg h2⟩)
    · have h3 : x = 0 := by grind
      exact .inr (.inr ⟨h3, sg_zero_of h3⟩)
theorem sg_neg_of (x : Rat) : sg (-x) = - sg x := by
  rcases sg_tri x with ⟨h, e⟩ | ⟨h, e⟩ | ⟨h, e⟩
  · rw [e, sg_neg (by grind)]
  · rw [e, sg_pos (by grind)] <;> rfl
  · rw [e, h] <;> decide
theorem sg_mul_pos {a x : Rat} (ha : 0 < a) : sg (a * x) = sg x := by
  rcases sg_tri x with ⟨h, e⟩ | ⟨h, e⟩ | ⟨h, e⟩
  · rw [e, sg_pos (Rat.mul_pos ha h)]
  · rw [e, sg_neg ((Rat.mul_neg_iff_of_pos_left ha).mpr h)]
  · rw [e, h, Rat.mul_zero, sg_zero]
/-- the fraction that two whole numbers stand for -/
def qv (a b : Int) : Rat := (a : Rat) / (b : Rat)
theorem cast_ne {b : Int} (h : 0 < b) : (b : Rat) ≠ 0 := by
  intro e
  have := Rat.intCast_eq_zero_iff.mp e
  omega
theorem cast_pos {b : Int} (h : 0 < b) : (0 : Rat) < (b : Rat) := Rat.intCast_pos.mpr h
theorem qv_add {a b c d : Int} (hb : 0 < b) (hd : 0 < d) : qv (a * d + c * b) (b * d) = qv a b + qv c d := by
  have h1 := cast_ne hb
  have h2 := cast_ne hd
  unfold qv
  rw [Rat.intCast_add, Rat.intCast_mul, Rat.intCast_mul, Rat.intCast_mul]
  grind
theorem qv_sub {a b c d : Int} (hb : 0 < b) (hd : 0 < d) : qv (a * d - c * b) (b * d) = qv a b - qv c d := by
  have h1 := cast_ne hb
  have h2 := cast_ne hd
  unfold qv
  rw [Rat.intCast_sub, Rat.intCast_mul, Rat.intCast_mul, Rat.intCast_mul]
  grind
theorem qv_mul {a b c d : Int} (hb : 0 < b) (hd : 0 < d) : qv (a * c) (b * d) = qv a b * qv c d := by
  have h1 := cast_ne hb
  have h2 := cast_ne hd
  unfold qv
  rw [Rat.intCast_mul, Rat.intCast_mul]
  grind
theorem qv_div {a b c d : Int} (hb : 0 < b) (hd : 0 < d) (hc : 0 < c) : qv (a * d) (b * c) = qv a b / qv c d := by
  have h1 := cast_ne hb
  have h2 := cast_ne hd
  have h3 := cast_ne hc
  unfold qv
  rw [Rat.intCast_mul, Rat.intCast_mul]
  grind
theorem qv_neg {a b : Int} : qv (-a) b = - qv a b := by
  unfold qv
  rw [Rat.intCast_neg]
  grind
theorem qv_red {a b a' b' p : Int} (hp : 0 < p) (hb : 0 < b') (h1 : a = a' * p) (h2 : b = b' * p) : qv a' b' = qv a b := by
  subst h1 h2
  have e1 := cast_ne hp
  have e2 := cast_ne hb
  unfold qv
  rw [Rat.intCast_mul, Rat.intCast_mul]
  grind
theorem qv_one (a : Int) : qv a 1 = (a : Rat) := by
  unfold qv
  rw [show ((1 : Int) : Rat) = 1 from rfl]
  grind
theorem sg_qv {a b : Int} (hb : 0 < b) : sg (qv a b) = (if 0 < a then 1 else 0) - (if a < 0 then 1 else 0) := by
  have h1 := cast_pos hb
  have key : qv a b = (b : Rat)⁻¹ * (a : Rat) := by
    unfold qv
    rw [Rat.div_def, Rat.mul_comm]
  rw [key, sg_mul_pos (Rat.inv_pos.mpr h1)]
  by_cases h : 0 < a
  · rw [sg_pos (Rat.intCast_pos.mpr h), if_pos h, if_neg (by omega)] <;> rfl
  · by_cases h2 : a < 0
    · rw [sg_neg (Rat.intCast_neg_iff.mpr h2), if_neg h, if_pos h2] <;> rfl
    · have e : a = 0 := by omega
      subst e
      rw [if_neg h]
      exact sg_zero
theorem qv_pos {a b : Int} (ha : 0 < a) (hb : 0 < b) : 0 < qv a b := by
  rcases sg_tri (qv a b) with ⟨h, e⟩ | ⟨h, e⟩ | ⟨h, e⟩
  · exact h
  · rw [sg_qv hb, if_pos ha, if_neg (by omega)] at e
    exact absurd e (by decide)
  · rw [sg_qv hb, if_pos ha, if_neg (by omega)] at e
    exact absurd e (by decide)
theorem pos_of_qv {a b : Int} (hb : 0 < b) (h : 0 < qv a b) : 0 < a := by
  have e := sg_qv (a := a) hb
  rw [sg_pos h] at e
  by_cases q : 0 < a
  · exact q
  · rw [if_neg q] at e
    split at e <;> exact absurd e (by decide)
/-! ### the program's own reckoning, over Rat -/
def sRoot (p q d : Rat) : Int :=
  if sg p = sg q * sg d ∨ sg q * sg d = 0 then sg p else if sg p = 0 then sg q * sg d else sg p * sg (p * p - q * q * d)
def sTwo (q d r e : Rat) : Int :=
  if sg q * sg d = sg r * sg e ∨ sg r * sg e = 0 then sg q * sg d else if sg q * sg d = 0 then sg r * sg e else sg q * sg d * sg (q * q * d - r * r * e)
def sSum (p q d r e : Rat) : Int :=
  if sg p = sTwo q d r e ∨ sTwo q d r e = 0 then sg p else if sg p = 0 then sTwo q d r e
  else sg p * sRoot (p * p - (q * q * d + r * r * e)) (-2 * (q * r)) (d * e)
/-- root numbers p + q root d -/
structure Rn where
  p : Rat
  q : Rat
  d : Rat
def cmpR (x y : Rn) : Int := sSum (x.p - y.p) x.q x.d (0 - y.q) y.d
/-- what a fraction gives against a root -/
theorem cmp_flat {t m r d : Rat} (hd : 0 < d) :
    cmpR ⟨t, 0, 0⟩ ⟨m, r, d⟩ = if sg (t - m) = sg (-r) ∨ sg (-r) = 0 then sg (t - m) else if sg (t - m) = 0 then sg (-r) else sg (t - m) * sg ((t - m) * (t - m) - r * r * d) := by
  have e0 : (0 : Rat) - r = -r := by grind
  have e1 : sTwo 0 0 (-r) d = sg (-r) := by
    unfold sTwo
    rw [sg_zero, sg_pos hd, Int.mul_one]
    by_cases h : sg (-r) = 0
    · rw [if_pos (.inr h), h] <;> rfl
    · rw [if_neg (by
        rintro (z | z)
        · exact h z.symm
        · exact h z), if_pos (show (0 : Int) * 0 = 0 from rfl)]
  have e2 : sRoot ((t - m) * (t - m) - (0 * 0 * 0 + -r * -r * d)) (-2 * (0 * -r)) (0 * d) = sg ((t - m) * (t - m) - r * r * d) := by
    have z1 : (-2 : Rat) * (0 * -r) = 0 := by grind
    have z2 : (t - m) * (t - m) - (0 * 0 * 0 + -r * -r * d) = (t - m) * (t - m) - r * r * d := by grind
    rw [z1, z2]
    unfold sRoot
    rw [sg_zero, Int.zero_mul, if_pos (.inr rfl)]
  unfold cmpR sSum
  show (if sg (t - m) = sTwo 0 0 (0 - r) d ∨ sTwo 0 0 (0 - r) d = 0 then sg (t - m) else if sg (t - m) = 0 then sTwo 0 0 (0 - r) d else sg (t - m) * sRoot ((t - m) * (t - m) - (0 * 0 * 0 + (0 - r) * (0 - r) * d)) (-2 * (0 * (0 - r))) (0 * d)) = _
  rw [e0, e1, e2]
/-- the two roots of a form, of unlike signs: the lesser one is less -/
theorem cmp_roots {m r d : Rat} (hr : 0 < r) (hd : 0 < d) : cmpR ⟨m, -r, d⟩ ⟨m, r, d⟩ = -1 := by
  have e0 : (0 : Rat) - r = -r := by grind
  have e1 : m - m = 0 := by grind
  have e2 : sg (-r) = -1 := sg_neg (by grind)
  have e3 : sTwo (-r) d (-r) d = -1 := by
    unfold sTwo
    rw [if_pos (.inl rfl), e2, sg_pos hd] <;> rfl
  unfold cmpR sSum
  show (if sg (m - m) = sTwo (-r) d (0 - r) d ∨ sTwo (-r) d (0 - r) d = 0 then sg (m - m) else if sg (m - m) = 0 then sTwo (-r) d (0 - r) d else _) = _
  rw [e0, e1, e3, sg_zero, if_neg (by decide), if_pos rfl]
/-- two ways to write one root -/
theorem cmp_same {m r d r' d' : Rat} (h : sg r * sg d = sg r' * sg d') (e : r * r * d = r' * r' * d') : cmpR ⟨m, r, d⟩ ⟨m, r', d'⟩ = 0 := by
  have e0 : (0 : Rat) - r' = -r' := by grind
  have e1 : m - m = 0 := by grind
  have e2 : sTwo r d (-r') d' = 0 := by
    unfold sTwo
    have z : r * r * d - -r' * -r' * d' = 0 := by grind
    rw [z, sg_zero, Int.mul_zero, sg_neg_of, Int.neg_mul, ← h]
    by_cases q : sg r * sg d = 0
    · rw [q] <;> rfl
    · rw [if_neg (by omega), if_neg q]
  unfold cmpR sSum
  show (if sg (m - m) = sTwo r d (0 - r') d' ∨ sTwo r d (0 - r') d' = 0 then sg (m - m) else _) = _
  rw [e0, e1, e2, sg_zero, if_pos (.inl rfl)]
/-! ### a form a t t + 2 b t + c -/
def formAt (a b c t : Rat) : Rat := (a * t + 2 * b) * t + c
def inner (a b c : Rat) : Rat := b * b - a * c
def mid (a b : Rat) : Rat := (0 - b) / a
def root0 (a b c : Rat) : Rn := ⟨mid a b, -(1 / a), inner a b c⟩
def root1 (a b c : Rat) : Rn := ⟨mid a b, 1 / a, inner a b c⟩
theorem square_form {a b c t : Rat} (ha : 0 < a) : (t - mid a b) * (t - mid a b) - 1 / a * (1 / a) * inner a b c = (1 / a) * formAt a b c t := by
  unfold mid inner formAt
  have h : a ≠ 0 := by grind
  grind
theorem inv_pos' {a : Rat} (ha : 0 < a) : 0 < 1 / a := by
  rw [Rat.div_def, Rat.one_mul]
  exact Rat.inv_pos.mpr ha
theorem square_sg {a b c t : Rat} (ha : 0 < a) : sg ((t - mid a b) * (t - mid a b) - 1 / a * (1 / a) * inner a b c) = sg (formAt a b c t) := by
  rw [square_form ha, sg_mul_pos (inv_pos' ha)]
theorem at_mid {a b c : Rat} (ha : 0 < a) (hd : 0 < inner a b c) : formAt a b c (mid a b) < 0 := by
  have e := square_form (a := a) (b := b) (c := c) (t := mid a b) ha
  have e1 : mid a b - mid a b = 0 := by grind
  rw [e1] at e
  have p1 := inv_pos' ha
  have p2 : 0 < 1 / a * (1 / a) * inner a b c := Rat.mul_pos (Rat.mul_pos p1 p1) hd
  have p3 : 1 / a * formAt a b c (mid a b) < 0 := by
    rw [← e]
    grind
  exact (Rat.mul_neg_iff_of_pos_left p1).mp p3
/-- the first comparison -/
theorem cmp_first {a b c t : Rat} (ha : 0 < a) (hd : 0 < inner a b c) : cmpR ⟨t, 0, 0⟩ (root0 a b c) = if 0 ≤ sg (t - mid a b) then 1 else - sg (formAt a b c t) := by
  have p1 := inv_pos' ha
  have e2 : sg (- -(1 / a)) = 1 := sg_pos (by grind)
  have e3 : -(1 / a) * -(1 / a) * inner a b c = 1 / a * (1 / a) * inner a b c := by grind
  unfold root0
  rw [cmp_flat hd, e2, e3, square_sg ha]
  rcases sg_tri (t - mid a b) with ⟨h, e⟩ | ⟨h, e⟩ | ⟨h, e⟩
  · rw [e] <;> rfl
  · rw [e, if_neg (by decide), if_neg (by decide), if_neg (by decide)]
    omega
  · rw [e] <;> rfl
theorem cmp_second {a b c t : Rat} (ha : 0 < a) (hd : 0 < inner a b c) : cmpR ⟨t, 0, 0⟩ (root1 a b c) = if sg (t - mid a b) ≤ 0 then -1 else sg (formAt a b c t) := by
  have p1 := inv_pos' ha
  have e2 : sg (-(1 / a)) = -1 := sg_neg (by grind)
  unfold root1
  rw [cmp_flat hd, e2, square_sg ha]
  rcases sg_tri (t - mid a b) with ⟨h, e⟩ | ⟨h, e⟩ | ⟨h, e⟩
  · rw [e, if_neg (by decide), if_neg (by decide), if_neg (by decide)]
    omega
  · rw [e] <;> rfl
  · rw [e] <;> rfl
/-- what the law asks of one fraction -/
theorem side_below {a b c t : Rat} (ha : 0 < a) (hd : 0 < inner a b c) (h : sg (formAt a b c t) < 0) : cmpR ⟨t, 0, 0⟩ (root0 a b c) = 1 ∧ cmpR ⟨t, 0, 0⟩ (root1 a b c) = -1 := by
  have e : sg (formAt a b c t) = -1 := by
    rcases sg_tri (formAt a b c t) with ⟨_, e⟩ | ⟨_, e⟩ | ⟨_, e⟩ <;> omega
  rw [cmp_first ha hd, cmp_second ha hd, e]
  constructor <;> split <;> rfl
theorem side_ne {a b c t : Rat} (ha : 0 < a) (hd : 0 < inner a b c) (h : ¬ sg (formAt a b c t) < 0) : sg (t - mid a b) = 1 ∨ sg (t - mid a b) = -1 := by
  rcases sg_tri (t - mid a b) with ⟨_, e⟩ | ⟨_, e⟩ | ⟨z, e⟩
  · exact .inl e
  · exact .inr e
  · have e1 : t = mid a b := by grind
    rw [e1, sg_neg (at_mid ha hd)] at h
    exact absurd (by decide) h
theorem side_zero_up {a b c t : Rat} (ha : 0 < a) (hd : 0 < inner a b c) (h : sg (formAt a b c t) = 0) (hs : sg (t - mid a b) > 0) : cmpR ⟨t, 0, 0⟩ (root0 a b c) = 1 ∧ cmpR ⟨t, 0, 0⟩ (root1 a b c) = 0 := by
  rw [cmp_first ha hd, cmp_second ha hd, h, if_pos (by omega), if_neg (by omega)]
  exact ⟨rfl, rfl⟩
theorem side_zero_down {a b c t : Rat} (ha : 0 < a) (hd : 0 < inner a b c) (h : sg (formAt a b c t) = 0) (hs : ¬ sg (t - mid a b) > 0) : cmpR ⟨t, 0, 0⟩ (root0 a b c) = 0 ∧ cmpR ⟨t, 0, 0⟩ (root1 a b c) = -1 := by
  have e : sg (t - mid a b) = -1 := by
    have := side_ne ha hd (t := t) (by omega)
    omega
  rw [cmp_first ha hd, cmp_second ha hd, h, e]
  exact ⟨rfl, rfl⟩
theorem side_above {a b c t : Rat} (ha : 0 < a) (hd : 0 < inner a b c) (h1 : ¬ sg (formAt a b c t) < 0) (h2 : ¬ sg (formAt a b c t) = 0) : cmpR ⟨t, 0, 0⟩ (root0 a b c) = sg (t - mid a b) ∧ cmpR ⟨t, 0, 0⟩ (root1 a b c) = sg (t - mid a b) := by
  have e : sg (formAt a b c t) = 1 := by
    rcases sg_tri (formAt a b c t) with ⟨_, e⟩ | ⟨_, e⟩ | ⟨_, e⟩ <;> omega
  rw [cmp_first ha hd, cmp_second ha hd, e]
  rcases side_ne ha hd h1 with s | s <;> rw [s] <;> exact ⟨rfl, rfl⟩
theorem less_root {a b c : Rat} (ha : 0 < a) (hd : 0 < inner a b c) : cmpR (root0 a b c) (root1 a b c) = -1 := cmp_roots (inv_pos' ha) hd
/-- a form times a number -/
theorem mid_times {a b s : Rat} (ha : 0 < a) (hs : 0 < s) : mid (a * s) (b * s) = mid a b := by
  unfold mid
  have h1 : a ≠ 0 := by grind
  have h2 : s ≠ 0 := by grind
  grind
theorem inner_times {a b c s : Rat} : inner (a * s) (b * s) (c * s) = s * s * inner a b c := by
  unfold inner
  grind
theorem root_sq {a b c s : Rat} (ha : 0 < a) (hs : 0 < s) : 1 / (a * s) * (1 / (a * s)) * inner (a * s) (b * s) (c * s) = 1 / a * (1 / a) * inner a b c := by
  rw [inner_times]
  have h1 : a ≠ 0 := by grind
  have h2 : s ≠ 0 := by grind
  grind
theorem root_sgs {a b c s : Rat} (ha : 0 < a) (hs : 0 < s) (hd : 0 < inner a b c) : sg (1 / a) * sg (inner a b c) = sg (1 / (a * s)) * sg (inner (a * s) (b * s) (c * s)) := by
  rw [sg_pos (inv_pos' ha), sg_pos (inv_pos' (Rat.mul_pos ha hs)), sg_pos hd, inner_times, sg_pos (Rat.mul_pos (Rat.mul_pos hs hs) hd)]
theorem same_root0 {a b c s : Rat} (ha : 0 < a) (hs : 0 < s) (hd : 0 < inner a b c) : cmpR (root0 a b c) (root0 (a * s) (b * s) (c * s)) = 0 := by
  unfold root0
  rw [mid_times ha hs]
  refine cmp_same ?_ ?_
  · rw [sg_neg_of, sg_neg_of, Int.neg_mul, Int.neg_mul, root_sgs ha hs hd]
  · have e := root_sq (b := b) (c := c) ha hs
    grind
theorem same_root1 {a b c s : Rat} (ha : 0 < a) (hs : 0 < s) (hd : 0 < inner a b c) : cmpR (root1 a b c) (root1 (a * s) (b * s) (c * s)) = 0 := by
  unfold root1
  rw [mid_times ha hs]
  exact cmp_same (root_sgs ha hs hd) (root_sq ha hs).symm
/-! ### sizes -/
theorem lt_pow_mono {x n m : Nat} (h : x < 2 ^ n) (hm : n ≤ m) : x < 2 ^ m := Nat.lt_of_lt_of_le h (Nat.pow_le_pow_right (by decide) hm)
theorem nab_mul {i j : Int} {n m : Nat} (h1 : i.natAbs < 2 ^ n) (h2 : j.natAbs < 2 ^ m) : (i * j).natAbs < 2 ^ (n + m) := by
  rw [Int.natAbs_mul, Nat.pow_add]
  exact Nat.mul_lt_mul'' h1 h2
theorem nab_add {i j : Int} {n : Nat} (h1 : i.natAbs < 2 ^ n) (h2 : j.natAbs < 2 ^ n) : (i + j).natAbs < 2 ^ (n + 1) := by
  have e : 2 ^ (n + 1) = 2 ^ n + 2 ^ n := by rw [Nat.pow_succ]; omega
  have := Int.natAbs_add_le i j
  omega
theorem nab_sub {i j : Int} {n : Nat} (h1 : i.natAbs < 2 ^ n) (h2 : j.natAbs < 2 ^ n) : (i - j).natAbs < 2 ^ (n + 1) := by
  have e : 2 ^ (n + 1) = 2 ^ n + 2 ^ n := by rw [Nat.pow_succ]; omega
  have := Int.natAbs_sub_le i j
  omega
/-! ### the greatest common part -/
def gcdI (a b : Int) : Int := (Nat.gcd a.natAbs b.natAbs : Nat)
theorem gcdI_turn {a b : Int} (ha : 0 ≤ a) (hb : 0 < b) : gcdI b (a % b) = gcdI a b := by
  unfold gcdI
  have e : (a % b).natAbs = a.natAbs % b.natAbs := Int.natAbs_emod_of_nonneg ha b
  rw [e, Nat.gcd_comm a.natAbs b.natAbs, Nat.gcd_rec b.natAbs a.natAbs, Nat.gcd_comm]
theorem gcdI_zero {a : Int} (ha : 0 ≤ a) : gcdI a 0 = a := by
  unfold gcdI
  rw [show (0 : Int).natAbs = 0 from rfl, Nat.gcd_zero_right]
  omega
theorem gcdI_abs (a b : Int) : gcdI (if a < 0 then -a else a) (if b < 0 then -b else b) = gcdI a b := by
  unfold gcdI
  congr 2 <;> split <;> omega
theorem gcdI_pos {a b : Int} (hb : 0 < b) : 0 < gcdI a b := by
  unfold gcdI
  have : 0 < Nat.gcd a.natAbs b.natAbs := Nat.gcd_pos_of_pos_right _ (by omega)
  omega
theorem gcdI_le {a b : Int} (hb : 0 < b) : gcdI a b ≤ b := by
  unfold gcdI
  have : Nat.gcd a.natAbs b.natAbs ≤ b.natAbs := Nat.gcd_le_right _ (by omega)
  omega
theorem gcdI_left (a b : Int) : gcdI a b ∣ a := by
  unfold gcdI
  exact Int.ofNat_dvd_left.mpr (Nat.gcd_dvd_left _ _)
theorem gcdI_right (a b : Int) : gcdI a b ∣ b := by
  unfold gcdI
  exact Int.ofNat_dvd_left.mpr (Nat.gcd_dvd_right _ _)
theorem red_num (a b : Int) : a = a / gcdI a b * gcdI a b := (Int.ediv_mul_cancel (gcdI_left a b)).symm
theorem red_den (a b : Int) : b = b / gcdI a b * gcdI a b := (Int.ediv_mul_cancel (gcdI_right a b)).symm
theorem red_pos {a b : Int} (hb : 0 < b) : 0 < b / gcdI a b := by
  have h1 := gcdI_pos (a := a) hb
  have h2 := gcdI_le (a := a) hb
  exact Int.ediv_pos_of_pos_of_dvd hb (by omega) (gcdI_right a b)
theorem red_le {a b : Int} (hb : 0 < b) (x : Int) : (x / gcdI a b).natAbs ≤ x.natAbs := Int.natAbs_ediv_le_natAbs x _
theorem red_qv {a b : Int} (hb : 0 < b) : qv (a / gcdI a b) (b / gcdI a b) = qv a b := qv_red (gcdI_pos hb) (red_pos hb) (red_num a b) (red_den a b)
end K8

set_option Elab.async false
set_option linter.all false
set_option maxRecDepth 100000
set_option maxHeartbeats 4000000
/-! The text by places, what a fraction is in the heap, the promises of the reckoning defs. -/
namespace K8
open PySem PySem.Spec PyProof.Rows L2
def topS (i : Nat) : Stmt := PySem.Challenge.pw_scenetongue_k08_whole_roots_solve.main.body.getD i (.Pass ⟨0, 0, 0, 0⟩)
abbrev s_common_part : Stmt := topS 1
abbrev s_frac : Stmt := topS 2
abbrev s_plus : Stmt := topS 3
abbrev s_minus : Stmt := topS 4
abbrev s_times : Stmt := topS 5
abbrev s_over : Stmt := topS 6
abbrev s_sign : Stmt := topS 7
abbrev s_square : Stmt := topS 10
abbrev s_sign_of_root : Stmt := topS 11
abbrev s_sign_of_two : Stmt := topS 12
abbrev s_sign_of_sum : Stmt := topS 13
abbrev s_compare : Stmt := topS 14
abbrev s_L_cell : Stmt := topS 16
abbrev s_L_mixed : Stmt := topS 17
abbrev s_L_deck : Stmt := topS 18
abbrev s_L_take : Stmt := topS 19
abbrev s_L_gcd : Stmt := topS 20
abbrev s_L_share : Stmt := topS 21
abbrev s_L_plus : Stmt := topS 22
abbrev s_L_times : Stmt := topS 23
abbrev s_L_figures : Stmt := topS 24
abbrev s_L_fraction : Stmt := topS 25
abbrev s_L_roots : Stmt := topS 26
abbrev s_L_at : Stmt := topS 27
abbrev s_L_forms : Stmt := topS 28
abbrev s_L_side_right : Stmt := topS 29
abbrev s_law : Stmt := topS 30
abbrev FnP (K : PySem.W.Frag) (x : Str) (st : Stmt) (f : Addr) (fd : FuncData) : Prop := FunD K x x (defArgs st) (defBody st) (defScope st) [] [] f fd
/-- a def of the module as its callers want it -/
def Cal (P : Program) (w : World) (K : PySem.W.Frag) (mg : Str → Option Value) (base : Heap) (k : Nat) (x : Str) (ps : List Str) (sp : Sp) : Prop :=
  ∃ (f : Addr) (fd : FuncData), FnOk P w K mg base CX0 k f fd ps sp ∧ mg x = some (.ref f) ∧ PySem.W.keepIn K (.ref f) = true ∧ Binds K fd ps []
theorem pe_cal {X : Cx} {k j : Nat} {x : Str} {ps : List Str} {sp : Sp} {p pos : Pos} {e : Expr} {es : List Expr} {t : TA} (C : Cal X.prog X.w X.K X.mg X.base k x ps sp) (hr : Room j X.A) (hk : k ≤ j) (hg : Gl X x) (ha : PA X (e :: es) t)
    (hdb : (x == ("__debug__" : Str)) = false := by decide) (he : starEach (e :: es) X.env = (false, eval e X.env) :: starEach es X.env := by rfl) (hpl : (backTo pos (starEach es X.env)).any (·.1) = false := by rfl) :
    PE X (.Call (.Name x p) (e :: es) [] pos) (tCall sp [] E0 t) := by
  obtain ⟨f, fd, F, hm, hkp, hb⟩ := C
  exact pe_call F (hr.mono hk) hg hm hkp hb .nil pass0 ha hdb he hpl
section
variable {P : Program} {w : World} {K : PySem.W.Frag} {mg : Str → Option Value} {base : Heap}
theorem fn_ok {x : Str} {st : Stmt} {f : Addr} {fd : FuncData} {N ps : List Str} {k : Nat} {sp : Sp} (F : FnP K x st f fd) (S : FnScope N ps (defScope st)) (len : ∀ vs H Q E, sp vs H Q E → vs.length = ps.length)
    (hbody : ∀ (cdv : Value) (A : Around) (outer : List Env) (s : Shared) (H : Hp) (vs : List V) (Q : VK) (E : XK), Room k (A.deeper (envOfC x (defScope st) s.heap.objs.size f cdv)) → sp vs H Q E →
      ∃ t, PSs (cxOf CX0 P w K mg base N x (defScope st) f cdv A outer s H E).nox (defBody st) t ∧ t { nx := fun _ H' => Q .non H', rt := Q } (start N vs) H) : FnOk P w K mg base CX0 (k + 1) f fd ps sp := by
  refine FunD.ok F S len fun cdv A outer s H vs Q E hr h => ?_
  obtain ⟨t, h1, q⟩ := hbody cdv A outer s H vs Q E hr h
  exact ⟨t, h1.nox, q⟩
end
theorem cal_mk {P : Program} {w : World} {K : PySem.W.Frag} {mg : Str → Option Value} {base : Heap} {x : Str} {params : Arguments} {body : List Stmt} {scope : Scope} {f : Addr} {fd : FuncData} {k : Nat} {ps : List Str} {sp : Sp}
    (F : FunD K x x params body scope [] [] f fd) (G : FnOk P w K mg base CX0 k f fd ps sp) (g : mg x = some (.ref f)) (b : Binds K fd ps []) : Cal P w K mg base k x ps sp := ⟨f, fd, G, g, F.kp, b⟩
theorem mulOk {i j : Int} {n m : Nat} (h1 : i.natAbs < 2 ^ n) (h2 : j.natAbs < 2 ^ m) (hn : 0 < n) (hm : 0 < m) (h : n + m ≤ 1000000) : CMulW i j := wide_mul h1 h2 hn hm h
/-! ### heaps -/
theorem seqT {K : PySem.W.Frag} {H H' : Hp} {a : Addr} {xs : List V} (e : Same H H') (h : SqT K H a xs) : SqT K H' a xs := by
  rcases h with (h | ⟨o, h⟩) | h
  · exact .inl (.inl (e _ _ h))
  · exact .inl (.inr ⟨o, e _ _ h⟩)
  · exact .inr h
theorem same_new {H : Hp} {p : Addr} {o : HO} (h : H p = none) : Same H (upd H p o) := fun b x e => by
  rw [upd_ne (ne_of_none e h)]
  exact e
/-- v stands for the fraction x, of less than n bits above and below -/
def Fq (K : PySem.W.Frag) (n : Nat) (x : Rat) (v : V) (H : Hp) : Prop :=
  ∃ (p : Addr) (a b : Int), v = .ref p ∧ SqT K H p [.int a, .int b] ∧ 0 < b ∧ a.natAbs < 2 ^ n ∧ b.natAbs < 2 ^ n ∧ 0 < n ∧ qv a b = x
section
variable {K : PySem.W.Frag} {n m : Nat} {x y : Rat} {u v : V} {H H' : Hp}
theorem Fq.same (h : Fq K n x v H) (s : Same H H') : Fq K n x v H' := by
  obtain ⟨p, a, b, e, t, r⟩ := h
  exact ⟨p, a, b, e, seqT s t, r⟩
theorem Fq.mono (h : Fq K n x v H) (hm : n ≤ m) : Fq K m x v H := by
  obtain ⟨p, a, b, e, t, h0, h1, h2, h3, h4⟩ := h
  exact ⟨p, a, b, e, t, h0, lt_pow_mono h1 hm, lt_pow_mono h2 hm, by omega, h4⟩
theorem Fq.new {p : Addr} {a b : Int} (h : H p = none) (h0 : 0 < b) (h1 : a.natAbs < 2 ^ n) (h2 : b.natAbs < 2 ^ n) (h3 : 0 < n) : Fq K n (qv a b) (.ref p) (upd H p (.tup [.int a, .int b])) :=
  ⟨p, a, b, rfl, .of upd_same, h0, h1, h2, h3, rfl⟩
end
/-! ### promises -/
def spGcd : Sp := fun vs H Q _ => ∃ a b : Int, vs = [.int a, .int b] ∧ Q (.int (gcdI a b)) H
def spFrac (K : PySem.W.Frag) : Sp := fun vs H Q _ => ∃ (a b : Int) (n : Nat), vs = [.int a, .int b] ∧ 0 < b ∧ a.natAbs < 2 ^ n ∧ b.natAbs < 2 ^ n ∧ 0 < n ∧ n ≤ 9000 ∧
  ∀ H' z, Same H H' → Fq K n (qv a b) z H' → Q z H'
def spPlus (K : PySem.W.Frag) : Sp := fun vs H Q _ => ∃ (u v : V) (n m : Nat) (x y : Rat), vs = [u, v] ∧ Fq K n x u H ∧ Fq K m y v H ∧ n + m + 1 ≤ 9000 ∧
  ∀ H' z, Same H H' → Fq K (n + m + 1) (x + y) z H' → Q z H'
def spMinus (K : PySem.W.Frag) : Sp := fun vs H Q _ => ∃ (u v : V) (n m : Nat) (x y : Rat), vs = [u, v] ∧ Fq K n x u H ∧ Fq K m y v H ∧ n + m + 1 ≤ 9000 ∧
  ∀ H' z, Same H H' → Fq K (n + m + 1) (x - y) z H' → Q z H'
def spTimes (K : PySem.W.Frag) : Sp := fun vs H Q _ => ∃ (u v : V) (n m : Nat) (x y : Rat), vs = [u, v] ∧ Fq K n x u H ∧ Fq K m y v H ∧ n + m ≤ 9000 ∧
  ∀ H' z, Same H H' → Fq K (n + m) (x * y) z H' → Q z H'
def spOver (K : PySem.W.Frag) : Sp := fun vs H Q _ => ∃ (u v : V) (n m : Nat) (x y : Rat), vs = [u, v] ∧ Fq K n x u H ∧ Fq K m y v H ∧ 0 < y ∧ n + m ≤ 9000 ∧
  ∀ H' z, Same H H' → Fq K (n + m) (x / y) z H' → Q z H'
def spSign (K : PySem.W.Frag) : Sp := fun vs H Q _ => ∃ (u : V) (n : Nat) (x : Rat), vs = [u] ∧ Fq K n x u H ∧ Q (.int (sg x)) H
def spSquare (K : PySem.W.Frag) : Sp := fun vs H Q _ => ∃ (u : V) (n : Nat) (x : Rat), vs = [u] ∧ Fq K n x u H ∧ n + n ≤ 9000 ∧ ∀ H' z, Same H H' → Fq K (n + n) (x * x) z H' → Q z H'
section
variable {K : PySem.W.Frag} {n m : Nat} {x y : Rat} {u v : V} {H : Hp} {Q : VK} {E : XK} {a b : Int}
theorem u_gcd (h : Q (.int (gcdI a b)) H) : spGcd ([.int a, .int b] ++ []) H Q E := ⟨a, b, rfl, h⟩
theorem u_frac (h0 : 0 < b) (h1 : a.natAbs < 2 ^ n) (h2 : b.natAbs < 2 ^ n) (h3 : 0 < n) (h4 : n ≤ 9000) (h : ∀ H' z, Same H H' → Fq K n (qv a b) z H' → Q z H') : spFrac K ([.int a, .int b] ++ []) H Q E := ⟨a, b, n, rfl, h0, h1, h2, h3, h4, h⟩
theorem u_plus (h1 : Fq K n x u H) (h2 : Fq K m y v H) (h3 : n + m + 1 ≤ 9000) (h : ∀ H' z, Same H H' → Fq K (n + m + 1) (x + y) z H' → Q z H') : spPlus K ([u, v] ++ []) H Q E := ⟨u, v, n, m, x, y, rfl, h1, h2, h3, h⟩
theorem u_minus (h1 : Fq K n x u H) (h2 : Fq K m y v H) (h3 : n + m + 1 ≤ 9000) (h : ∀ H' z, Same H H' → Fq K (n + m + 1) (x - y) z H' → Q z H') : spMinus K ([u, v] ++ []) H Q E := ⟨u, v, n, m, x, y, rfl, h1, h2, h3, h⟩
theorem u_times (h1 : Fq K n x u H) (h2 : Fq K m y v H) (h3 : n + m ≤ 9000) (h : ∀ H' z, Same H H' → Fq K (n + m) (x * y) z H' → Q z H') : spTimes K ([u, v] ++ []) H Q E := ⟨u, v, n, m, x, y, rfl, h1, h2, h3, h⟩
theorem u_over (h1 : Fq K n x u H) (h2 : Fq K m y v H) (h0 : 0 < y) (h3 : n + m ≤ 9000) (h : ∀ H' z, Same H H' → Fq K (n + m) (x / y) z H' → Q z H') : spOver K ([u, v] ++ []) H Q E := ⟨u, v, n, m, x, y, rfl, h1, h2, h0, h3, h⟩
theorem u_sign (h1 : Fq K n x u H) (h : Q (.int (sg x)) H) : spSign K ([u] ++ []) H Q E := ⟨u, n, x, rfl, h1, h⟩
theorem u_square (h1 : Fq K n x u H) (h3 : n + n ≤ 9000) (h : ∀ H' z, Same H H' → Fq K (n + n) (x * x) z H' → Q z H') : spSquare K ([u] ++ []) H Q E := ⟨u, n, x, rfl, h1, h3, h⟩
end
end K8

set_option Elab.async false
set_option linter.all false
set_option maxRecDepth 100000
set_option maxHeartbeats 4000000
/-! The reckoning defs, each walked once. -/
namespace K8
open PySem PySem.Spec PyProof.Rows L2
section
variable {P : Program} {w : World} {K : PySem.W.Frag} {mg : Str → Option Value} {base : Heap}
theorem sc_gcd : FnScope ["one", "other"] ["one", "other"] (defScope s_common_part) := ⟨rfl, rfl, rfl, by decide +kernel, rfl, by decide +kernel, by decide +kernel⟩
theorem ok_common_part {f : Addr} {fd : FuncData} (F : FnP K "common_part" s_common_part f fd) (ma : mg "abs" = none) : FnOk P w K mg base CX0 1 f fd ["one", "other"] spGcd := by
  refine fn_ok F sc_gcd (fun vs H Q E h => ?_) (fun cdv A outer s H vs Q E hr h => ?_)
  · obtain ⟨a, b, rfl, _⟩ := h
    rfl
  · obtain ⟨a, b, rfl, q⟩ := h
    refine ⟨_, pss_cons (ps_par (i := 0) (j := 1) rfl sc_gcd.nd rfl rfl (by decide) rfl rfl (pa_cons (pe_callB call_abs (by rfl) ma (by decide +kernel) (pa_cons (pv 0) pa_nil)) (pa_cons (pe_callB call_abs (by rfl) ma (by decide +kernel) (pa_cons (pv 1) pa_nil)) pa_nil)) (by rfl))
      (pss_cons (ps_while PassesOwn.never (pt_truth (pv 1) (by intro _; rfl))
        (pss_one (ps_par (i := 0) (j := 1) rfl sc_gcd.nd rfl rfl (by decide) rfl rfl (pa_cons (pv 1) (pa_cons (pe_op op_mod (pv 0) (pv 1)) pa_nil)) (by rfl))))
      (pss_one (ps_ret (pv 0)))), ?_⟩
    -- abs of both
    refine ⟨_, rfl, _, rfl, _, rfl, _, rfl, _, _, rfl, ?_⟩
    -- the loop
    refine ⟨fun m σ H' => ∃ x y : Int, σ = [some (.int x), some (.int y)] ∧ 0 ≤ x ∧ 0 ≤ y ∧ gcdI x y = gcdI a b ∧ H' = H ∧ m = y.toNat, ⟨_, _, _, rfl, ?_, ?_, gcdI_abs a b, rfl, rfl⟩, ?_⟩
    · split <;> omega
    · split <;> omega
    · rintro m σ H' ⟨x, y, rfl, hx, hy, hg, rfl, rfl⟩
      refine ⟨_, rfl, _, rfl, ?_⟩
      by_cases e : y = 0
      · subst e
        refine iteF ⟨_, rfl, ?_⟩
        rw [gcdI_zero hx] at hg
        show Q (.int x) H'
        rw [hg]
        exact q
      · rw [show (y != 0) = true from bne_iff_ne.mpr e]
        refine iteT ⟨fun σ' H2 => ∃ m', m' < y.toNat ∧ ∃ x' y' : Int, σ' = [some (.int x'), some (.int y')] ∧ 0 ≤ x' ∧ 0 ≤ y' ∧ gcdI x' y' = gcdI a b ∧ H2 = H' ∧ m' = y'.toNat, fun _ _ z => z, ?_⟩
        have hp : 0 < y := by omega
        have h1 := Int.emod_nonneg x e
        have h2 := Int.emod_lt_of_pos x hp
        refine ⟨_, rfl, _, rfl, _, rfl, _, _, rfl, rfl, hp, _, _, rfl, _, ?_, _, _, rfl, hy, h1, ?_, rfl, rfl⟩
        · omega
        · rw [gcdI_turn hx hp, hg]
theorem sc_lgcd : FnScope ["_law_one", "_law_other"] ["_law_one", "_law_other"] (defScope s_L_gcd) := ⟨rfl, rfl, rfl, by decide +kernel, rfl, by decide +kernel, by decide +kernel⟩
theorem ok_L_gcd {f : Addr} {fd : FuncData} (F : FnP K "_law_gcd" s_L_gcd f fd) (ma : mg "abs" = none) : FnOk P w K mg base CX0 1 f fd ["_law_one", "_law_other"] spGcd := by
  refine fn_ok F sc_lgcd (fun vs H Q E h => ?_) (fun cdv A outer s H vs Q E hr h => ?_)
  · obtain ⟨a, b, rfl, _⟩ := h
    rfl
  · obtain ⟨a, b, rfl, q⟩ := h
    refine ⟨_, pss_cons (ps_set (i := 0) sc_lgcd.nd rfl (.inl rfl) (pe_callB call_abs (by rfl) ma (by decide +kernel) (pa_cons (pv 0) pa_nil)))
      (pss_cons (ps_set (i := 1) sc_lgcd.nd rfl (.inl rfl) (pe_callB call_abs (by rfl) ma (by decide +kernel) (pa_cons (pv 1) pa_nil)))
      (pss_cons (ps_while PassesOwn.never (pt_cmpR op_gt (pv 1) pe_int (nomark _))
        (pss_one (ps_par (i := 0) (j := 1) rfl sc_lgcd.nd rfl rfl (by decide) rfl rfl (pa_cons (pv 1) (pa_cons (pe_op op_mod (pv 0) (pv 1)) pa_nil)) (by rfl))))
      (pss_one (ps_ret (pv 0))))), ?_⟩
    refine ⟨_, rfl, _, rfl, ?_⟩
    refine ⟨_, rfl, _, rfl, ?_⟩
    refine ⟨fun m σ H' => ∃ x y : Int, σ = [some (.int x), some (.int y)] ∧ 0 ≤ x ∧ 0 ≤ y ∧ gcdI x y = gcdI a b ∧ H' = H ∧ m = y.toNat, ⟨_, _, _, rfl, ?_, ?_, gcdI_abs a b, rfl, rfl⟩, ?_⟩
    · split <;> omega
    · split <;> omega
    · rintro m σ H' ⟨x, y, rfl, hx, hy, hg, rfl, rfl⟩
      refine ⟨_, rfl, _, _, rfl, rfl, _, rfl, ite2 (fun e => ?_) (fun e => ?_)⟩
      · have hp : 0 < y := of_decide_eq_true e
        refine ⟨fun σ' H2 => ∃ m', m' < y.toNat ∧ ∃ x' y' : Int, σ' = [some (.int x'), some (.int y')] ∧ 0 ≤ x' ∧ 0 ≤ y' ∧ gcdI x' y' = gcdI a b ∧ H2 = H' ∧ m' = y'.toNat, fun _ _ z => z, ?_⟩
        have h1 := Int.emod_nonneg x (show y ≠ 0 by omega)
        have h2 := Int.emod_lt_of_pos x hp
        refine ⟨_, rfl, _, rfl, _, rfl, _, _, rfl, rfl, hp, _, _, rfl, _, ?_, _, _, rfl, hy, h1, ?_, rfl, rfl⟩
        · omega
        · rw [gcdI_turn hx hp, hg]
      · have hz : ¬ 0 < y := fun z => e (decide_eq_true z)
        have e0 : y = 0 := by omega
        subst e0
        refine ⟨_, rfl, ?_⟩
        rw [gcdI_zero hx] at hg
        show Q (.int x) H'
        rw [hg]
        exact q
theorem sc_frac : FnScope ["above", "below", "part"] ["above", "below"] (defScope s_frac) := ⟨rfl, rfl, rfl, by decide +kernel, rfl, by decide +kernel, by decide +kernel⟩
theorem ok_frac {f : Addr} {fd : FuncData} (F : FnP K "frac" s_frac f fd) (C : Cal P w K mg base 1 "common_part" ["one", "other"] spGcd) : FnOk P w K mg base CX0 2 f fd ["above", "below"] (spFrac K) := by
  refine fn_ok F sc_frac (fun vs H Q E h => ?_) (fun cdv A outer s H vs Q E hr h => ?_)
  · obtain ⟨a, b, n, rfl, _⟩ := h
    rfl
  · obtain ⟨a, b, n, rfl, h0, h1, h2, h3, h4, q⟩ := h
    refine ⟨_, pss_cons (ps_set (i := 2) sc_frac.nd rfl (.inl rfl) (pe_cal C hr (by decide) (by rfl) (pa_cons (pv 0) (pa_cons (pv 1) pa_nil))))
      (pss_cons (ps_if (pt_cmpR op_lt (pv 1) pe_int (nomark _)) pss_never pss_nil)
      (pss_one (ps_ret (pe_tup (pa_cons (pe_op op_fdivW (pv 0) (pv 2)) (pa_cons (pe_op op_fdivW (pv 1) (pv 2)) pa_nil)))))), ?_⟩
    refine ⟨_, rfl, _, rfl, _, _, rfl, ?_⟩
    have g0 := gcdI_pos (a := a) h0
    have g1 := gcdI_le (a := a) h0
    have hc : ∀ i, CDivW i (gcdI a b) := fun i => wide_div g0 (show (gcdI a b).natAbs < 2 ^ n by omega) h3 h4
    refine ⟨_, rfl, _, _, rfl, rfl, _, rfl, ite2 (fun e => absurd (of_decide_eq_true e) (by omega)) (fun _ => ?_)⟩
    refine ⟨_, rfl, _, rfl, _, _, rfl, rfl, hc _, _, rfl, _, rfl, _, _, rfl, rfl, hc _, (by show 2 ≤ sizeLine; decide), fun p hp => ?_⟩
    refine q _ _ (same_new hp) ?_
    rw [← red_qv h0]
    exact Fq.new hp (red_pos h0) (Nat.lt_of_le_of_lt (red_le h0 _) h1) (Nat.lt_of_le_of_lt (red_le h0 _) h2) h3
theorem sc_share : FnScope ["_law_top", "_law_bottom", "_law_part"] ["_law_top", "_law_bottom"] (defScope s_L_share) := ⟨rfl, rfl, rfl, by decide +kernel, rfl, by decide +kernel, by decide +kernel⟩
theorem ok_L_share {f : Addr} {fd : FuncData} (F : FnP K "_law_share" s_L_share f fd) (C : Cal P w K mg base 1 "_law_gcd" ["_law_one", "_law_other"] spGcd) : FnOk P w K mg base CX0 2 f fd ["_law_top", "_law_bottom"] (spFrac K) := by
  refine fn_ok F sc_share (fun vs H Q E h => ?_) (fun cdv A outer s H vs Q E hr h => ?_)
  · obtain ⟨a, b, n, rfl, _⟩ := h
    rfl
  · obtain ⟨a, b, n, rfl, h0, h1, h2, h3, h4, q⟩ := h
    refine ⟨_, pss_cons (ps_set (i := 2) sc_share.nd rfl (.inl rfl) (pe_cal C hr (by decide) (by rfl) (pa_cons (pv 0) (pa_cons (pv 1) pa_nil))))
      (pss_cons (ps_if (pt_cmpR op_lt (pv 1) pe_int (nomark _)) pss_never pss_nil)
      (pss_one (ps_ret (pe_tup (pa_cons (pe_op op_fdivW (pv 0) (pv 2)) (pa_cons (pe_op op_fdivW (pv 1) (pv 2)) pa_nil)))))), ?_⟩
    refine ⟨_, rfl, _, rfl, _, _, rfl, ?_⟩
    have g0 := gcdI_pos (a := a) h0
    have g1 := gcdI_le (a := a) h0
    have hc : ∀ i, CDivW i (gcdI a b) := fun i => wide_div g0 (show (gcdI a b).natAbs < 2 ^ n by omega) h3 h4
    refine ⟨_, rfl, _, _, rfl, rfl, _, rfl, ite2 (fun e => absurd (of_decide_eq_true e) (by omega)) (fun _ => ?_)⟩
    refine ⟨_, rfl, _, rfl, _, _, rfl, rfl, hc _, _, rfl, _, rfl, _, _, rfl, rfl, hc _, (by show 2 ≤ sizeLine; decide), fun p hp => ?_⟩
    refine q _ _ (same_new hp) ?_
    rw [← red_qv h0]
    exact Fq.new hp (red_pos h0) (Nat.lt_of_le_of_lt (red_le h0 _) h1) (Nat.lt_of_le_of_lt (red_le h0 _) h2) h3
end
end K8

set_option Elab.async false
set_option linter.all false
set_option maxRecDepth 100000
set_option maxHeartbeats 4000000
/-! plus, minus, times, over, sign, square; the law's own plus and times. Printed by gen_ops.py -/
namespace K8
open PySem PySem.Spec PyProof.Rows L2
section
variable {P : Program} {w : World} {K : PySem.W.Frag} {mg : Str → Option Value} {base : Heap}

theorem sc_plus : FnScope ["one", "other"] ["one", "other"] (defScope s_plus) := ⟨rfl, rfl, rfl, by decide +kernel, rfl, by decide +kernel, by decide +kernel⟩
theorem ok_plus {f : Addr} {fd : FuncData} (F : FnP K "plus" s_plus f fd) (C : Cal P w K mg base 2 "frac" ["above", "below"] (spFrac K)) : FnOk P w K mg base CX0 3 f fd ["one", "other"] (spPlus K) := by
  refine fn_ok F sc_plus (fun vs H Q E h => ?_) (fun cdv A outer s H vs Q E hr h => ?_)
  · obtain ⟨u, v, n, m, x, y, rfl, _⟩ := h
    rfl
  · obtain ⟨u, v, n, m, x, y, rfl, h1, h2, h3, q⟩ := h
    obtain ⟨p0, a0, b0, rfl, t0, l0, na0, nb0, z0, rfl⟩ := h1
    obtain ⟨p1, a1, b1, rfl, t1, l1, na1, nb1, z1, rfl⟩ := h2
    refine ⟨_, pss_one (ps_ret (pe_cal C hr (by decide) (by rfl) (pa_cons (pe_op op_add (pe_op op_mulW (pe_ix ix_tup (pv 0) pe_int (fun _ _ => rfl)) (pe_ix ix_tup (pv 1) pe_int (fun _ _ => rfl))) (pe_op op_mulW (pe_ix ix_tup (pv 1) pe_int (fun _ _ => rfl)) (pe_ix ix_tup (pv 0) pe_int (fun _ _ => rfl)))) (pa_cons (pe_op op_mulW (pe_ix ix_tup (pv 0) pe_int (fun _ _ => rfl)) (pe_ix ix_tup (pv 1) pe_int (fun _ _ => rfl))) pa_nil)))), ?_⟩
    refine ⟨_, rfl, p0, _, 0, _, rfl, rfl, t0, rfl, _, rfl, p1, _, 1, _, rfl, rfl, t1, rfl, _, _, rfl, rfl, mulOk na0 nb1 z0 z1 (by omega), _, rfl, p1, _, 0, _, rfl, rfl, t1, rfl, _, rfl, p0, _, 1, _, rfl, rfl, t0, rfl, _, _, rfl, rfl, mulOk na1 nb0 z1 z0 (by omega), _, _, rfl, rfl, _, rfl, p0, _, 1, _, rfl, rfl, t0, rfl, _, rfl, p1, _, 1, _, rfl, rfl, t1, rfl, _, _, rfl, rfl, mulOk nb0 nb1 z0 z1 (by omega), _, _, (n + m + 1), rfl, Int.mul_pos l0 l1, nab_add (nab_mul na0 nb1) (by rw [Nat.add_comm]; exact nab_mul na1 nb0), lt_pow_mono (nab_mul nb0 nb1) (by omega), by omega, by omega, fun H' z s' g => q H' z s' ?_⟩
    rw [← qv_add l0 l1]
    exact g
theorem sc_minus : FnScope ["one", "other"] ["one", "other"] (defScope s_minus) := ⟨rfl, rfl, rfl, by decide +kernel, rfl, by decide +kernel, by decide +kernel⟩
theorem ok_minus {f : Addr} {fd : FuncData} (F : FnP K "minus" s_minus f fd) (C : Cal P w K mg base 2 "frac" ["above", "below"] (spFrac K)) : FnOk P w K mg base CX0 3 f fd ["one", "other"] (spMinus K) := by
  refine fn_ok F sc_minus (fun vs H Q E h => ?_) (fun cdv A outer s H vs Q E hr h => ?_)
  · obtain ⟨u, v, n, m, x, y, rfl, _⟩ := h
    rfl
  · obtain ⟨u, v, n, m, x, y, rfl, h1, h2, h3, q⟩ := h
    obtain ⟨p0, a0, b0, rfl, t0, l0, na0, nb0, z0, rfl⟩ := h1
    obtain ⟨p1, a1, b1, rfl, t1, l1, na1, nb1, z1, rfl⟩ := h2
    refine ⟨_, pss_one (ps_ret (pe_cal C hr (by decide) (by rfl) (pa_cons (pe_op op_sub (pe_op op_mulW (pe_ix ix_tup (pv 0) pe_int (fun _ _ => rfl)) (pe_ix ix_tup (pv 1) pe_int (fun _ _ => rfl))) (pe_op op_mulW (pe_ix ix_tup (pv 1) pe_int (fun _ _ => rfl)) (pe_ix ix_tup (pv 0) pe_int (fun _ _ => rfl)))) (pa_cons (pe_op op_mulW (pe_ix ix_tup (pv 0) pe_int (fun _ _ => rfl)) (pe_ix ix_tup (pv 1) pe_int (fun _ _ => rfl))) pa_nil)))), ?_⟩
    refine ⟨_, rfl, p0, _, 0, _, rfl, rfl, t0, rfl, _, rfl, p1, _, 1, _, rfl, rfl, t1, rfl, _, _, rfl, rfl, mulOk na0 nb1 z0 z1 (by omega), _, rfl, p1, _, 0, _, rfl, rfl, t1, rfl, _, rfl, p0, _, 1, _, rfl, rfl, t0, rfl, _, _, rfl, rfl, mulOk na1 nb0 z1 z0 (by omega), _, _, rfl, rfl, _, rfl, p0, _, 1, _, rfl, rfl, t0, rfl, _, rfl, p1, _, 1, _, rfl, rfl, t1, rfl, _, _, rfl, rfl, mulOk nb0 nb1 z0 z1 (by omega), _, _, (n + m + 1), rfl, Int.mul_pos l0 l1, nab_sub (nab_mul na0 nb1) (by rw [Nat.add_comm]; exact nab_mul na1 nb0), lt_pow_mono (nab_mul nb0 nb1) (by omega), by omega, by omega, fun H' z s' g => q H' z s' ?_⟩
    rw [← qv_sub l0 l1]
    exact g
theorem sc_times : FnScope ["one", "other"] ["one", "other"] (defScope s_times) := ⟨rfl, rfl, rfl, by decide +kernel, rfl, by decide +kernel, by decide +kernel⟩
theorem ok_times {f : Addr} {fd : FuncData} (F : FnP K "times" s_times f fd) (C : Cal P w K mg base 2 "frac" ["above", "below"] (spFrac K)) : FnOk P w K mg base CX0 3 f fd ["one", "other"] (spTimes K) := by
  refine fn_ok F sc_times (fun vs H Q E h => ?_) (fun cdv A outer s H vs Q E hr h => ?_)
  · obtain ⟨u, v, n, m, x, y, rfl, _⟩ := h
    rfl
  · obtain ⟨u, v, n, m, x, y, rfl, h1, h2, h3, q⟩ := h
    obtain ⟨p0, a0, b0, rfl, t0, l0, na0, nb0, z0, rfl⟩ := h1
    obtain ⟨p1, a1, b1, rfl, t1, l1, na1, nb1, z1, rfl⟩ := h2
    refine ⟨_, pss_one (ps_ret (pe_cal C hr (by decide) (by rfl) (pa_cons (pe_op op_mulW (pe_ix ix_tup (pv 0) pe_int (fun _ _ => rfl)) (pe_ix ix_tup (pv 1) pe_int (fun _ _ => rfl))) (pa_cons (pe_op op_mulW (pe_ix ix_tup (pv 0) pe_int (fun _ _ => rfl)) (pe_ix ix_tup (pv 1) pe_int (fun _ _ => rfl))) pa_nil)))), ?_⟩
    refine ⟨_, rfl, p0, _, 0, _, rfl, rfl, t0, rfl, _, rfl, p1, _, 0, _, rfl, rfl, t1, rfl, _, _, rfl, rfl, mulOk na0 na1 z0 z1 (by omega), _, rfl, p0, _, 1, _, rfl, rfl, t0, rfl, _, rfl, p1, _, 1, _, rfl, rfl, t1, rfl, _, _, rfl, rfl, mulOk nb0 nb1 z0 z1 (by omega), _, _, (n + m), rfl, Int.mul_pos l0 l1, nab_mul na0 na1, nab_mul nb0 nb1, by omega, by omega, fun H' z s' g => q H' z s' ?_⟩
    rw [← qv_mul l0 l1]
    exact g
theorem sc_over : FnScope ["one", "other"] ["one", "other"] (defScope s_over) := ⟨rfl, rfl, rfl, by decide +kernel, rfl, by decide +kernel, by decide +kernel⟩
theorem ok_over {f : Addr} {fd : FuncData} (F : FnP K "over" s_over f fd) (C : Cal P w K mg base 2 "frac" ["above", "below"] (spFrac K)) : FnOk P w K mg base CX0 3 f fd ["one", "other"] (spOver K) := by
  refine fn_ok F sc_over (fun vs H Q E h => ?_) (fun cdv A outer s H vs Q E hr h => ?_)
  · obtain ⟨u, v, n, m, x, y, rfl, _⟩ := h
    rfl
  · obtain ⟨u, v, n, m, x, y, rfl, h1, h2, h0, h3, q⟩ := h
    obtain ⟨p0, a0, b0, rfl, t0, l0, na0, nb0, z0, rfl⟩ := h1
    obtain ⟨p1, a1, b1, rfl, t1, l1, na1, nb1, z1, rfl⟩ := h2
    refine ⟨_, pss_one (ps_ret (pe_cal C hr (by decide) (by rfl) (pa_cons (pe_op op_mulW (pe_ix ix_tup (pv 0) pe_int (fun _ _ => rfl)) (pe_ix ix_tup (pv 1) pe_int (fun _ _ => rfl))) (pa_cons (pe_op op_mulW (pe_ix ix_tup (pv 0) pe_int (fun _ _ => rfl)) (pe_ix ix_tup (pv 1) pe_int (fun _ _ => rfl))) pa_nil)))), ?_⟩
    refine ⟨_, rfl, p0, _, 0, _, rfl, rfl, t0, rfl, _, rfl, p1, _, 1, _, rfl, rfl, t1, rfl, _, _, rfl, rfl, mulOk na0 nb1 z0 z1 (by omega), _, rfl, p0, _, 1, _, rfl, rfl, t0, rfl, _, rfl, p1, _, 0, _, rfl, rfl, t1, rfl, _, _, rfl, rfl, mulOk nb0 na1 z0 z1 (by omega), _, _, (n + m), rfl, Int.mul_pos l0 (pos_of_qv l1 h0), nab_mul na0 nb1, nab_mul nb0 na1, by omega, by omega, fun H' z s' g => q H' z s' ?_⟩
    rw [← qv_div l0 l1 (pos_of_qv l1 h0)]
    exact g
theorem sc_L_plus : FnScope ["_law_one", "_law_other"] ["_law_one", "_law_other"] (defScope s_L_plus) := ⟨rfl, rfl, rfl, by decide +kernel, rfl, by decide +kernel, by decide +kernel⟩
theorem ok_L_plus {f : Addr} {fd : FuncData} (F : FnP K "_law_plus" s_L_plus f fd) (C : Cal P w K mg base 2 "_law_share" ["_law_top", "_law_bottom"] (spFrac K)) : FnOk P w K mg base CX0 3 f fd ["_law_one", "_law_other"] (spPlus K) := by
  refine fn_ok F sc_L_plus (fun vs H Q E h => ?_) (fun cdv A outer s H vs Q E hr h => ?_)
  · obtain ⟨u, v, n, m, x, y, rfl, _⟩ := h
    rfl
  · obtain ⟨u, v, n, m, x, y, rfl, h1, h2, h3, q⟩ := h
    obtain ⟨p0, a0, b0, rfl, t0, l0, na0, nb0, z0, rfl⟩ := h1
    obtain ⟨p1, a1, b1, rfl, t1, l1, na1, nb1, z1, rfl⟩ := h2
    refine ⟨_, pss_one (ps_ret (pe_cal C hr (by decide) (by rfl) (pa_cons (pe_op op_add (pe_op op_mulW (pe_ix ix_tup (pv 0) pe_int (fun _ _ => rfl)) (pe_ix ix_tup (pv 1) pe_int (fun _ _ => rfl))) (pe_op op_mulW (pe_ix ix_tup (pv 1) pe_int (fun _ _ => rfl)) (pe_ix ix_tup (pv 0) pe_int (fun _ _ => rfl)))) (pa_cons (pe_op op_mulW (pe_ix ix_tup (pv 0) pe_int (fun _ _ => rfl)) (pe_ix ix_tup (pv 1) pe_int (fun _ _ => rfl))) pa_nil)))), ?_⟩
    refine ⟨_, rfl, p0, _, 0, _, rfl, rfl, t0, rfl, _, rfl, p1, _, 1, _, rfl, rfl, t1, rfl, _, _, rfl, rfl, mulOk na0 nb1 z0 z1 (by omega), _, rfl, p1, _, 0, _, rfl, rfl, t1, rfl, _, rfl, p0, _, 1, _, rfl, rfl, t0, rfl, _, _, rfl, rfl, mulOk na1 nb0 z1 z0 (by omega), _, _, rfl, rfl, _, rfl, p0, _, 1, _, rfl, rfl, t0, rfl, _, rfl, p1, _, 1, _, rfl, rfl, t1, rfl, _, _, rfl, rfl, mulOk nb0 nb1 z0 z1 (by omega), _, _, (n + m + 1), rfl, Int.mul_pos l0 l1, nab_add (nab_mul na0 nb1) (by rw [Nat.add_comm]; exact nab_mul na1 nb0), lt_pow_mono (nab_mul nb0 nb1) (by omega), by omega, by omega, fun H' z s' g => q H' z s' ?_⟩
    rw [← qv_add l0 l1]
    exact g
theorem sc_L_times : FnScope ["_law_one", "_law_other"] ["_law_one", "_law_other"] (defScope s_L_times) := ⟨rfl, rfl, rfl, by decide +kernel, rfl, by decide +kernel, by decide +kernel⟩
theorem ok_L_times {f : Addr} {fd : FuncData} (F : FnP K "_law_times" s_L_times f fd) (C : Cal P w K mg base 2 "_law_share" ["_law_top", "_law_bottom"] (spFrac K)) : FnOk P w K mg base CX0 3 f fd ["_law_one", "_law_other"] (spTimes K) := by
  refine fn_ok F sc_L_times (fun vs H Q E h => ?_) (fun cdv A outer s H vs Q E hr h => ?_)
  · obtain ⟨u, v, n, m, x, y, rfl, _⟩ := h
    rfl
  · obtain ⟨u, v, n, m, x, y, rfl, h1, h2, h3, q⟩ := h
    obtain ⟨p0, a0, b0, rfl, t0, l0, na0, nb0, z0, rfl⟩ := h1
    obtain ⟨p1, a1, b1, rfl, t1, l1, na1, nb1, z1, rfl⟩ := h2
    refine ⟨_, pss_one (ps_ret (pe_cal C hr (by decide) (by rfl) (pa_cons (pe_op op_mulW (pe_ix ix_tup (pv 0) pe_int (fun _ _ => rfl)) (pe_ix ix_tup (pv 1) pe_int (fun _ _ => rfl))) (pa_cons (pe_op op_mulW (pe_ix ix_tup (pv 0) pe_int (fun _ _ => rfl)) (pe_ix ix_tup (pv 1) pe_int (fun _ _ => rfl))) pa_nil)))), ?_⟩
    refine ⟨_, rfl, p0, _, 0, _, rfl, rfl, t0, rfl, _, rfl, p1, _, 0, _, rfl, rfl, t1, rfl, _, _, rfl, rfl, mulOk na0 na1 z0 z1 (by omega), _, rfl, p0, _, 1, _, rfl, rfl, t0, rfl, _, rfl, p1, _, 1, _, rfl, rfl, t1, rfl, _, _, rfl, rfl, mulOk nb0 nb1 z0 z1 (by omega), _, _, (n + m), rfl, Int.mul_pos l0 l1, nab_mul na0 na1, nab_mul nb0 nb1, by omega, by omega, fun H' z s' g => q H' z s' ?_⟩
    rw [← qv_mul l0 l1]
    exact g
theorem sc_sign : FnScope ["one"] ["one"] (defScope s_sign) := ⟨rfl, rfl, rfl, by decide +kernel, rfl, by decide +kernel, by decide +kernel⟩
theorem ok_sign {f : Addr} {fd : FuncData} (F : FnP K "sign" s_sign f fd) (mi : mg "int" = none) : FnOk P w K mg base CX0 1 f fd ["one"] (spSign K) := by
  refine fn_ok F sc_sign (fun vs H Q E h => ?_) (fun cdv A outer s H vs Q E hr h => ?_)
  · obtain ⟨u, n, x, rfl, _⟩ := h
    rfl
  · obtain ⟨u, n, x, rfl, h1, q⟩ := h
    obtain ⟨p0, a0, b0, rfl, t0, l0, na0, nb0, z0, rfl⟩ := h1
    refine ⟨_, pss_one (ps_ret (pe_op op_sub (pe_callTy call_int1 (by rfl) mi (by decide +kernel) (pa_cons (pe_cmpR op_gt (pe_ix ix_tup (pv 0) pe_int (fun _ _ => rfl)) pe_int (nomark _)) pa_nil))
      (pe_callTy call_int1 (by rfl) mi (by decide +kernel) (pa_cons (pe_cmpR op_lt (pe_ix ix_tup (pv 0) pe_int (fun _ _ => rfl)) pe_int (nomark _)) pa_nil)))), ?_⟩
    refine ⟨_, rfl, p0, _, 0, _, rfl, rfl, t0, rfl, _, _, rfl, rfl, .inr ⟨_, rfl, _, rfl, p0, _, 0, _, rfl, rfl, t0, rfl, _, _, rfl, rfl, .inr ⟨_, rfl, _, _, rfl, rfl, ?_⟩⟩⟩
    have e : sg (qv a0 b0) = (if decide (0 < a0) = true then 1 else 0) - (if decide (a0 < 0) = true then 1 else 0) := by
      rw [sg_qv l0]
      simp only [decide_eq_true_eq]
    rw [e] at q
    exact q
theorem sc_square : FnScope ["one"] ["one"] (defScope s_square) := ⟨rfl, rfl, rfl, by decide +kernel, rfl, by decide +kernel, by decide +kernel⟩
theorem ok_square {f : Addr} {fd : FuncData} (F : FnP K "square" s_square f fd) (C : Cal P w K mg base 3 "times" ["one", "other"] (spTimes K)) : FnOk P w K mg base CX0 4 f fd ["one"] (spSquare K) := by
  refine fn_ok F sc_square (fun vs H Q E h => ?_) (fun cdv A outer s H vs Q E hr h => ?_)
  · obtain ⟨u, n, x, rfl, _⟩ := h
    rfl
  · obtain ⟨u, n, x, rfl, h1, h3, q⟩ := h
    refine ⟨_, pss_one (ps_ret (pe_cal C hr (by decide) (by rfl) (pa_cons (pv 0) (pa_cons (pv 0) pa_nil)))), ?_⟩
    exact ⟨_, rfl, _, rfl, _, _, n, n, x, x, rfl, h1, h1, h3, q⟩
end
end K8

set_option Elab.async false
set_option linter.all false
set_option maxRecDepth 100000
set_option maxHeartbeats 4000000
/-! sign_of_root, sign_of_two, sign_of_sum, compare. -/
namespace K8
open PySem PySem.Spec PyProof.Rows L2
theorem sg_range (x : Rat) : -(2 ^ 64) < sg x ∧ sg x < 2 ^ 64 := by
  rcases sg_tri x with ⟨_, e⟩ | ⟨_, e⟩ | ⟨_, e⟩ <;> rw [e] <;> decide
theorem deq {i j : Int} (e : decide (V.int i = V.int j) = true) : i = j := V.int.inj (of_decide_eq_true e)
theorem dne {i j : Int} (e : ¬ decide (V.int i = V.int j) = true) : ¬ i = j := fun z => e (decide_eq_true (by rw [z]))
def spRoot (K : PySem.W.Frag) : Sp := fun vs H Q _ => ∃ (u v t : V) (n : Nat) (p q d : Rat), vs = [u, v, t] ∧ Fq K n p u H ∧ Fq K n q v H ∧ Fq K n d t H ∧ 5 * n + 1 ≤ 9000 ∧
  ∀ H', Same H H' → Q (.int (sRoot p q d)) H'
def spTwo (K : PySem.W.Frag) : Sp := fun vs H Q _ => ∃ (u v t z : V) (n : Nat) (q d r e : Rat), vs = [u, v, t, z] ∧ Fq K n q u H ∧ Fq K n d v H ∧ Fq K n r t H ∧ Fq K n e z H ∧ 6 * n + 1 ≤ 9000 ∧
  ∀ H', Same H H' → Q (.int (sTwo q d r e)) H'
def spSum (K : PySem.W.Frag) : Sp := fun vs H Q _ => ∃ (o u v t z : V) (n : Nat) (p q d r e : Rat), vs = [o, u, v, t, z] ∧ Fq K n p o H ∧ Fq K n q u H ∧ Fq K n d v H ∧ Fq K n r t H ∧ Fq K n e z H ∧ n ≤ 200 ∧
  ∀ H', Same H H' → Q (.int (sSum p q d r e)) H'
/-- v is the root number x -/
def RnAt (K : PySem.W.Frag) (n : Nat) (x : Rn) (v : V) (H : Hp) : Prop :=
  ∃ (p : Addr) (u1 u2 u3 : V), v = .ref p ∧ SqT K H p [u1, u2, u3] ∧ Fq K n x.p u1 H ∧ Fq K 99 x.q u2 H ∧ Fq K 200 x.d u3 H
theorem RnAt.mono {K : PySem.W.Frag} {n m : Nat} {x : Rn} {v : V} {H : Hp} (h : RnAt K n x v H) (hm : n ≤ m) : RnAt K m x v H := by
  obtain ⟨p, u1, u2, u3, e, t, f1, f2, f3⟩ := h
  exact ⟨p, u1, u2, u3, e, t, f1.mono hm, f2, f3⟩
theorem RnAt.same {K : PySem.W.Frag} {n : Nat} {x : Rn} {v : V} {H H' : Hp} (h : RnAt K n x v H) (s : Same H H') : RnAt K n x v H' := by
  obtain ⟨p, u1, u2, u3, e, t, f1, f2, f3⟩ := h
  exact ⟨p, u1, u2, u3, e, seqT s t, f1.same s, f2.same s, f3.same s⟩
def spCompare (K : PySem.W.Frag) : Sp := fun vs H Q _ => ∃ (u v : V) (x y : Rn), vs = [u, v] ∧ RnAt K 99 x u H ∧ RnAt K 99 y v H ∧ ∀ H', Same H H' → Q (.int (cmpR x y)) H'
section
variable {P : Program} {w : World} {K : PySem.W.Frag} {mg : Str → Option Value} {base : Heap}
theorem sc_root : FnScope ["p", "q", "d", "here", "there"] ["p", "q", "d"] (defScope s_sign_of_root) := ⟨rfl, rfl, rfl, by decide +kernel, rfl, by decide +kernel, by decide +kernel⟩
theorem ok_sign_of_root {f : Addr} {fd : FuncData} (F : FnP K "sign_of_root" s_sign_of_root f fd) (CS : Cal P w K mg base 1 "sign" ["one"] (spSign K)) (CM : Cal P w K mg base 3 "minus" ["one", "other"] (spMinus K))
    (CT : Cal P w K mg base 3 "times" ["one", "other"] (spTimes K)) (CQ : Cal P w K mg base 4 "square" ["one"] (spSquare K)) : FnOk P w K mg base CX0 5 f fd ["p", "q", "d"] (spRoot K) := by
  refine fn_ok F sc_root (fun vs H Q E h => ?_) (fun cdv A outer s H vs Q E hr h => ?_)
  · obtain ⟨u, v, t, n, p, q, d, rfl, _⟩ := h
    rfl
  · obtain ⟨u, v, t, n, p, q, d, rfl, hp, hq, hd, hn, k⟩ := h
    refine ⟨_, pss_cons (ps_set (i := 3) sc_root.nd rfl (.inl rfl) (pe_cal CS hr (by decide) (by rfl) (pa_cons (pv 0) pa_nil)))
      (pss_cons (ps_set (i := 4) sc_root.nd rfl (.inl rfl) (pe_op op_mul (pe_cal CS hr (by decide) (by rfl) (pa_cons (pv 1) pa_nil)) (pe_cal CS hr (by decide) (by rfl) (pa_cons (pv 2) pa_nil))))
      (pss_cons (ps_if (PW.pt (pw_or (pt_cmpR op_eq (pv 3) (pv 4) (nomark _)) (pw_or1 (pt_cmpR op_eq (pv 4) pe_int (nomark _))))) (pss_one (ps_ret (pv 3))) pss_nil)
      (pss_cons (ps_if (pt_cmpR op_eq (pv 3) pe_int (nomark _)) (pss_one (ps_ret (pv 4))) pss_nil)
      (pss_one (ps_ret (pe_op op_mul (pv 3) (pe_cal CS hr (by decide) (by rfl) (pa_cons (pe_cal CM hr (by decide) (by rfl) (pa_cons (pe_cal CQ hr (by decide) (by rfl) (pa_cons (pv 0) pa_nil))
        (pa_cons (pe_cal CT hr (by decide) (by rfl) (pa_cons (pe_cal CQ hr (by decide) (by rfl) (pa_cons (pv 1) pa_nil)) (pa_cons (pv 2) pa_nil))) pa_nil))) pa_nil)))))))), ?_⟩
    refine ⟨_, rfl, _, _, _, rfl, hp, ?_⟩
    refine ⟨_, rfl, _, _, _, rfl, hq, _, rfl, _, _, _, rfl, hd, _, _, rfl, rfl, .inl (sg_range _), ?_⟩
    refine ⟨_, rfl, _, rfl, rfl, _, rfl, ite2 (fun e => iteT ⟨_, rfl, ?_⟩) (fun e => ⟨_, rfl, rfl, _, rfl, ite2 (fun e2 => ⟨_, rfl, ?_⟩) (fun e2 => ?_)⟩)⟩
    · have z := k H (Same.refl H)
      unfold sRoot at z
      rw [if_pos (.inl (deq e))] at z
      exact z
    · have z := k H (Same.refl H)
      unfold sRoot at z
      rw [if_pos (.inr (deq e2))] at z
      exact z
    · have hno : ¬ (sg p = sg q * sg d ∨ sg q * sg d = 0) := fun z => z.elim (dne e) (dne e2)
      refine ⟨_, rfl, rfl, _, rfl, ite2 (fun e3 => ⟨_, rfl, ?_⟩) (fun e3 => ?_)⟩
      · have z := k H (Same.refl H)
        unfold sRoot at z
        rw [if_neg hno, if_pos (deq e3)] at z
        exact z
      · refine ⟨_, rfl, _, rfl, _, n, p, rfl, hp, by omega, fun H1 z1 s1 f1 => ?_⟩
        refine ⟨_, rfl, _, n, q, rfl, hq.same s1, by omega, fun H2 z2 s2 f2 => ?_⟩
        refine ⟨_, rfl, _, _, _, _, _, _, rfl, f2, hd.same (s1.trans s2), by omega, fun H3 z3 s3 f3 => ?_⟩
        refine ⟨_, _, _, _, _, _, rfl, f1.same (s2.trans s3), f3, by omega, fun H4 z4 s4 f4 => ?_⟩
        refine ⟨_, _, _, rfl, f4, _, _, rfl, rfl, .inl (sg_range _), ?_⟩
        have z := k H4 (s1.trans (s2.trans (s3.trans s4)))
        unfold sRoot at z
        rw [if_neg hno, if_neg (dne e3)] at z
        exact z
theorem sc_two : FnScope ["q", "d", "r", "e", "here", "there"] ["q", "d", "r", "e"] (defScope s_sign_of_two) := ⟨rfl, rfl, rfl, by decide +kernel, rfl, by decide +kernel, by decide +kernel⟩
theorem ok_sign_of_two {f : Addr} {fd : FuncData} (F : FnP K "sign_of_two" s_sign_of_two f fd) (CS : Cal P w K mg base 1 "sign" ["one"] (spSign K)) (CM : Cal P w K mg base 3 "minus" ["one", "other"] (spMinus K))
    (CT : Cal P w K mg base 3 "times" ["one", "other"] (spTimes K)) (CQ : Cal P w K mg base 4 "square" ["one"] (spSquare K)) : FnOk P w K mg base CX0 5 f fd ["q", "d", "r", "e"] (spTwo K) := by
  refine fn_ok F sc_two (fun vs H Q E h => ?_) (fun cdv A outer s H vs Q E hr h => ?_)
  · obtain ⟨u, v, t, z, n, q, d, r, e, rfl, _⟩ := h
    rfl
  · obtain ⟨u, v, t, z, n, q, d, r, e, rfl, hq, hd, hrr, he, hn, k⟩ := h
    refine ⟨_, pss_cons (ps_set (i := 4) sc_two.nd rfl (.inl rfl) (pe_op op_mul (pe_cal CS hr (by decide) (by rfl) (pa_cons (pv 0) pa_nil)) (pe_cal CS hr (by decide) (by rfl) (pa_cons (pv 1) pa_nil))))
      (pss_cons (ps_set (i := 5) sc_two.nd rfl (.inl rfl) (pe_op op_mul (pe_cal CS hr (by decide) (by rfl) (pa_cons (pv 2) pa_nil)) (pe_cal CS hr (by decide) (by rfl) (pa_cons (pv 3) pa_nil))))
      (pss_cons (ps_if (PW.pt (pw_or (pt_cmpR op_eq (pv 4) (pv 5) (nomark _)) (pw_or1 (pt_cmpR op_eq (pv 5) pe_int (nomark _))))) (pss_one (ps_ret (pv 4))) pss_nil)
      (pss_cons (ps_if (pt_cmpR op_eq (pv 4) pe_int (nomark _)) (pss_one (ps_ret (pv 5))) pss_nil)
      (pss_one (ps_ret (pe_op op_mul (pv 4) (pe_cal CS hr (by decide) (by rfl) (pa_cons (pe_cal CM hr (by decide) (by rfl) (pa_cons (pe_cal CT hr (by decide) (by rfl) (pa_cons (pe_cal CQ hr (by decide) (by rfl) (pa_cons (pv 0) pa_nil)) (pa_cons (pv 1) pa_nil)))
        (pa_cons (pe_cal CT hr (by decide) (by rfl) (pa_cons (pe_cal CQ hr (by decide) (by rfl) (pa_cons (pv 2) pa_nil)) (pa_cons (pv 3) pa_nil))) pa_nil))) pa_nil)))))))), ?_⟩
    refine ⟨_, rfl, _, _, _, rfl, hq, _, rfl, _, _, _, rfl, hd, _, _, rfl, rfl, .inl (sg_range _), ?_⟩
    refine ⟨_, rfl, _, _, _, rfl, hrr, _, rfl, _, _, _, rfl, he, _, _, rfl, rfl, .inl (sg_range _), ?_⟩
    refine ⟨_, rfl, _, rfl, rfl, _, rfl, ite2 (fun e => iteT ⟨_, rfl, ?_⟩) (fun e => ⟨_, rfl, rfl, _, rfl, ite2 (fun e2 => ⟨_, rfl, ?_⟩) (fun e2 => ?_)⟩)⟩
    · have z := k H (Same.refl H)
      unfold sTwo at z
      rw [if_pos (.inl (deq e))] at z
      exact z
    · have z := k H (Same.refl H)
      unfold sTwo at z
      rw [if_pos (.inr (deq e2))] at z
      exact z
    · rename_i e1
      have hno : ¬ (sg q * sg d = sg r * sg e1 ∨ sg r * sg e1 = 0) := fun z => z.elim (dne e) (dne e2)
      refine ⟨_, rfl, rfl, _, rfl, ite2 (fun e3 => ⟨_, rfl, ?_⟩) (fun e3 => ?_)⟩
      · have z := k H (Same.refl H)
        unfold sTwo at z
        rw [if_neg hno, if_pos (deq e3)] at z
        exact z
      · refine ⟨_, rfl, _, rfl, _, n, q, rfl, hq, by omega, fun H1 z1 s1 f1 => ?_⟩
        refine ⟨_, rfl, _, _, _, _, _, _, rfl, f1, hd.same s1, by omega, fun H2 z2 s2 f2 => ?_⟩
        refine ⟨_, rfl, _, n, r, rfl, hrr.same (s1.trans s2), by omega, fun H3 z3 s3 f3 => ?_⟩
        refine ⟨_, rfl, _, _, _, _, _, _, rfl, f3, he.same (s1.trans (s2.trans s3)), by omega, fun H4 z4 s4 f4 => ?_⟩
        refine ⟨_, _, _, _, _, _, rfl, f2.same (s3.trans s4), f4, by omega, fun H5 z5 s5 f5 => ?_⟩
        refine ⟨_, _, _, rfl, f5, _, _, rfl, rfl, .inr (sg_range _), ?_⟩
        have z := k H5 (s1.trans (s2.trans (s3.trans (s4.trans s5))))
        unfold sTwo at z
        rw [if_neg hno, if_neg (dne e3)] at z
        exact z
theorem sc_sum : FnScope ["p", "q", "d", "r", "e", "here", "there", "plain", "mixed"] ["p", "q", "d", "r", "e"] (defScope s_sign_of_sum) := ⟨rfl, rfl, rfl, by decide +kernel, rfl, by decide +kernel, by decide +kernel⟩
theorem fq_two {H : Hp} {p : Addr} (h : H p = none) : Fq K 2 (-2) (.ref p) (upd H p (.tup [.int (-2), .int 1])) := by
  have z := Fq.new (K := K) (n := 2) (a := -2) (b := 1) h (by decide) (by decide) (by decide) (by decide)
  rw [qv_one] at z
  exact z
theorem ok_sign_of_sum {f : Addr} {fd : FuncData} (F : FnP K "sign_of_sum" s_sign_of_sum f fd) (CS : Cal P w K mg base 1 "sign" ["one"] (spSign K)) (CP : Cal P w K mg base 3 "plus" ["one", "other"] (spPlus K)) (CM : Cal P w K mg base 3 "minus" ["one", "other"] (spMinus K))
    (CT : Cal P w K mg base 3 "times" ["one", "other"] (spTimes K)) (CQ : Cal P w K mg base 4 "square" ["one"] (spSquare K)) (CR : Cal P w K mg base 5 "sign_of_root" ["p", "q", "d"] (spRoot K)) (C2 : Cal P w K mg base 5 "sign_of_two" ["q", "d", "r", "e"] (spTwo K)) :
    FnOk P w K mg base CX0 6 f fd ["p", "q", "d", "r", "e"] (spSum K) := by
  refine fn_ok F sc_sum (fun vs H Q E h => ?_) (fun cdv A outer s H vs Q E hr h => ?_)
  · obtain ⟨o, u, v, t, z, n, p, q, d, r, e, rfl, _⟩ := h
    rfl
  · obtain ⟨o, u, v, t, z, n, p, q, d, r, e, rfl, hp, hq, hd, hrr, he, hn, k⟩ := h
    refine ⟨_, pss_cons (ps_set (i := 5) sc_sum.nd rfl (.inl rfl) (pe_cal CS hr (by decide) (by rfl) (pa_cons (pv 0) pa_nil)))
      (pss_cons (ps_set (i := 6) sc_sum.nd rfl (.inl rfl) (pe_cal C2 hr (by decide) (by rfl) (pa_cons (pv 1) (pa_cons (pv 2) (pa_cons (pv 3) (pa_cons (pv 4) pa_nil))))))
      (pss_cons (ps_if (PW.pt (pw_or (pt_cmpR op_eq (pv 5) (pv 6) (nomark _)) (pw_or1 (pt_cmpR op_eq (pv 6) pe_int (nomark _))))) (pss_one (ps_ret (pv 5))) pss_nil)
      (pss_cons (ps_if (pt_cmpR op_eq (pv 5) pe_int (nomark _)) (pss_one (ps_ret (pv 6))) pss_nil)
      (pss_cons (ps_set (i := 7) sc_sum.nd rfl (.inl rfl) (pe_cal CM hr (by decide) (by rfl) (pa_cons (pe_cal CQ hr (by decide) (by rfl) (pa_cons (pv 0) pa_nil))
        (pa_cons (pe_cal CP hr (by decide) (by rfl) (pa_cons (pe_cal CT hr (by decide) (by rfl) (pa_cons (pe_cal CQ hr (by decide) (by rfl) (pa_cons (pv 1) pa_nil)) (pa_cons (pv 2) pa_nil)))
          (pa_cons (pe_cal CT hr (by decide) (by rfl) (pa_cons (pe_cal CQ hr (by decide) (by rfl) (pa_cons (pv 3) pa_nil)) (pa_cons (pv 4) pa_nil))) pa_nil))) pa_nil))))
      (pss_cons (ps_set (i := 8) sc_sum.nd rfl (.inl rfl) (pe_cal CT hr (by decide) (by rfl) (pa_cons (pe_tup (pa_cons (pe_un un_neg pe_int) (pa_cons pe_int pa_nil))) (pa_cons (pe_cal CT hr (by decide) (by rfl) (pa_cons (pv 1) (pa_cons (pv 3) pa_nil))) pa_nil))))
      (pss_one (ps_ret (pe_op op_mul (pv 5) (pe_cal CR hr (by decide) (by rfl) (pa_cons (pv 7) (pa_cons (pv 8) (pa_cons (pe_cal CT hr (by decide) (by rfl) (pa_cons (pv 2) (pa_cons (pv 4) pa_nil))) pa_nil)))))))))))), ?_⟩
    refine ⟨_, rfl, _, _, _, rfl, hp, ?_⟩
    refine ⟨_, rfl, _, rfl, _, rfl, _, rfl, _, _, _, _, n, q, d, r, e, rfl, hq, hd, hrr, he, by omega, fun H0 s0 => ?_⟩
    refine ⟨_, rfl, _, rfl, rfl, _, rfl, ite2 (fun e1 => iteT ⟨_, rfl, ?_⟩) (fun e1 => ⟨_, rfl, rfl, _, rfl, ite2 (fun e2 => ⟨_, rfl, ?_⟩) (fun e2 => ?_)⟩)⟩
    · have z := k H0 s0
      unfold sSum at z
      rw [if_pos (.inl (deq e1))] at z
      exact z
    · have z := k H0 s0
      unfold sSum at z
      rw [if_pos (.inr (deq e2))] at z
      exact z
    · have hno : ¬ (sg p = sTwo q d r e ∨ sTwo q d r e = 0) := fun z => z.elim (dne e1) (dne e2)
      refine ⟨_, rfl, rfl, _, rfl, ite2 (fun e3 => ⟨_, rfl, ?_⟩) (fun e3 => ?_)⟩
      · have z := k H0 s0
        unfold sSum at z
        rw [if_neg hno, if_pos (deq e3)] at z
        exact z
      · -- plain
        refine ⟨_, rfl, _, n, p, rfl, hp.same s0, by omega, fun H1 z1 s1 f1 => ?_⟩
        have t1 := s0.trans s1
        refine ⟨_, rfl, _, n, q, rfl, hq.same t1, by omega, fun H2 z2 s2 f2 => ?_⟩
        have t2 := t1.trans s2
        refine ⟨_, rfl, _, _, _, _, _, _, rfl, f2, hd.same t2, by omega, fun H3 z3 s3 f3 => ?_⟩
        have t3 := t2.trans s3
        refine ⟨_, rfl, _, n, r, rfl, hrr.same t3, by omega, fun H4 z4 s4 f4 => ?_⟩
        have t4 := t3.trans s4
        refine ⟨_, rfl, _, _, _, _, _, _, rfl, f4, he.same t4, by omega, fun H5 z5 s5 f5 => ?_⟩
        have t5 := t4.trans s5
        refine ⟨_, _, _, _, _, _, rfl, f3.same (s4.trans s5), f5, by omega, fun H6 z6 s6 f6 => ?_⟩
        have t6 := t5.trans s6
        refine ⟨_, _, _, _, _, _, rfl, f1.same (s2.trans (s3.trans (s4.trans (s5.trans s6)))), f6, by omega, fun H7 z7 s7 f7 => ?_⟩
        have t7 := t6.trans s7
        -- mixed
        refine ⟨2, rfl, (by show 2 ≤ sizeLine; decide), fun tp htp => ?_⟩
        have s8 : Same H7 (upd H7 tp (.tup [.int (-2), .int 1])) := same_new htp
        have t8 := t7.trans s8
        refine ⟨_, rfl, _, rfl, _, _, n, n, q, r, rfl, hq.same t8, hrr.same t8, by omega, fun H9 z9 s9 f9 => ?_⟩
        have t9 := t8.trans s9
        refine ⟨_, _, _, _, _, _, rfl, (fq_two htp).same s9, f9, by omega, fun Ha za sa fa => ?_⟩
        have ta := t9.trans sa
        refine ⟨_, rfl, _, rfl, _, rfl, _, rfl, _, rfl, _, _, n, n, d, e, rfl, hd.same ta, he.same ta, by omega, fun Hb zb sb fb => ?_⟩
        have tb := ta.trans sb
        refine ⟨_, _, _, 8 * n + 2, _, _, _, rfl, (f7.same (s8.trans (s9.trans (sa.trans sb)))).mono (by omega), (fa.same sb).mono (by have := hp; omega), fb.mono (by omega), by omega, fun Hc sc => ?_⟩
        refine ⟨_, _, rfl, rfl, .inl (sg_range _), ?_⟩
        have z := k Hc (tb.trans sc)
        unfold sSum at z
        rw [if_neg hno, if_neg (dne e3)] at z
        exact z
end
end K8

set_option Elab.async false
set_option linter.all false
set_option maxRecDepth 100000
set_option maxHeartbeats 4000000
/-! compare. -/
namespace K8
open PySem PySem.Spec PyProof.Rows L2
section
variable {P : Program} {w : World} {K : PySem.W.Frag} {mg : Str → Option Value} {base : Heap}
theorem sc_cmp : FnScope ["one", "other", "p", "q", "d", "s", "r", "e"] ["one", "other"] (defScope s_compare) := ⟨rfl, rfl, rfl, by decide +kernel, rfl, by decide +kernel, by decide +kernel⟩
theorem fq_nought {z : Addr} {H : Hp} (h : SqT K H z [.int 0, .int 1]) : Fq K 1 0 (.ref z) H := by
  refine ⟨z, 0, 1, rfl, h, by decide, by decide, by decide, by decide, ?_⟩
  rw [qv_one] <;> rfl
theorem ok_compare {f z : Addr} {fd : FuncData} (F : FnP K "compare" s_compare f fd) (CM : Cal P w K mg base 3 "minus" ["one", "other"] (spMinus K)) (CU : Cal P w K mg base 6 "sign_of_sum" ["p", "q", "d", "r", "e"] (spSum K))
    (gz : mg "ZERO" = some (.ref z)) (hz : ∀ H : Hp, SqT K H z [.int 0, .int 1]) : FnOk P w K mg base CX0 7 f fd ["one", "other"] (spCompare K) := by
  refine fn_ok F sc_cmp (fun vs H Q E h => ?_) (fun cdv A outer s H vs Q E hr h => ?_)
  · obtain ⟨u, v, x, y, rfl, _⟩ := h
    rfl
  · obtain ⟨u, v, x, y, rfl, ⟨a, u1, u2, u3, rfl, ta, fa1, fa2, fa3⟩, ⟨b, v1, v2, v3, rfl, tb, fb1, fb2, fb3⟩, k⟩ := h
    refine ⟨_, pss_cons (ps_asg (pe_tup (pa_cons (pv 0) (pa_cons (pv 1) pa_nil)))
        (pg_tup rfl (pgs_cons (pg_tup rfl (pgs_cons (pg_name (i := 2) sc_cmp.nd rfl (.inl rfl)) (pgs_cons (pg_name (i := 3) sc_cmp.nd rfl (.inl rfl)) (pgs_cons (pg_name (i := 4) sc_cmp.nd rfl (.inl rfl)) pgs_nil))))
          (pgs_cons (pg_tup rfl (pgs_cons (pg_name (i := 5) sc_cmp.nd rfl (.inl rfl)) (pgs_cons (pg_name (i := 6) sc_cmp.nd rfl (.inl rfl)) (pgs_cons (pg_name (i := 7) sc_cmp.nd rfl (.inl rfl)) pgs_nil)))) pgs_nil))))
      (pss_one (ps_ret (pe_cal CU hr (by decide) (by rfl) (pa_cons (pe_cal CM hr (by decide) (by rfl) (pa_cons (pv 2) (pa_cons (pv 5) pa_nil))) (pa_cons (pv 3) (pa_cons (pv 4)
        (pa_cons (pe_cal CM hr (by decide) (by rfl) (pa_cons (pe_glob (v := .ref z) (by rfl) gz rfl) (pa_cons (pv 6) pa_nil))) (pa_cons (pv 7) pa_nil)))))))), ?_⟩
    refine ⟨_, rfl, _, rfl, (by show 2 ≤ sizeLine; decide), fun t ht => ?_⟩
    have s0 : Same H (upd H t (.tup [.ref a, .ref b])) := same_new ht
    refine ⟨t, [.ref a, .ref b], rfl, .of upd_same, rfl, .ref a, [.ref b], rfl, ?_⟩
    refine ⟨a, [u1, u2, u3], rfl, seqT s0 ta, rfl, u1, [u2, u3], rfl, u2, [u3], rfl, u3, [], rfl, rfl, ?_⟩
    refine ⟨.ref b, [], rfl, b, [v1, v2, v3], rfl, seqT s0 tb, rfl, v1, [v2, v3], rfl, v2, [v3], rfl, v3, [], rfl, ⟨rfl, ⟨rfl, ?_⟩⟩⟩
    refine ⟨_, rfl, _, rfl, _, _, 99, 99, x.p, y.p, rfl, fa1.same s0, fb1.same s0, by decide, fun H1 z1 s1 f1 => ?_⟩
    have t1 := s0.trans s1
    refine ⟨_, rfl, _, rfl, _, rfl, _, _, 1, 99, 0, y.q, rfl, fq_nought (hz _), fb2.same t1, by decide, fun H2 z2 s2 f2 => ?_⟩
    have t2 := t1.trans s2
    refine ⟨_, rfl, _, _, _, _, _, 200, _, x.q, x.d, _, y.d, rfl, (f1.same s2).mono (by decide), (fa2.same t2).mono (by decide), fa3.same t2, f2.mono (by decide), fb3.same t2, by decide, fun H3 s3 => ?_⟩
    exact k H3 (t2.trans s3)
end
end K8

set_option Elab.async false
set_option linter.all false
set_option maxRecDepth 100000
set_option maxHeartbeats 4000000
/-! The law's draws: _law_cell, _law_mixed, _law_deck, _law_take. -/
namespace K8
open PySem PySem.Spec PyProof.Rows L2
/-! ### the script, the deck -/
/-- the script stands, whatever else may change -/
def Scr (K : PySem.W.Frag) (H : Hp) (a : Addr) (ns : List Int) : Prop := ∀ H' : Hp, (∀ o u, H a = some (.frz o u) → H' a = some (.frz o u)) → SqL K H' a (ns.map V.int)
theorem Scr.of {K : PySem.W.Frag} {H : Hp} {a : Addr} {ns : List Int} (hO : Only H) (hS : SqL K H a (ns.map V.int)) : Scr K H a ns := fun H' k => by
  rcases hS with (h | ⟨o, h⟩) | h
  · rcases hO a with z | ⟨o, xs, z⟩
    · rw [h] at z
      cases z
    · rw [h] at z
      cases z
  · exact .inl (.inr ⟨o, k _ _ h⟩)
  · exact .inr h
theorem Scr.seq {K : PySem.W.Frag} {H : Hp} {a : Addr} {ns : List Int} (h : Scr K H a ns) : SqL K H a (ns.map V.int) := h H fun _ _ e => e
theorem Scr.to {K : PySem.W.Frag} {H H' : Hp} {a : Addr} {ns : List Int} (h : Scr K H a ns) (k : ∀ o u, H a = some (.frz o u) → H' a = some (.frz o u)) : Scr K H' a ns := fun H2 k2 => h H2 fun o u e => k2 o u (k o u e)
theorem Scr.same {K : PySem.W.Frag} {H H' : Hp} {a : Addr} {ns : List Int} (h : Scr K H a ns) (s : Same H H') : Scr K H' a ns := h.to fun o u e => s _ _ e
theorem Scr.upd {K : PySem.W.Frag} {H : Hp} {a b : Addr} {ns : List Int} {xs : List V} {o : HO} (h : Scr K H a ns) (e : H b = some (.lst xs)) : Scr K (upd H b o) a ns := h.to fun o' u z => by
  rw [upd_ne (ne_of z e (by intro q; cases q))]
  exact z
/-- all is kept but at two places -/
def But (dk l2 : Addr) (H H' : Hp) : Prop := ∀ b o, H b = some o → b ≠ dk → b ≠ l2 → H' b = some o
theorem But.refl (dk l2 : Addr) (H : Hp) : But dk l2 H H := fun _ _ e _ _ => e
theorem But.trans {dk l2 : Addr} {H H1 H2 : Hp} (x : But dk l2 H H1) (y : But dk l2 H1 H2) : But dk l2 H H2 := fun b o e h1 h2 => y b o (x b o e h1 h2) h1 h2
theorem But.of_same {dk l2 : Addr} {H H' : Hp} (s : Same H H') : But dk l2 H H' := fun b o e _ _ => s b o e
theorem But.upd1 {dk l2 : Addr} {H : Hp} {o : HO} : But dk l2 H (upd H dk o) := fun b u e h1 _ => by
  rw [upd_ne h1]
  exact e
theorem But.upd2 {dk l2 : Addr} {H : Hp} {o : HO} : But dk l2 H (upd H l2 o) := fun b u e _ h2 => by
  rw [upd_ne h2]
  exact e
/-- the deck: the script, the great numbers that are left, a place among them, how many draws without them there were (at most c) -/
structure Deck (K : PySem.W.Frag) (dk l2 a : Addr) (ns : List Int) (c : Nat) (H : Hp) : Prop where
  d : ∃ i k : Nat, H dk = some (.lst [.ref a, .ref l2, .int i, .int k]) ∧ k ≤ c
  l : ∃ ms : List Int, H l2 = some (.lst (ms.map V.int))
  s : Scr K H a ns
section
variable {K : PySem.W.Frag} {dk l2 a : Addr} {ns : List Int} {c : Nat} {H H' : Hp}
theorem Deck.same (D : Deck K dk l2 a ns c H) (s : Same H H') : Deck K dk l2 a ns c H' := by
  obtain ⟨⟨i, k, e, h⟩, ⟨ms, e2⟩, z⟩ := D
  exact ⟨⟨i, k, s _ _ e, h⟩, ⟨ms, s _ _ e2⟩, z.same s⟩
theorem Deck.mono (D : Deck K dk l2 a ns c H) {c' : Nat} (h : c ≤ c') : Deck K dk l2 a ns c' H := by
  obtain ⟨⟨i, k, e, h1⟩, e2, z⟩ := D
  exact ⟨⟨i, k, e, by omega⟩, e2, z⟩
theorem Deck.ne1 (D : Deck K dk l2 a ns c H) {b : Addr} {o : HO} (e : H b = some o) (h : ∀ xs, o ≠ .lst xs) : b ≠ dk := by
  obtain ⟨i, k, e1, _⟩ := D.d
  exact ne_of e e1 (h _)
theorem Deck.ne2 (D : Deck K dk l2 a ns c H) {b : Addr} {o : HO} (e : H b = some o) (h : ∀ xs, o ≠ .lst xs) : b ≠ l2 := by
  obtain ⟨ms, e1⟩ := D.l
  exact ne_of e e1 (h _)
theorem Deck.free1 (D : Deck K dk l2 a ns c H) {b : Addr} (e : H b = none) : b ≠ dk := by
  obtain ⟨i, k, e1, _⟩ := D.d
  exact (ne_of_none e1 e).symm
theorem Deck.free2 (D : Deck K dk l2 a ns c H) {b : Addr} (e : H b = none) : b ≠ l2 := by
  obtain ⟨ms, e1⟩ := D.l
  exact (ne_of_none e1 e).symm
theorem Deck.tup (D : Deck K dk l2 a ns c H) (B : But dk l2 H H') {p : Addr} {xs : List V} (h : SqT K H p xs) : SqT K H' p xs := by
  rcases h with (h | ⟨o, h⟩) | h
  · exact .inl (.inl (B _ _ h (D.ne1 h (by intro _ z; cases z)) (D.ne2 h (by intro _ z; cases z))))
  · exact .inl (.inr ⟨o, B _ _ h (D.ne1 h (by intro _ z; cases z)) (D.ne2 h (by intro _ z; cases z))⟩)
  · exact .inr h
theorem Deck.fq (D : Deck K dk l2 a ns c H) (B : But dk l2 H H') {n : Nat} {x : Rat} {v : V} (h : Fq K n x v H) : Fq K n x v H' := by
  obtain ⟨p, i, j, e, t, r⟩ := h
  exact ⟨p, i, j, e, D.tup B t, r⟩
end
/-! ### promises -/
def spCell (K : PySem.W.Frag) : Sp := fun vs H Q _ => ∃ (a : Addr) (ns : List Int) (k : Int), vs = [.ref a, .int k] ∧ SqL K H a (ns.map V.int) ∧ 0 ≤ k ∧ ∀ r, 0 ≤ r → Q (.int r) H
def spMixed (K : PySem.W.Frag) : Sp := fun vs H Q _ => ∃ (a : Addr) (ns : List Int) (k m : Int), vs = [.ref a, .int k, .int m] ∧ SqL K H a (ns.map V.int) ∧ 0 ≤ k ∧ k ≤ 200000 ∧ 0 < m ∧
  ∀ r, 0 ≤ r → r < m → Q (.int r) H
def spDeck (K : PySem.W.Frag) : Sp := fun vs H Q _ => ∃ (a : Addr) (ns : List Int), vs = [.ref a] ∧ Scr K H a ns ∧ ns.length ≤ 63 ∧
  ∀ (H' : Hp) (dk l2 : Addr), Deck K dk l2 a ns 0 H' → Q (.ref dk) H'
def spTake (K : PySem.W.Frag) : Sp := fun vs H Q _ => ∃ (dk l2 a : Addr) (ns : List Int) (c : Nat) (m : Int), vs = [.ref dk, .int m] ∧ Deck K dk l2 a ns c H ∧ 0 < m ∧ m < 1073741824 ∧ c ≤ 100000 ∧
  ∀ (H' : Hp) (r : Int), 0 ≤ r → r < m → But dk l2 H H' → Deck K dk l2 a ns (c + 1) H' → Q (.int r) H'
theorem ixN_nat {n i : Nat} (h : i < n) : ixN n (i : Int) = some i := by
  unfold ixN
  rw [if_pos (by omega), if_pos (by omega)]
  rfl
theorem at_int {ms : List Int} {i : Nat} (h : i < ms.length) : (ms.map V.int)[i]? = some (.int ms[i]) := by
  rw [List.getElem?_map, List.getElem?_eq_getElem h]
  rfl
section
variable {P : Program} {w : World} {K : PySem.W.Frag} {mg : Str → Option Value} {base : Heap}
theorem sc_cell : FnScope ["_law_script", "_law_k"] ["_law_script", "_law_k"] (defScope s_L_cell) := ⟨rfl, rfl, rfl, by decide +kernel, rfl, by decide +kernel, by decide +kernel⟩
theorem ok_L_cell {f : Addr} {fd : FuncData} (F : FnP K "_law_cell" s_L_cell f fd) (ml : mg "len" = none) (ma : mg "abs" = none) : FnOk P w K mg base CX0 1 f fd ["_law_script", "_law_k"] (spCell K) := by
  refine fn_ok F sc_cell (fun vs H Q E h => ?_) (fun cdv A outer s H vs Q E hr h => ?_)
  · obtain ⟨a, ns, k, rfl, _⟩ := h
    rfl
  · obtain ⟨a, ns, k, rfl, hS, hk, q⟩ := h
    refine ⟨_, pss_cons (ps_if (pt_cmpR op_eq (pe_callB call_len_seq (by rfl) ml PySem.boot_len (pa_cons (pv 0) pa_nil)) pe_int (nomark _))
        (pss_one (ps_ret (pe_op op_add (pe_op op_mul pe_int (pv 1)) pe_int))) pss_nil)
      (pss_one (ps_ret (pe_callB call_abs (by rfl) ma (by decide +kernel) (pa_cons (pe_ix ix_list (pv 0) (pe_op op_mod (pv 1) (pe_callB call_len_seq (by rfl) ml PySem.boot_len (pa_cons (pv 0) pa_nil))) (fun _ _ => rfl)) pa_nil)))), ?_⟩
    refine ⟨_, rfl, a, _, rfl, .inl hS, rfl, _, rfl, ite2 (fun e => ?_) (fun e => ?_)⟩
    · refine ⟨_, rfl, _, _, rfl, rfl, .inl (by decide), _, _, rfl, rfl, q _ (by omega)⟩
    · have h0 : 0 < ns.length := by
        have z := dne e
        rw [List.length_map] at z
        omega
      have hm : (0 : Int) < ((ns.map V.int).length : Nat) := by
        rw [List.length_map]
        omega
      have e1 := Int.emod_nonneg k (show (((ns.map V.int).length : Nat) : Int) ≠ 0 by omega)
      have e2 := Int.emod_lt_of_pos k hm
      have e3 : k % (((ns.map V.int).length : Nat) : Int) = ((k % (((ns.map V.int).length : Nat) : Int)).toNat : Int) := (Int.toNat_of_nonneg e1).symm
      have e4 : (k % (((ns.map V.int).length : Nat) : Int)).toNat < ns.length := by
        have := List.length_map (as := ns) V.int
        omega
      refine ⟨_, rfl, _, rfl, _, rfl, a, _, rfl, .inl hS, _, _, rfl, rfl, hm, a, _, _, _, rfl, rfl, hS, at_of e3 (at_int e4), _, rfl, q _ ?_⟩
      split <;> omega
theorem sc_mixed : FnScope ["_law_script", "_law_k", "_law_many", "_law_number"] ["_law_script", "_law_k", "_law_many"] (defScope s_L_mixed) := ⟨rfl, rfl, rfl, by decide +kernel, rfl, by decide +kernel, by decide +kernel⟩
theorem mixed_size {r k : Int} (h1 : 0 ≤ r) (h2 : r < 1000003) (h3 : 0 ≤ k) (h4 : k ≤ 200000) : 0 ≤ (r + 5) * (k + 2) + 7919 * k ∧ (r + 5) * (k + 2) + 7919 * k < 2 ^ 60 := by
  have a1 : 0 ≤ (r + 5) * (k + 2) := Int.mul_nonneg (by omega) (by omega)
  have a2 : (r + 5) * (k + 2) ≤ 1000008 * 200002 := Int.mul_le_mul (by omega) (by omega) (by omega) (by omega)
  omega
theorem ok_L_mixed {f : Addr} {fd : FuncData} (F : FnP K "_law_mixed" s_L_mixed f fd) (C : Cal P w K mg base 1 "_law_cell" ["_law_script", "_law_k"] (spCell K)) : FnOk P w K mg base CX0 2 f fd ["_law_script", "_law_k", "_law_many"] (spMixed K) := by
  refine fn_ok F sc_mixed (fun vs H Q E h => ?_) (fun cdv A outer s H vs Q E hr h => ?_)
  · obtain ⟨a, ns, k, m, rfl, _⟩ := h
    rfl
  · obtain ⟨a, ns, k, m, rfl, hS, hk, hk2, hm, q⟩ := h
    refine ⟨_, pss_cons (ps_set (i := 3) sc_mixed.nd rfl (.inl rfl) (pe_op op_mod (pe_op op_pow (pe_op op_add (pe_op op_mul (pe_op op_add (pe_op op_mod (pe_cal C hr (by decide) (by rfl) (pa_cons (pv 0) (pa_cons (pv 1) pa_nil))) pe_int) pe_int) (pe_op op_add (pv 1) pe_int)) (pe_op op_mul pe_int (pv 1))) pe_int) pe_int))
      (pss_one (ps_ret (pe_op op_mod (pe_op op_fdiv (pv 3) pe_int) (pv 2)))), ?_⟩
    refine ⟨_, rfl, _, rfl, a, ns, k, rfl, hS, hk, fun r hr0 => ?_⟩
    have b1 := Int.emod_nonneg r (show (1000003 : Int) ≠ 0 by decide)
    have b2 := Int.emod_lt_of_pos r (show (0 : Int) < 1000003 by decide)
    obtain ⟨c1, c2⟩ := mixed_size b1 b2 hk hk2
    refine ⟨_, _, rfl, rfl, (by show (0 : Int) < 1000003; decide), _, _, rfl, rfl, _, rfl, _, _, rfl, rfl, _, _, rfl, rfl, .inl ⟨by omega, by omega⟩, _, rfl, _, _, rfl, rfl, .inl (by decide), _, _, rfl, rfl, _, _, rfl, rfl, ⟨by decide, by decide, by omega⟩,
      _, _, rfl, rfl, (by show (0 : Int) < 2147483647; decide), ?_⟩
    refine ⟨_, rfl, _, _, rfl, rfl, ⟨by decide, by decide⟩, _, rfl, _, _, rfl, rfl, hm, q _ (Int.emod_nonneg _ (by omega)) (Int.emod_lt_of_pos _ hm)⟩
end
end K8

set_option Elab.async false
set_option linter.all false
set_option maxRecDepth 100000
set_option maxHeartbeats 4000000
/-! _law_deck, _law_take. -/
namespace K8
open PySem PySem.Spec PyProof.Rows L2
section
variable {P : Program} {w : World} {K : PySem.W.Frag} {mg : Str → Option Value} {base : Heap}
theorem sc_deck : FnScope ["_law_script", "_law_part"] ["_law_script"] (defScope s_L_deck) := ⟨rfl, rfl, rfl, by decide +kernel, rfl, by decide +kernel, by decide +kernel⟩
theorem ok_L_deck {f : Addr} {fd : FuncData} (F : FnP K "_law_deck" s_L_deck f fd) (ma : mg "abs" = none) : FnOk P w K mg base CX0 1 f fd ["_law_script"] (spDeck K) := by
  refine fn_ok F sc_deck (fun vs H Q E h => ?_) (fun cdv A outer s H vs Q E hr h => ?_)
  · obtain ⟨a, ns, rfl, _⟩ := h
    rfl
  · obtain ⟨a, ns, rfl, hS, hl, q⟩ := h
    refine ⟨_, pss_one (ps_ret (pe_lst (pa_cons (pv 0) (pa_cons
      (pe_lc (own := [("_law_part", 1)]) (g := gName 1) (by rfl) sc_deck.nd (pi_list (pv 0)) (blkOk_by (own := [("_law_part", 1)]) (N := ["_law_script", "_law_part"]) (sc := defScope s_L_deck) (by decide +kernel))
        (fun _ _ _ _ _ => pg_name (i := 1) sc_deck.nd rfl (Or.inl rfl))
        (fun _ _ _ _ _ => pts_one (pt_cmpR op_ge (pe_callB call_abs (by rfl) ma (by decide +kernel) (pa_cons (pv 1) pa_nil)) (pe_op op_pow pe_int pe_int) (nomark _)))
        (fun _ _ _ _ _ => pe_callB call_abs (by rfl) ma (by decide +kernel) (pa_cons (pv 1) pa_nil)))
      (pa_cons pe_int (pa_cons pe_int pa_nil)))))), ?_⟩
    refine ⟨_, rfl, _, rfl, a, rfl, ⟨_, hS.seq⟩, fun l2 hD => ?_⟩
    refine lc_list (K := K) (a := a) (xs := ns.map V.int) (fun i H' => Same H H' ∧ ∃ ms : List Int, H' l2 = some (.lst (ms.map V.int)) ∧ ms.length ≤ i) ⟨same_new hD, [], upd_same, Nat.le_refl _⟩ (fun i H' _ z => (hS.same z.1).seq) (fun i x H' hx hP => ?_) (fun H' hP => ?_)
    · obtain ⟨sm, ms, el, hms⟩ := hP
      have hi : i < ns.length := by
        have z := (List.getElem?_eq_some_iff.mp hx).1
        rw [List.length_map] at z
        exact z
      rw [at_int hi] at hx
      cases hx
      refine ⟨rfl, ?_⟩
      refine ⟨_, rfl, _, rfl, _, _, rfl, rfl, ⟨by decide, by decide, by decide⟩, _, _, rfl, rfl, _, rfl, ite2 (fun e => ?_) (fun e => ?_)⟩
      · refine ⟨_, rfl, _, rfl, _, el, ?_, ?_, ms ++ [if ns[i] < 0 then -ns[i] else ns[i]], ?_, ?_⟩
        · rw [List.length_map]
          exact small1000 (by omega)
        · exact fun b o z => by
            rw [upd_ne (ne_of_none z hD)]
            exact sm _ _ z
        · rw [upd_same, List.map_append]
          rfl
        · rw [List.length_append]
          exact Nat.add_le_add_right hms 1
      · exact ⟨sm, ms, el, by omega⟩
    · obtain ⟨sm, ms, el, hms⟩ := hP
      refine ⟨(by show 4 ≤ sizeLine; decide), fun dk hdk => q _ dk l2 ⟨⟨0, 0, upd_same, Nat.le_refl _⟩, ⟨ms, ?_⟩, ?_⟩⟩
      · rw [upd_ne (ne_of_none el hdk)]
        exact el
      · exact (hS.same sm).same (same_new hdk)
theorem sc_take : FnScope ["_law_deck_here", "_law_many", "_law_part"] ["_law_deck_here", "_law_many"] (defScope s_L_take) := ⟨rfl, rfl, rfl, by decide +kernel, rfl, by decide +kernel, by decide +kernel⟩
theorem ok_L_take {f : Addr} {fd : FuncData} (F : FnP K "_law_take" s_L_take f fd) (ml : mg "len" = none) (C : Cal P w K mg base 2 "_law_mixed" ["_law_script", "_law_k", "_law_many"] (spMixed K)) : FnOk P w K mg base CX0 3 f fd ["_law_deck_here", "_law_many"] (spTake K) := by
  refine fn_ok F sc_take (fun vs H Q E h => ?_) (fun cdv A outer s H vs Q E hr h => ?_)
  · obtain ⟨dk, l2, a, ns, c, m, rfl, _⟩ := h
    rfl
  · obtain ⟨dk, l2, a, ns, c, m, rfl, D, hm, hm2, hc, q⟩ := h
    refine ⟨_, pss_cons (ps_while PassesOwn.never (pt_cmpR op_lt (pe_ix ix_list (pv 0) pe_int (fun _ _ => rfl)) (pe_callB call_len_seq (by rfl) ml PySem.boot_len (pa_cons (pe_ix ix_list (pv 0) pe_int (fun _ _ => rfl)) pa_nil)) (nomark _))
        (pss_cons (ps_set (i := 2) sc_take.nd rfl (.inl rfl) (pe_ix ix_list (pe_ix ix_list (pv 0) pe_int (fun _ _ => rfl)) (pe_ix ix_list (pv 0) pe_int (fun _ _ => rfl)) (fun _ _ => rfl)))
        (pss_cons (ps_if (pt_cmpR op_gt (pv 2) pe_int (nomark _))
          (pss_cons (ps_asg (pe_op op_fdiv (pv 2) (pv 1)) (pg_sub (pe_ix ix_list (pv 0) pe_int (fun _ _ => rfl)) (pe_ix ix_list (pv 0) pe_int (fun _ _ => rfl)) set_list))
            (pss_one (ps_ret (pe_op op_mod (pv 2) (pv 1))))) pss_nil)
        (pss_one (ps_asg (pe_op op_add (pe_ix ix_list (pv 0) pe_int (fun _ _ => rfl)) pe_int) (pg_sub (pv 0) pe_int set_list))))))
      (pss_cons (ps_asg (pe_op op_add (pe_ix ix_list (pv 0) pe_int (fun _ _ => rfl)) pe_int) (pg_sub (pv 0) pe_int set_list))
      (pss_one (ps_ret (pe_cal C hr (by decide) (by rfl) (pa_cons (pe_ix ix_list (pv 0) pe_int (fun _ _ => rfl)) (pa_cons (pe_ix ix_list (pv 0) pe_int (fun _ _ => rfl)) (pa_cons (pv 1) pa_nil))))))), ?_⟩
    obtain ⟨i0, k0, e0, hk0⟩ := D.d
    obtain ⟨ms0, el0⟩ := D.l
    refine ⟨fun mz σ H' => ∃ (x : Option V) (i k : Nat) (ms : List Int), σ = [some (.ref dk), some (.int m), x] ∧ H' dk = some (.lst [.ref a, .ref l2, .int i, .int k]) ∧ k ≤ c ∧ H' l2 = some (.lst (ms.map V.int)) ∧ Scr K H' a ns ∧ But dk l2 H H' ∧ mz = ms.length - i,
      ⟨_, none, i0, k0, ms0, rfl, e0, hk0, el0, D.s, But.refl _ _ _, rfl⟩, ?_⟩
    rintro mz σ H' ⟨x, i, k, ms, rfl, ed, hk, el, hS, hB, rfl⟩
    have ndl : dk ≠ l2 := ne_of ed el (by
      intro z
      injection z with z
      cases ms with
      | nil => cases z
      | cons y r => cases z)
    refine ⟨_, rfl, dk, _, 2, _, rfl, rfl, .of ed, rfl, _, rfl, dk, _, 1, _, rfl, rfl, .of ed, rfl, l2, _, rfl, .inl (.of el), _, _, rfl, rfl, _, rfl, ite2 (fun e => ?_) (fun e => ?_)⟩
    · have hi : i < ms.length := by
        have z := of_decide_eq_true e
        rw [List.length_map] at z
        omega
      refine ⟨fun σ' H2 => ∃ m', m' < ms.length - i ∧ ∃ (x : Option V) (i' k' : Nat) (ms' : List Int), σ' = [some (.ref dk), some (.int m), x] ∧ H2 dk = some (.lst [.ref a, .ref l2, .int i', .int k']) ∧ k' ≤ c ∧ H2 l2 = some (.lst (ms'.map V.int)) ∧ Scr K H2 a ns ∧ But dk l2 H H2 ∧ m' = ms'.length - i', fun _ _ z => z, ?_⟩
      -- the part
      refine ⟨_, rfl, dk, _, 1, _, rfl, rfl, .of ed, rfl, _, rfl, dk, _, 2, _, rfl, rfl, .of ed, rfl, l2, _, (i : Int), _, rfl, rfl, .of el, atI_nat (at_int hi), ?_⟩
      refine ⟨_, rfl, _, _, rfl, rfl, _, rfl, ite2 (fun e2 => ?_) (fun e2 => ?_)⟩
      · refine ⟨_, rfl, _, rfl, _, _, rfl, rfl, ⟨hm, hm2⟩, _, rfl, dk, _, 1, _, rfl, rfl, .of ed, rfl, _, rfl, dk, _, 2, _, rfl, rfl, .of ed, rfl, l2, _, (i : Int), i, rfl, rfl, el, ixN_nat (by rw [List.length_map]; exact hi), ?_⟩
        refine ⟨_, rfl, _, rfl, _, _, rfl, rfl, hm, q _ _ (Int.emod_nonneg _ (by omega)) (Int.emod_lt_of_pos _ hm) (hB.trans But.upd2) ⟨⟨i, k, ?_, by omega⟩, ⟨ms.set i (ms[i] / m), ?_⟩, hS.upd el⟩⟩
        · rw [upd_ne ndl]
          exact ed
        · rw [upd_same, List.map_set]
      · refine ⟨_, rfl, dk, _, 2, _, rfl, rfl, .of ed, rfl, _, _, rfl, rfl, _, rfl, dk, _, 2, 2, rfl, rfl, ed, rfl, ?_⟩
        refine ⟨ms.length - (i + 1), by omega, _, i + 1, k, ms, rfl, upd_same, hk, ?_, hS.upd ed, hB.trans But.upd1, rfl⟩
        rw [upd_ne ndl.symm]
        exact el
    · -- no great number is left
      refine ⟨_, rfl, dk, _, 3, _, rfl, rfl, .of ed, rfl, _, _, rfl, rfl, _, rfl, dk, _, 3, 3, rfl, rfl, ed, rfl, ?_⟩
      have ed2 : (upd H' dk (.lst [.ref a, .ref l2, .int i, .int ((k : Int) + 1)])) dk = some (.lst [.ref a, .ref l2, .int i, .int ((k + 1 : Nat) : Int)]) := by
        rw [upd_same]
        rfl
      refine ⟨_, rfl, dk, _, 0, _, rfl, rfl, .of upd_same, rfl, _, rfl, dk, _, 3, _, rfl, rfl, .of upd_same, rfl, _, rfl, a, ns, _, m, rfl, (hS.upd ed).seq, by omega, by omega, hm, fun r h1 h2 => ?_⟩
      refine q _ r h1 h2 (hB.trans But.upd1) ⟨⟨i, k + 1, ed2, by omega⟩, ⟨ms, ?_⟩, hS.upd ed⟩
      rw [upd_ne ndl.symm]
      exact el
end
end K8

set_option Elab.async false
set_option linter.all false
set_option maxRecDepth 100000
set_option maxHeartbeats 4000000
/-! _law_figures, _law_fraction, _law_roots, _law_at. -/
namespace K8
open PySem PySem.Spec PyProof.Rows L2
def spFigures (K : PySem.W.Frag) : Sp := fun vs H Q _ => ∃ (dk l2 a : Addr) (ns : List Int) (c : Nat), vs = [.ref dk] ∧ Deck K dk l2 a ns c H ∧ c ≤ 90000 ∧
  ∀ (H' : Hp) (r : Int), 0 ≤ r → r ≤ 999999 → But dk l2 H H' → Deck K dk l2 a ns (c + 3) H' → Q (.int r) H'
def spFraction (K : PySem.W.Frag) : Sp := fun vs H Q _ => ∃ (dk l2 a : Addr) (ns : List Int) (c : Nat), vs = [.ref dk] ∧ Deck K dk l2 a ns c H ∧ c ≤ 80000 ∧
  ∀ (H' : Hp) (z : V) (x : Rat), But dk l2 H H' → Deck K dk l2 a ns (c + 8) H' → Fq K 20 x z H' → Q z H'
/-- the two roots and the inner number of a form -/
def RootsAt (K : PySem.W.Frag) (a b c : Rat) (vs : List V) (H : Hp) : Prop := ∃ v0 v1 vd : V, vs = [v0, v1, vd] ∧ RnAt K 72 (root0 a b c) v0 H ∧ RnAt K 72 (root1 a b c) v1 H ∧ Fq K 200 (inner a b c) vd H
theorem RootsAt.same {K : PySem.W.Frag} {a b c : Rat} {vs : List V} {H H' : Hp} (h : RootsAt K a b c vs H) (s : Same H H') : RootsAt K a b c vs H' := by
  obtain ⟨v0, v1, vd, e, r0, r1, f⟩ := h
  exact ⟨v0, v1, vd, e, r0.same s, r1.same s, f.same s⟩
def spRoots (K : PySem.W.Frag) : Sp := fun vs H Q _ => ∃ (va vb vc : V) (a b c : Rat), vs = [va, vb, vc] ∧ Fq K 10 a va H ∧ Fq K 60 b vb H ∧ Fq K 60 c vc H ∧ 0 < a ∧
  ∀ (H' : Hp) (p : Addr) (rs : List V), H p = none → Same H H' → H' p = some (.lst rs) → RootsAt K a b c rs H' → Q (.ref p) H'
def spAt (K : PySem.W.Frag) : Sp := fun vs H Q _ => ∃ (va vb vc vt : V) (a b c t : Rat), vs = [va, vb, vc, vt] ∧ Fq K 10 a va H ∧ Fq K 60 b vb H ∧ Fq K 60 c vc H ∧ Fq K 99 t vt H ∧
  ∀ (H' : Hp) (z : V), Same H H' → Fq K 400 (formAt a b c t) z H' → Q z H'
theorem fq_lit {K : PySem.W.Frag} {H : Hp} {p : Addr} (n : Nat) (i : Int) (h : H p = none) (h1 : i.natAbs < 2 ^ n) (h2 : 0 < n) (h3 : (1 : Int).natAbs < 2 ^ n) : Fq K n (i : Rat) (.ref p) (upd H p (.tup [.int i, .int 1])) := by
  have z := Fq.new (K := K) (n := n) (a := i) (b := 1) h (by decide) h1 h3 h2
  rw [qv_one] at z
  exact z
section
variable {P : Program} {w : World} {K : PySem.W.Frag} {mg : Str → Option Value} {base : Heap}
theorem sc_figures : FnScope ["_law_deck_here", "_law_kind"] ["_law_deck_here"] (defScope s_L_figures) := ⟨rfl, rfl, rfl, by decide +kernel, rfl, by decide +kernel, by decide +kernel⟩
theorem ok_L_figures {f : Addr} {fd : FuncData} (F : FnP K "_law_figures" s_L_figures f fd) (C : Cal P w K mg base 3 "_law_take" ["_law_deck_here", "_law_many"] (spTake K)) : FnOk P w K mg base CX0 4 f fd ["_law_deck_here"] (spFigures K) := by
  refine fn_ok F sc_figures (fun vs H Q E h => ?_) (fun cdv A outer s H vs Q E hr h => ?_)
  · obtain ⟨dk, l2, a, ns, c, rfl, _⟩ := h
    rfl
  · obtain ⟨dk, l2, a, ns, c, rfl, D, hc, q⟩ := h
    refine ⟨_, pss_cons (ps_set (i := 1) sc_figures.nd rfl (.inl rfl) (pe_cal C hr (by decide) (by rfl) (pa_cons (pv 0) (pa_cons pe_int pa_nil))))
      (pss_cons (ps_if (pt_cmpR op_lt (pv 1) pe_int (nomark _)) (pss_one (ps_ret (pe_cal C hr (by decide) (by rfl) (pa_cons (pv 0) (pa_cons pe_int pa_nil))))) pss_nil)
      (pss_cons (ps_if (pt_cmpR op_eq (pv 1) pe_int (nomark _)) (pss_one (ps_ret (pe_op op_add (pe_op op_mul (pe_cal C hr (by decide) (by rfl) (pa_cons (pv 0) (pa_cons pe_int pa_nil))) pe_int) (pe_cal C hr (by decide) (by rfl) (pa_cons (pv 0) (pa_cons pe_int pa_nil)))))) pss_nil)
      (pss_one (ps_ret (pe_op op_sub pe_int (pe_cal C hr (by decide) (by rfl) (pa_cons (pv 0) (pa_cons pe_int pa_nil)))))))), ?_⟩
    refine ⟨_, rfl, dk, l2, a, ns, c, 4, rfl, D, by decide, by decide, by omega, fun H1 r1 g1 g2 B1 D1 => ?_⟩
    refine ⟨_, rfl, _, _, rfl, rfl, _, rfl, ite2 (fun e => ?_) (fun e => ?_)⟩
    · refine ⟨_, rfl, dk, l2, a, ns, c + 1, 12, rfl, D1, by decide, by decide, by omega, fun H2 r2 g3 g4 B2 D2 => ?_⟩
      exact q H2 r2 g3 (by omega) (B1.trans B2) (D2.mono (by omega))
    · refine ⟨_, rfl, rfl, _, rfl, ite2 (fun e2 => ?_) (fun e2 => ?_)⟩
      · refine ⟨_, rfl, dk, l2, a, ns, c + 1, 1000, rfl, D1, by decide, by decide, by omega, fun H2 r2 g3 g4 B2 D2 => ?_⟩
        refine ⟨_, _, rfl, rfl, .inl ⟨by omega, by omega⟩, _, rfl, dk, l2, a, ns, c + 1 + 1, 1000, rfl, D2, by decide, by decide, by omega, fun H3 r3 g5 g6 B3 D3 => ?_⟩
        exact ⟨_, _, rfl, rfl, q H3 _ (by omega) (by omega) (B1.trans (B2.trans B3)) (D3.mono (by omega))⟩
      · refine ⟨_, rfl, dk, l2, a, ns, c + 1, 3, rfl, D1, by decide, by decide, by omega, fun H2 r2 g3 g4 B2 D2 => ?_⟩
        exact ⟨_, _, rfl, rfl, q H2 _ (by omega) (by omega) (B1.trans B2) (D2.mono (by omega))⟩
theorem sc_fraction : FnScope ["_law_deck_here", "_law_top"] ["_law_deck_here"] (defScope s_L_fraction) := ⟨rfl, rfl, rfl, by decide +kernel, rfl, by decide +kernel, by decide +kernel⟩
theorem ok_L_fraction {f : Addr} {fd : FuncData} (F : FnP K "_law_fraction" s_L_fraction f fd) (mm : mg "max" = none) (CT : Cal P w K mg base 3 "_law_take" ["_law_deck_here", "_law_many"] (spTake K)) (CF : Cal P w K mg base 4 "_law_figures" ["_law_deck_here"] (spFigures K))
    (CS : Cal P w K mg base 2 "_law_share" ["_law_top", "_law_bottom"] (spFrac K)) : FnOk P w K mg base CX0 5 f fd ["_law_deck_here"] (spFraction K) := by
  refine fn_ok F sc_fraction (fun vs H Q E h => ?_) (fun cdv A outer s H vs Q E hr h => ?_)
  · obtain ⟨dk, l2, a, ns, c, rfl, _⟩ := h
    rfl
  · obtain ⟨dk, l2, a, ns, c, rfl, D, hc, q⟩ := h
    refine ⟨_, pss_cons (ps_set (i := 1) sc_fraction.nd rfl (.inl rfl) (pe_op op_mul (pe_cal CF hr (by decide) (by rfl) (pa_cons (pv 0) pa_nil)) (pe_op op_sub pe_int (pe_op op_mul pe_int (pe_cal CT hr (by decide) (by rfl) (pa_cons (pv 0) (pa_cons pe_int pa_nil)))))))
      (pss_one (ps_ret (pe_cal CS hr (by decide) (by rfl) (pa_cons (pv 1) (pa_cons (pe_callB (call_max2 rfl) (by rfl) mm (by decide +kernel) (pa_cons pe_int (pa_cons
        (pe_ix ix_list (pe_lst (pa_cons pe_int (pa_cons (pe_cal CF hr (by decide) (by rfl) (pa_cons (pv 0) pa_nil)) pa_nil))) (pe_cal CT hr (by decide) (by rfl) (pa_cons (pv 0) (pa_cons pe_int pa_nil))) (fun _ _ => rfl)) pa_nil))) pa_nil))))), ?_⟩
    refine ⟨_, rfl, dk, l2, a, ns, c, rfl, D, by omega, fun H1 r1 g1 g2 B1 D1 => ?_⟩
    refine ⟨_, rfl, dk, l2, a, ns, c + 3, 2, rfl, D1, by decide, by decide, by omega, fun H2 r2 g3 g4 B2 D2 => ?_⟩
    refine ⟨_, _, rfl, rfl, .inl (by decide), _, _, rfl, rfl, _, _, rfl, rfl, .inl ⟨by omega, by omega⟩, ?_⟩
    have ht : (r1 * (1 - 2 * r2)).natAbs < 2 ^ 20 := by
      have : r2 = 0 ∨ r2 = 1 := by omega
      rcases this with rfl | rfl <;> omega
    refine ⟨_, rfl, _, rfl, dk, l2, a, ns, c + 3 + 1, rfl, D2, by omega, fun H3 r3 g5 g6 B3 D3 => ?_⟩
    refine ⟨(by show 2 ≤ sizeLine; decide), fun p hp => ?_⟩
    have s4 : Same H3 (upd H3 p (.lst [.int 1, .int r3])) := same_new hp
    refine ⟨_, rfl, dk, l2, a, ns, c + 3 + 1 + 3, 2, rfl, D3.same s4, by decide, by decide, by omega, fun H5 r5 g7 g8 B5 D5 => ?_⟩
    have ep : H5 p = some (.lst [.int 1, .int r3]) := B5 _ _ upd_same (D3.free1 hp) (D3.free2 hp)
    have BB : But dk l2 H H5 := B1.trans (B2.trans (B3.trans ((But.of_same s4).trans B5)))
    have fin : ∀ j : Int, 0 ≤ j → j ≤ 999999 → spFrac K [.int (r1 * (1 - 2 * r2)), .int (if j > 1 then j else 1)] H5 Q E0 := fun j j1 j2 => by
      refine ⟨_, _, 20, rfl, ?_, ht, ?_, by decide, by decide, fun H6 z s6 f6 => q H6 z _ (BB.trans (But.of_same s6)) ((D5.same s6).mono (by omega)) f6⟩
      · split <;> omega
      · split <;> omega
    have hr5 : r5 = 0 ∨ r5 = 1 := by omega
    rcases hr5 with rfl | rfl
    · exact ⟨p, _, 0, .int 1, rfl, rfl, .of ep, rfl, 1, 1, rfl, fin 1 (by decide) (by decide)⟩
    · exact ⟨p, _, 1, .int r3, rfl, rfl, .of ep, rfl, 1, r3, rfl, fin r3 g5 g6⟩
theorem sc_roots : FnScope ["_law_a", "_law_b", "_law_c", "_law_inner", "_law_middle", "_law_part"] ["_law_a", "_law_b", "_law_c"] (defScope s_L_roots) := ⟨rfl, rfl, rfl, by decide +kernel, rfl, by decide +kernel, by decide +kernel⟩
theorem ok_L_roots {f : Addr} {fd : FuncData} (F : FnP K "_law_roots" s_L_roots f fd) (CM : Cal P w K mg base 3 "minus" ["one", "other"] (spMinus K)) (CT : Cal P w K mg base 3 "times" ["one", "other"] (spTimes K)) (CO : Cal P w K mg base 3 "over" ["one", "other"] (spOver K)) :
    FnOk P w K mg base CX0 4 f fd ["_law_a", "_law_b", "_law_c"] (spRoots K) := by
  refine fn_ok F sc_roots (fun vs H Q E h => ?_) (fun cdv A outer s H vs Q E hr h => ?_)
  · obtain ⟨va, vb, vc, a, b, c, rfl, _⟩ := h
    rfl
  · obtain ⟨va, vb, vc, a, b, c, rfl, fa, fb, fc, ha, q⟩ := h
    refine ⟨_, pss_cons (ps_set (i := 3) sc_roots.nd rfl (.inl rfl) (pe_cal CM hr (by decide) (by rfl) (pa_cons (pe_cal CT hr (by decide) (by rfl) (pa_cons (pv 1) (pa_cons (pv 1) pa_nil))) (pa_cons (pe_cal CT hr (by decide) (by rfl) (pa_cons (pv 0) (pa_cons (pv 2) pa_nil))) pa_nil))))
      (pss_cons (ps_set (i := 4) sc_roots.nd rfl (.inl rfl) (pe_cal CO hr (by decide) (by rfl) (pa_cons (pe_cal CM hr (by decide) (by rfl) (pa_cons (pe_tup (pa_cons pe_int (pa_cons pe_int pa_nil))) (pa_cons (pv 1) pa_nil))) (pa_cons (pv 0) pa_nil))))
      (pss_cons (ps_set (i := 5) sc_roots.nd rfl (.inl rfl) (pe_cal CO hr (by decide) (by rfl) (pa_cons (pe_tup (pa_cons pe_int (pa_cons pe_int pa_nil))) (pa_cons (pv 0) pa_nil))))
      (pss_one (ps_ret (pe_lst (pa_cons (pe_tup (pa_cons (pv 4) (pa_cons (pe_tup (pa_cons (pe_un un_neg (pe_ix ix_tup (pv 5) pe_int (fun _ _ => rfl))) (pa_cons (pe_ix ix_tup (pv 5) pe_int (fun _ _ => rfl)) pa_nil))) (pa_cons (pv 3) pa_nil))))
        (pa_cons (pe_tup (pa_cons (pv 4) (pa_cons (pv 5) (pa_cons (pv 3) pa_nil)))) (pa_cons (pv 3) pa_nil)))))))), ?_⟩
    -- inner
    refine ⟨_, rfl, _, rfl, _, _, 60, 60, b, b, rfl, fb, fb, by decide, fun H1 z1 s1 f1 => ?_⟩
    refine ⟨_, rfl, _, rfl, _, _, 10, 60, a, c, rfl, fa.same s1, fc.same s1, by decide, fun H2 z2 s2 f2 => ?_⟩
    refine ⟨_, _, _, _, _, _, rfl, f1.same s2, f2, by decide, fun H3 vd s3 f3 => ?_⟩
    have t3 := s1.trans (s2.trans s3)
    -- middle
    refine ⟨(by show 2 ≤ sizeLine; decide), fun p4 hp4 => ?_⟩
    have s4 : Same H3 (upd H3 p4 (.tup [.int 0, .int 1])) := same_new hp4
    have t4 := t3.trans s4
    refine ⟨_, rfl, _, _, 1, 60, 0, b, rfl, fq_lit 1 0 hp4 (by decide) (by decide) (by decide), fb.same t4, by decide, fun H5 z5 s5 f5 => ?_⟩
    have t5 := t4.trans s5
    refine ⟨_, rfl, _, _, _, 10, _, a, rfl, f5, fa.same t5, ha, by decide, fun H6 vm s6 f6 => ?_⟩
    have t6 := t5.trans s6
    -- part
    refine ⟨(by show 2 ≤ sizeLine; decide), fun p7 hp7 => ?_⟩
    have s7 : Same H6 (upd H6 p7 (.tup [.int 1, .int 1])) := same_new hp7
    have t7 := t6.trans s7
    refine ⟨_, rfl, _, _, 1, 10, 1, a, rfl, fq_lit 1 1 hp7 (by decide) (by decide) (by decide), fa.same t7, ha, by decide, fun H8 vp s8 f8 => ?_⟩
    have t8 := t7.trans s8
    obtain ⟨pp, pa, pb, rfl, tp, lp, np1, np2, np3, ep⟩ := id f8
    -- the list
    refine ⟨_, rfl, _, rfl, pp, _, 0, _, rfl, rfl, tp, rfl, _, rfl, _, rfl, pp, _, 1, _, rfl, rfl, tp, rfl, (by show 2 ≤ sizeLine; decide), fun p9 hp9 => ?_⟩
    have s9 : Same H8 (upd H8 p9 (.tup [.int (-pa), .int pb])) := same_new hp9
    have f9 : Fq K 11 (-(1 / a)) (.ref p9) (upd H8 p9 (.tup [.int (-pa), .int pb])) := by
      have z := Fq.new (K := K) (n := 11) (a := -pa) (b := pb) hp9 lp (by rw [Int.natAbs_neg]; exact np1) np2 (by decide)
      rw [qv_neg, ep] at z
      exact z
    refine ⟨_, rfl, (by show 3 ≤ sizeLine; decide), fun pa' hpa => ?_⟩
    have sa := same_new (o := .tup [vm, .ref p9, vd]) hpa
    refine ⟨_, rfl, _, rfl, _, rfl, (by show 3 ≤ sizeLine; decide), fun pb' hpb => ?_⟩
    have sb := same_new (o := .tup [vm, .ref pp, vd]) hpb
    refine ⟨_, rfl, (by show 3 ≤ sizeLine; decide), fun pl hpl => ?_⟩
    have sl := same_new (o := .lst [.ref pa', .ref pb', vd]) hpl
    have u9 := s9.trans (sa.trans (sb.trans sl))
    have u6 := s7.trans (s8.trans u9)
    have u3 := s4.trans (s5.trans (s6.trans u6))
    refine q _ pl _ (Same.free (t8.trans (s9.trans (sa.trans sb))) hpl) (t8.trans u9) upd_same ⟨.ref pa', .ref pb', vd, rfl, ?_, ?_, ?_⟩
    · exact ⟨pa', vm, .ref p9, vd, rfl, seqT (sb.trans sl) (.of upd_same), (f6.same u6).mono (by decide), (f9.same (sa.trans (sb.trans sl))).mono (by decide), (f3.same u3).mono (by decide)⟩
    · exact ⟨pb', vm, .ref pp, vd, rfl, seqT sl (.of upd_same), (f6.same u6).mono (by decide), (f8.same u9).mono (by decide), (f3.same u3).mono (by decide)⟩
    · exact (f3.same u3).mono (by decide)
theorem sc_at : FnScope ["_law_a", "_law_b", "_law_c", "_law_t"] ["_law_a", "_law_b", "_law_c", "_law_t"] (defScope s_L_at) := ⟨rfl, rfl, rfl, by decide +kernel, rfl, by decide +kernel, by decide +kernel⟩
theorem ok_L_at {f : Addr} {fd : FuncData} (F : FnP K "_law_at" s_L_at f fd) (CP : Cal P w K mg base 3 "plus" ["one", "other"] (spPlus K)) (CT : Cal P w K mg base 3 "times" ["one", "other"] (spTimes K)) :
    FnOk P w K mg base CX0 4 f fd ["_law_a", "_law_b", "_law_c", "_law_t"] (spAt K) := by
  refine fn_ok F sc_at (fun vs H Q E h => ?_) (fun cdv A outer s H vs Q E hr h => ?_)
  · obtain ⟨va, vb, vc, vt, a, b, c, t, rfl, _⟩ := h
    rfl
  · obtain ⟨va, vb, vc, vt, a, b, c, t, rfl, fa, fb, fc, ft, q⟩ := h
    refine ⟨_, pss_one (ps_ret (pe_cal CP hr (by decide) (by rfl) (pa_cons (pe_cal CT hr (by decide) (by rfl) (pa_cons (pe_cal CP hr (by decide) (by rfl) (pa_cons (pe_cal CT hr (by decide) (by rfl) (pa_cons (pv 0) (pa_cons (pv 3) pa_nil)))
      (pa_cons (pe_cal CT hr (by decide) (by rfl) (pa_cons (pe_tup (pa_cons pe_int (pa_cons pe_int pa_nil))) (pa_cons (pv 1) pa_nil))) pa_nil))) (pa_cons (pv 3) pa_nil))) (pa_cons (pv 2) pa_nil)))), ?_⟩
    refine ⟨_, rfl, _, rfl, _, _, 10, 99, a, t, rfl, fa, ft, by decide, fun H1 z1 s1 f1 => ?_⟩
    refine ⟨(by show 2 ≤ sizeLine; decide), fun p2 hp2 => ?_⟩
    have s2 : Same H1 (upd H1 p2 (.tup [.int 2, .int 1])) := same_new hp2
    have t2 := s1.trans s2
    refine ⟨_, rfl, _, _, 2, 60, 2, b, rfl, fq_lit 2 2 hp2 (by decide) (by decide) (by decide), fb.same t2, by decide, fun H3 z3 s3 f3 => ?_⟩
    have t3 := t2.trans s3
    refine ⟨_, _, _, _, _, _, rfl, f1.same (s2.trans s3), f3, by decide, fun H4 z4 s4 f4 => ?_⟩
    have t4 := t3.trans s4
    refine ⟨_, rfl, _, _, _, 99, _, t, rfl, f4, ft.same t4, by decide, fun H5 z5 s5 f5 => ?_⟩
    have t5 := t4.trans s5
    refine ⟨_, rfl, _, _, _, 60, _, c, rfl, f5, fc.same t5, by decide, fun H6 z6 s6 f6 => ?_⟩
    exact q H6 z6 (t5.trans s6) (f6.mono (by decide))
end
end K8

set_option Elab.async false
set_option linter.all false
set_option maxRecDepth 100000
set_option maxHeartbeats 4000000
/-! _law_forms, _law_side_right. -/
namespace K8
open PySem PySem.Spec PyProof.Rows L2
/-- a form's three fractions -/
def FormAt (K : PySem.W.Frag) (a b c : Rat) (v : V) (H : Hp) : Prop := ∃ (f : Addr) (va vb vc : V), v = .ref f ∧ SqT K H f [va, vb, vc] ∧ Fq K 5 a va H ∧ Fq K 48 b vb H ∧ Fq K 48 c vc H
theorem FormAt.same {K : PySem.W.Frag} {a b c : Rat} {v : V} {H H' : Hp} (h : FormAt K a b c v H) (s : Same H H') : FormAt K a b c v H' := by
  obtain ⟨f, va, vb, vc, e, t, fa, fb, fc⟩ := h
  exact ⟨f, va, vb, vc, e, seqT s t, fa.same s, fb.same s, fc.same s⟩
/-- fractions all -/
def AllF (K : PySem.W.Frag) (es : List V) (H : Hp) : Prop := ∀ v ∈ es, ∃ x, Fq K 99 x v H
theorem AllF.same {K : PySem.W.Frag} {es : List V} {H H' : Hp} (h : AllF K es H) (s : Same H H') : AllF K es H' := fun v hv => by
  obtain ⟨x, f⟩ := h v hv
  exact ⟨x, f.same s⟩
def spForms (K : PySem.W.Frag) : Sp := fun vs H Q _ => ∃ (dk l2 a : Addr) (ns : List Int) (c : Nat), vs = [.ref dk] ∧ Deck K dk l2 a ns c H ∧ c ≤ 70000 ∧
  ∀ (H' : Hp) (p e : Addr) (zf : V) (es : List V) (ra rb rc : Rat), But dk l2 H H' → Deck K dk l2 a ns (c + 19) H' → SqT K H' p [zf, .ref e] → FormAt K ra rb rc zf H' → 0 < ra → H' e = some (.lst es) → e ≠ dk → e ≠ l2 →
    es.length ≤ 2 → AllF K es H' → Q (.ref p) H'
def spSide (K : PySem.W.Frag) : Sp := fun vs H Q _ => ∃ (zf vt : V) (p : Addr) (rs : List V) (a b c t : Rat), vs = [zf, .ref p, vt] ∧ FormAt K a b c zf H ∧ H p = some (.lst rs) ∧ RootsAt K a b c rs H ∧ 0 < a ∧ 0 < inner a b c ∧ Fq K 99 t vt H ∧
  ∀ H', Same H H' → Q (.bl true) H'
section
variable {P : Program} {w : World} {K : PySem.W.Frag} {mg : Str → Option Value} {base : Heap}
theorem fq_half {H : Hp} {p : Addr} (h : H p = none) : Fq K 2 (qv (-1) 2) (.ref p) (upd H p (.tup [.int (-1), .int 2])) := Fq.new h (by decide) (by decide) (by decide) (by decide)
theorem sc_forms : FnScope ["_law_deck_here", "_law_a", "_law_one", "_law_other", "_law_b"] ["_law_deck_here"] (defScope s_L_forms) := ⟨rfl, rfl, rfl, by decide +kernel, rfl, by decide +kernel, by decide +kernel⟩
theorem ok_L_forms {f : Addr} {fd : FuncData} (F : FnP K "_law_forms" s_L_forms f fd) (CT : Cal P w K mg base 3 "_law_take" ["_law_deck_here", "_law_many"] (spTake K)) (CF : Cal P w K mg base 5 "_law_fraction" ["_law_deck_here"] (spFraction K))
    (CS : Cal P w K mg base 2 "_law_share" ["_law_top", "_law_bottom"] (spFrac K)) (CP : Cal P w K mg base 3 "_law_plus" ["_law_one", "_law_other"] (spPlus K)) (CX : Cal P w K mg base 3 "_law_times" ["_law_one", "_law_other"] (spTimes K)) :
    FnOk P w K mg base CX0 6 f fd ["_law_deck_here"] (spForms K) := by
  refine fn_ok F sc_forms (fun vs H Q E h => ?_) (fun cdv A outer s H vs Q E hr h => ?_)
  · obtain ⟨dk, l2, a, ns, c, rfl, _⟩ := h
    rfl
  · obtain ⟨dk, l2, a, ns, c, rfl, D, hc, q⟩ := h
    refine ⟨_, pss_cons (ps_set (i := 1) sc_forms.nd rfl (.inl rfl) (pe_cal CS hr (by decide) (by rfl) (pa_cons (pe_op op_add pe_int (pe_cal CT hr (by decide) (by rfl) (pa_cons (pv 0) (pa_cons pe_int pa_nil)))) (pa_cons (pe_op op_add pe_int (pe_cal CT hr (by decide) (by rfl) (pa_cons (pv 0) (pa_cons pe_int pa_nil)))) pa_nil))))
      (pss_cons (ps_set (i := 2) sc_forms.nd rfl (.inl rfl) (pe_cal CF hr (by decide) (by rfl) (pa_cons (pv 0) pa_nil)))
      (pss_cons (ps_set (i := 3) sc_forms.nd rfl (.inl rfl) (pe_cal CF hr (by decide) (by rfl) (pa_cons (pv 0) pa_nil)))
      (pss_cons (ps_if (pt_cmpR op_eq (pe_cal CT hr (by decide) (by rfl) (pa_cons (pv 0) (pa_cons pe_int pa_nil))) pe_int (nomark _))
        (pss_cons (ps_set (i := 4) sc_forms.nd rfl (.inl rfl) (pe_cal CX hr (by decide) (by rfl) (pa_cons (pe_cal CX hr (by decide) (by rfl) (pa_cons (pv 1) (pa_cons (pe_tup (pa_cons (pe_un un_neg pe_int) (pa_cons pe_int pa_nil))) pa_nil))) (pa_cons (pe_cal CP hr (by decide) (by rfl) (pa_cons (pv 2) (pa_cons (pv 3) pa_nil))) pa_nil))))
        (pss_one (ps_ret (pe_tup (pa_cons (pe_tup (pa_cons (pv 1) (pa_cons (pv 4) (pa_cons (pe_cal CX hr (by decide) (by rfl) (pa_cons (pv 1) (pa_cons (pe_cal CX hr (by decide) (by rfl) (pa_cons (pv 2) (pa_cons (pv 3) pa_nil))) pa_nil))) pa_nil))))
          (pa_cons (pe_lst (pa_cons (pv 2) (pa_cons (pv 3) pa_nil))) pa_nil)))))) pss_nil)
      (pss_one (ps_ret (pe_tup (pa_cons (pe_tup (pa_cons (pv 1) (pa_cons (pv 2) (pa_cons (pv 3) pa_nil)))) (pa_cons (pe_lst pa_nil) pa_nil)))))))), ?_⟩
    -- a
    refine ⟨_, rfl, dk, l2, a, ns, c, 30, rfl, D, by decide, by decide, by omega, fun H1 r1 g1 g2 B1 D1 => ?_⟩
    refine ⟨_, _, rfl, rfl, _, rfl, dk, l2, a, ns, c + 1, 30, rfl, D1, by decide, by decide, by omega, fun H2 r2 g3 g4 B2 D2 => ?_⟩
    refine ⟨_, _, rfl, rfl, _, _, 5, rfl, by omega, by omega, by omega, by decide, by decide, fun H3 va s3 fa => ?_⟩
    have D3 := D2.same s3
    have B3 : But dk l2 H H3 := B1.trans (B2.trans (But.of_same s3))
    have ha : 0 < qv (1 + r1) (1 + r2) := qv_pos (by omega) (by omega)
    -- one, other
    refine ⟨_, rfl, dk, l2, a, ns, c + 1 + 1, rfl, D3, by omega, fun H4 v1 x1 B4 D4 f1 => ?_⟩
    have fa4 := D3.fq B4 fa
    refine ⟨_, rfl, dk, l2, a, ns, c + 1 + 1 + 8, rfl, D4, by omega, fun H5 v2 x2 B5 D5 f2 => ?_⟩
    have fa5 := D4.fq B5 fa4
    have f15 := D4.fq B5 f1
    -- drawn, or of two roots
    refine ⟨_, rfl, dk, l2, a, ns, c + 1 + 1 + 8 + 8, 3, rfl, D5, by decide, by decide, by omega, fun H6 r6 g5 g6 B6 D6 => ?_⟩
    have fa6 := D5.fq B6 fa5
    have f16 := D5.fq B6 f15
    have f26 := D5.fq B6 f2
    have BB : But dk l2 H H6 := B3.trans (B4.trans (B5.trans B6))
    refine ⟨rfl, _, rfl, ite2 (fun e => ?_) (fun e => ?_)⟩
    · refine ⟨_, rfl, 1, rfl, (by show 2 ≤ sizeLine; decide), fun ph hph => ?_⟩
      have s7 : Same H6 (upd H6 ph (.tup [.int (-1), .int 2])) := same_new hph
      refine ⟨_, _, 5, 2, _, _, rfl, fa6.same s7, fq_half hph, by decide, fun H8 z8 s8 f8 => ?_⟩
      have t8 := s7.trans s8
      refine ⟨_, rfl, _, rfl, _, _, 20, 20, x1, x2, rfl, f16.same t8, f26.same t8, by decide, fun H9 z9 s9 f9 => ?_⟩
      refine ⟨_, _, _, _, _, _, rfl, f8.same s9, f9, by decide, fun Ha vb sa fb => ?_⟩
      have ta := t8.trans (s9.trans sa)
      refine ⟨_, rfl, _, rfl, _, rfl, _, rfl, _, rfl, _, _, 20, 20, x1, x2, rfl, f16.same ta, f26.same ta, by decide, fun Hb z sb f' => ?_⟩
      have tb := ta.trans sb
      refine ⟨_, _, 5, _, _, _, rfl, fa6.same tb, f', by decide, fun Hc vc sc fc => ?_⟩
      have tc := tb.trans sc
      refine ⟨(by show 3 ≤ sizeLine; decide), fun pf hpf => ?_⟩
      have sd := same_new (o := .tup [va, vb, vc]) hpf
      refine ⟨_, rfl, _, rfl, (by show 2 ≤ sizeLine; decide), fun pe hpe => ?_⟩
      have se := same_new (o := .lst [v1, v2]) hpe
      refine ⟨(by show 2 ≤ sizeLine; decide), fun pp hpp => ?_⟩
      have sf := same_new (o := .tup [.ref pf, .ref pe]) hpp
      have td := tc.trans sd
      have te := td.trans se
      have tf := te.trans sf
      have Dd := D6.same td
      refine q _ pp pe (.ref pf) [v1, v2] _ _ _ (BB.trans (But.of_same tf)) ((D6.same tf).mono (by omega)) (.of upd_same) ⟨pf, va, vb, vc, rfl, seqT (se.trans sf) (.of upd_same), fa6.same tf, (fb.same (sb.trans (sc.trans (sd.trans (se.trans sf))))).mono (by decide), (fc.same (sd.trans (se.trans sf))).mono (by decide)⟩ ha
        (sf _ _ upd_same) (Dd.free1 hpe) (Dd.free2 hpe) (Nat.le_refl _) ?_
      intro v hv
      rcases List.mem_cons.mp hv with rfl | hv
      · exact ⟨x1, (f16.same tf).mono (by decide)⟩
      · rcases List.mem_cons.mp hv with rfl | hv
        · exact ⟨x2, (f26.same tf).mono (by decide)⟩
        · cases hv
    · refine ⟨_, rfl, _, rfl, _, rfl, (by show 3 ≤ sizeLine; decide), fun pf hpf => ?_⟩
      have sd := same_new (o := .tup [va, v1, v2]) hpf
      refine ⟨Nat.zero_le _, fun pe hpe => ?_⟩
      have se := same_new (o := .lst []) hpe
      refine ⟨(by show 2 ≤ sizeLine; decide), fun pp hpp => ?_⟩
      have sf := same_new (o := .tup [.ref pf, .ref pe]) hpp
      have te := sd.trans se
      have tf := te.trans sf
      have Dd := D6.same sd
      refine q _ pp pe (.ref pf) [] _ _ _ (BB.trans (But.of_same tf)) ((D6.same tf).mono (by omega)) (.of upd_same) ⟨pf, va, v1, v2, rfl, seqT (se.trans sf) (.of upd_same), fa6.same tf, (f16.same tf).mono (by decide), (f26.same tf).mono (by decide)⟩ ha
        (sf _ _ upd_same) (Dd.free1 hpe) (Dd.free2 hpe) (by decide) ?_
      intro v hv
      cases hv
end
end K8

set_option Elab.async false
set_option linter.all false
set_option maxRecDepth 100000
set_option maxHeartbeats 4000000
/-! _law_side_right. -/
namespace K8
open PySem PySem.Spec PyProof.Rows L2
theorem shaped2 (i j : Int) : SeqAt.shaped (.tuple [.int i, .int j]) = true := by
  first
    | rfl
    | simp [SeqAt.shaped, PyData.canLay0, PyData.depth]
theorem eqv2 {i j i' j' : Int} (h1 : i = i') (h2 : j = j') : PyData.eqv (.tuple [.int i, .int j]) (.tuple [.int i', .int j']) = true := by
  subst h1 h2
  simp [PyData.eqv, PyData.eqvAll]
theorem dp2 {K : PySem.W.Frag} {H : Hp} {p : Addr} {i j : Int} (h : SqT K H p [.int i, .int j]) : Dp K H (.ref p) (.tuple [.int i, .int j]) := .tup h (.cons (.int i) (.cons (.int j) .nil))
section
variable {P : Program} {w : World} {K : PySem.W.Frag} {mg : Str → Option Value} {base : Heap}
theorem sc_side : FnScope ["_law_forms_here", "_law_roots_here", "_law_t", "_law_a", "_law_b", "_law_c", "_law_here", "_law_number", "_law_first", "_law_second", "_law_side"] ["_law_forms_here", "_law_roots_here", "_law_t"] (defScope s_L_side_right) :=
  ⟨rfl, rfl, rfl, by decide +kernel, rfl, by decide +kernel, by decide +kernel⟩
theorem ok_L_side_right {f : Addr} {fd : FuncData} (F : FnP K "_law_side_right" s_L_side_right f fd) (mi : mg "int" = none) (CS : Cal P w K mg base 1 "sign" ["one"] (spSign K)) (CA : Cal P w K mg base 4 "_law_at" ["_law_a", "_law_b", "_law_c", "_law_t"] (spAt K))
    (CC : Cal P w K mg base 7 "compare" ["one", "other"] (spCompare K)) (CM : Cal P w K mg base 3 "minus" ["one", "other"] (spMinus K)) : FnOk P w K mg base CX0 8 f fd ["_law_forms_here", "_law_roots_here", "_law_t"] (spSide K) := by
  refine fn_ok F sc_side (fun vs H Q E h => ?_) (fun cdv A outer s H vs Q E hr h => ?_)
  · obtain ⟨zf, vt, p, rs, a, b, c, t, rfl, _⟩ := h
    rfl
  · obtain ⟨zf, vt, pr, rs, a, b, c, t, rfl, ⟨pf, va, vb, vc, rfl, tf, fa, fb, fc⟩, er, ⟨v0, v1, vd, rfl, hr0, hr1, fd⟩, ha, hd, ft, q⟩ := h
    refine ⟨_, pss_cons (ps_asg (pv 0) (pg_tup rfl (pgs_cons (pg_name (i := 3) sc_side.nd rfl (.inl rfl)) (pgs_cons (pg_name (i := 4) sc_side.nd rfl (.inl rfl)) (pgs_cons (pg_name (i := 5) sc_side.nd rfl (.inl rfl)) pgs_nil)))))
      (pss_cons (ps_set (i := 6) sc_side.nd rfl (.inl rfl) (pe_cal CS hr (by decide) (by rfl) (pa_cons (pe_cal CA hr (by decide) (by rfl) (pa_cons (pv 3) (pa_cons (pv 4) (pa_cons (pv 5) (pa_cons (pv 2) pa_nil))))) pa_nil)))
      (pss_cons (ps_set (i := 7) sc_side.nd rfl (.inl rfl) (pe_tup (pa_cons (pv 2) (pa_cons (pe_tup (pa_cons pe_int (pa_cons pe_int pa_nil))) (pa_cons (pe_tup (pa_cons pe_int (pa_cons pe_int pa_nil))) pa_nil)))))
      (pss_cons (ps_set (i := 8) sc_side.nd rfl (.inl rfl) (pe_cal CC hr (by decide) (by rfl) (pa_cons (pv 7) (pa_cons (pe_ix ix_list (pv 1) pe_int (fun _ _ => rfl)) pa_nil))))
      (pss_cons (ps_set (i := 9) sc_side.nd rfl (.inl rfl) (pe_cal CC hr (by decide) (by rfl) (pa_cons (pv 7) (pa_cons (pe_ix ix_list (pv 1) pe_int (fun _ _ => rfl)) pa_nil))))
      (pss_cons (ps_if (pt_cmpR op_lt (pv 6) pe_int (nomark _))
        (pss_one (ps_ret (pe_cmpR (op_eqD hr.units) (pe_tup (pa_cons (pv 8) (pa_cons (pv 9) pa_nil))) (pe_tup (pa_cons pe_int (pa_cons (pe_un un_neg pe_int) pa_nil))) (nomark _)))) pss_nil)
      (pss_cons (ps_set (i := 10) sc_side.nd rfl (.inl rfl) (pe_cal CS hr (by decide) (by rfl) (pa_cons (pe_cal CM hr (by decide) (by rfl) (pa_cons (pv 2) (pa_cons (pe_ix ix_tup (pe_ix ix_list (pv 1) pe_int (fun _ _ => rfl)) pe_int (fun _ _ => rfl)) pa_nil))) pa_nil)))
      (pss_cons (ps_if (pt_cmpR op_eq (pv 6) pe_int (nomark _))
        (pss_one (ps_ret (pe_cmpR (op_eqD hr.units) (pe_tup (pa_cons (pv 8) (pa_cons (pv 9) pa_nil)))
          (pe_ix ix_list (pe_lst (pa_cons (pe_tup (pa_cons pe_int (pa_cons (pe_un un_neg pe_int) pa_nil))) (pa_cons (pe_tup (pa_cons pe_int (pa_cons pe_int pa_nil))) pa_nil)))
            (pe_callTy call_int1 (by rfl) mi (by decide +kernel) (pa_cons (pe_cmpR op_gt (pv 10) pe_int (nomark _)) pa_nil)) (fun _ _ => rfl)) (nomark _)))) pss_nil)
      (pss_one (ps_ret (pe_cmpR (op_eqD hr.units) (pe_tup (pa_cons (pv 8) (pa_cons (pv 9) pa_nil))) (pe_tup (pa_cons (pv 10) (pa_cons (pv 10) pa_nil))) (nomark _))))))))))), ?_⟩
    -- the form's three
    refine ⟨_, rfl, pf, [va, vb, vc], rfl, tf, rfl, va, [vb, vc], rfl, vb, [vc], rfl, vc, [], rfl, ⟨rfl, ?_⟩⟩
    -- the sum's sign
    refine ⟨_, rfl, _, rfl, _, rfl, _, rfl, _, _, _, _, a, b, c, t, rfl, fa.mono (by decide), fb.mono (by decide), fc.mono (by decide), ft, fun H1 z1 s1 f1 => ?_⟩
    refine ⟨_, _, _, rfl, f1, ?_⟩
    -- the number
    refine ⟨_, rfl, (by show 2 ≤ sizeLine; decide), fun p2 hp2 => ?_⟩
    have s2 : Same H1 (upd H1 p2 (.tup [.int 0, .int 1])) := same_new hp2
    refine ⟨(by show 2 ≤ sizeLine; decide), fun p3 hp3 => ?_⟩
    have s3 := same_new (o := .tup [.int 0, .int 1]) hp3
    refine ⟨(by show 3 ≤ sizeLine; decide), fun p4 hp4 => ?_⟩
    have s4 := same_new (o := .tup [vt, .ref p2, .ref p3]) hp4
    have t4 := s1.trans (s2.trans (s3.trans s4))
    have g2 := (fq_lit (K := K) 1 0 hp2 (by decide) (by decide) (by decide)).same (s3.trans s4)
    have g3 := (fq_lit (K := K) 1 0 hp3 (by decide) (by decide) (by decide)).same s4
    have number : RnAt K 99 ⟨t, 0, 0⟩ (.ref p4) _ := ⟨p4, vt, .ref p2, .ref p3, rfl, .of upd_same, ft.same t4, g2.mono (by decide), g3.mono (by decide)⟩
    -- both comparisons
    refine ⟨_, rfl, _, rfl, pr, _, 0, _, rfl, rfl, .of (t4 _ _ er), rfl, _, _, _, root0 a b c, rfl, number, (hr0.same t4).mono (by decide), fun H5 s5 => ?_⟩
    have t5 := t4.trans s5
    refine ⟨_, rfl, _, rfl, pr, _, 1, _, rfl, rfl, .of (t5 _ _ er), rfl, _, _, _, root1 a b c, rfl, number.same s5, (hr1.same t5).mono (by decide), fun H6 s6 => ?_⟩
    have t6 := t5.trans s6
    refine ⟨_, rfl, _, _, rfl, rfl, _, rfl, ite2 (fun e => ?_) (fun e => ?_)⟩
    · -- below nought
      obtain ⟨w1, w2⟩ := side_below ha hd (of_decide_eq_true e)
      refine ⟨_, rfl, _, rfl, (by show 2 ≤ sizeLine; decide), fun p7 hp7 => ?_⟩
      have s7 := same_new (o := .tup [.int (cmpR ⟨t, 0, 0⟩ (root0 a b c)), .int (cmpR ⟨t, 0, 0⟩ (root1 a b c))]) hp7
      refine ⟨1, rfl, (by show 2 ≤ sizeLine; decide), fun p8 hp8 => ?_⟩
      have s8 := same_new (o := .tup [.int 1, .int (-1)]) hp8
      refine ⟨_, _, dp2 (seqT s8 (.of upd_same)), dp2 (.of upd_same), shaped2 _ _, shaped2 _ _, ?_⟩
      rw [eqv2 w1 w2]
      exact q _ (t6.trans (s7.trans s8))
    · have hn : ¬ sg (formAt a b c t) < 0 := fun z => e (decide_eq_true z)
      obtain ⟨p0, u1, u2, u3, rfl, tr, m1, m2, m3⟩ := id hr0
      -- the side
      refine ⟨_, rfl, _, rfl, pr, _, 0, _, rfl, rfl, .of (t6 _ _ er), rfl, p0, _, 0, _, rfl, rfl, seqT t6 tr, rfl, _, _, 99, 72, t, mid a b, rfl, ft.same t6, m1.same t6, by decide, fun H7 z7 s7 f7 => ?_⟩
      have t7 := t6.trans s7
      refine ⟨_, _, _, rfl, f7, ?_⟩
      refine ⟨_, rfl, rfl, _, rfl, ite2 (fun e2 => ?_) (fun e2 => ?_)⟩
      · -- just nought
        have hz := deq e2
        refine ⟨_, rfl, _, rfl, (by show 2 ≤ sizeLine; decide), fun p8 hp8 => ?_⟩
        have s8 := same_new (o := .tup [.int (cmpR ⟨t, 0, 0⟩ (root0 a b c)), .int (cmpR ⟨t, 0, 0⟩ (root1 a b c))]) hp8
        refine ⟨1, rfl, (by show 2 ≤ sizeLine; decide), fun p9 hp9 => ?_⟩
        have s9 := same_new (o := .tup [.int 0, .int (-1)]) hp9
        refine ⟨(by show 2 ≤ sizeLine; decide), fun pa hpa => ?_⟩
        have sa := same_new (o := .tup [.int 1, .int 0]) hpa
        refine ⟨(by show 2 ≤ sizeLine; decide), fun pb hpb => ?_⟩
        have sb := same_new (o := .lst [.ref p9, .ref pa]) hpb
        refine ⟨_, rfl, _, _, rfl, rfl, .inr ⟨_, rfl, ?_⟩⟩
        by_cases hs : sg (t - mid a b) > 0
        · obtain ⟨w1, w2⟩ := side_zero_up ha hd hz hs
          refine ⟨pb, _, 1, .ref pa, rfl, ?_, .of upd_same, rfl, ?_⟩
          · rw [decide_eq_true hs]
            rfl
          refine ⟨_, _, dp2 (seqT (s9.trans (sa.trans sb)) (.of upd_same)), dp2 (seqT sb (.of upd_same)), shaped2 _ _, shaped2 _ _, ?_⟩
          rw [eqv2 w1 w2]
          exact q _ (t7.trans (s8.trans (s9.trans (sa.trans sb))))
        · obtain ⟨w1, w2⟩ := side_zero_down ha hd hz hs
          refine ⟨pb, _, 0, .ref p9, rfl, ?_, .of upd_same, rfl, ?_⟩
          · rw [decide_eq_false hs]
            rfl
          refine ⟨_, _, dp2 (seqT (s9.trans (sa.trans sb)) (.of upd_same)), dp2 (seqT (sa.trans sb) (.of upd_same)), shaped2 _ _, shaped2 _ _, ?_⟩
          rw [eqv2 w1 w2]
          exact q _ (t7.trans (s8.trans (s9.trans (sa.trans sb))))
      · -- beyond
        obtain ⟨w1, w2⟩ := side_above ha hd hn (dne e2)
        refine ⟨_, rfl, _, rfl, (by show 2 ≤ sizeLine; decide), fun p8 hp8 => ?_⟩
        have s8 := same_new (o := .tup [.int (cmpR ⟨t, 0, 0⟩ (root0 a b c)), .int (cmpR ⟨t, 0, 0⟩ (root1 a b c))]) hp8
        refine ⟨_, rfl, _, rfl, (by show 2 ≤ sizeLine; decide), fun p9 hp9 => ?_⟩
        have s9 := same_new (o := .tup [.int (sg (t - mid a b)), .int (sg (t - mid a b))]) hp9
        refine ⟨_, _, dp2 (seqT s9 (.of upd_same)), dp2 (.of upd_same), shaped2 _ _, shaped2 _ _, ?_⟩
        have ww : PyData.eqv (.tuple [.int (cmpR ⟨t, 0, 0⟩ (root0 a b c)), .int (cmpR ⟨t, 0, 0⟩ (root1 a b c))]) (.tuple [.int (sg (t - mid a b)), .int (sg (t - mid a b))]) = true := eqv2 w1 w2
        show Q (.bl (PyData.eqv (.tuple [.int (cmpR ⟨t, 0, 0⟩ (root0 a b c)), .int (cmpR ⟨t, 0, 0⟩ (root1 a b c))]) (.tuple [.int (sg (t - mid a b)), .int (sg (t - mid a b))]))) _
        rw [ww]
        exact q _ (t7.trans (s8.trans s9))
end
end K8

set_option Elab.async false
set_option linter.all false
set_option maxRecDepth 100000
set_option maxHeartbeats 4000000
/-! law. -/
namespace K8
open PySem PySem.Spec PyProof.Rows L2
/-! ### what draws keep -/
section
variable {K : PySem.W.Frag} {dk l2 a p : Addr} {ns : List Int} {c : Nat} {H H' : Hp}
theorem Deck.rn (D : Deck K dk l2 a ns c H) (B : But dk l2 H H') {n : Nat} {x : Rn} {v : V} (h : RnAt K n x v H) : RnAt K n x v H' := by
  obtain ⟨p, u1, u2, u3, e, t, f1, f2, f3⟩ := h
  exact ⟨p, u1, u2, u3, e, D.tup B t, D.fq B f1, D.fq B f2, D.fq B f3⟩
theorem Deck.roots (D : Deck K dk l2 a ns c H) (B : But dk l2 H H') {x y z : Rat} {vs : List V} (h : RootsAt K x y z vs H) : RootsAt K x y z vs H' := by
  obtain ⟨v0, v1, vd, e, r0, r1, f⟩ := h
  exact ⟨v0, v1, vd, e, D.rn B r0, D.rn B r1, D.fq B f⟩
theorem Deck.form (D : Deck K dk l2 a ns c H) (B : But dk l2 H H') {x y z : Rat} {v : V} (h : FormAt K x y z v H) : FormAt K x y z v H' := by
  obtain ⟨f, va, vb, vc, e, t, fa, fb, fc⟩ := h
  exact ⟨f, va, vb, vc, e, D.tup B t, D.fq B fa, D.fq B fb, D.fq B fc⟩
theorem Deck.allF (D : Deck K dk l2 a ns c H) (B : But dk l2 H H') {es : List V} (h : AllF K es H) : AllF K es H' := fun v hv => by
  obtain ⟨x, f⟩ := h v hv
  exact ⟨x, D.fq B f⟩
theorem Deck.upd (D : Deck K dk l2 a ns c H) {xs : List V} {o : HO} (n1 : p ≠ dk) (n2 : p ≠ l2) (e : H p = some (.lst xs)) : Deck K dk l2 a ns c (upd H p o) := by
  obtain ⟨⟨i, k, e1, h1⟩, ⟨ms, e2⟩, z⟩ := D
  exact ⟨⟨i, k, by rw [upd_ne n1.symm]; exact e1, h1⟩, ⟨ms, by rw [upd_ne n2.symm]; exact e2⟩, z.upd e⟩
theorem Fq.updL {n : Nat} {x : Rat} {v : V} {xs : List V} {o : HO} (f : Fq K n x v H) (e : H p = some (.lst xs)) : Fq K n x v (upd H p o) := by
  obtain ⟨q, i, j, ev, t, r⟩ := f
  refine ⟨q, i, j, ev, ?_, r⟩
  rcases t with (t | ⟨u, t⟩) | t
  · exact .inl (.inl (by rw [upd_ne (ne_of t e (by intro z; cases z))]; exact t))
  · exact .inl (.inr ⟨u, by rw [upd_ne (ne_of t e (by intro z; cases z))]; exact t⟩)
  · exact .inr t
theorem AllF.updL {es xs : List V} {o : HO} (f : AllF K es H) (e : H p = some (.lst xs)) : AllF K es (upd H p o) := fun v hv => by
  obtain ⟨x, g⟩ := f v hv
  exact ⟨x, g.updL e⟩
theorem But.new {o : HO} (B : But dk l2 H H') (e : H p = none) : But dk l2 H (L2.upd H' p o) := fun b u z h1 h2 => by
  rw [upd_ne (ne_of_none z e)]
  exact B b u z h1 h2
theorem AllF.nil : AllF K [] H := fun v hv => by cases hv
theorem AllF.cons {x : Rat} {v : V} {es : List V} (f : Fq K 99 x v H) (h : AllF K es H) : AllF K (v :: es) H := fun u hu => by
  rcases List.mem_cons.mp hu with rfl | hu
  · exact ⟨x, f⟩
  · exact h u hu
theorem AllF.append {es fs : List V} (h : AllF K es H) (g : AllF K fs H) : AllF K (es ++ fs) H := fun u hu => by
  rcases List.mem_append.mp hu with hu | hu
  · exact h u hu
  · exact g u hu
end
theorem pos_of_sg {x : Rat} (h : 0 < sg x) : 0 < x := by
  rcases sg_tri x with ⟨z, _⟩ | ⟨_, e⟩ | ⟨_, e⟩
  · exact z
  · rw [e] at h
    exact absurd h (by decide)
  · rw [e] at h
    exact absurd h (by decide)
def spLaw (K : PySem.W.Frag) : Sp := fun vs H Q _ => ∃ (a : Addr) (ns : List Int), vs = [.ref a] ∧ Scr K H a ns ∧ ns.length ≤ 63 ∧ ∀ H', Q (.bl true) H'
abbrev Nlaw : List Str := ["_law_script", "_law_deck_here", "_law_turn", "_law_forms_here", "_law_ends", "_law_roots_here", "_law_size", "_law_some", "_law_other", "_law_half", "_law_k", "_law_t"]
section
variable {P : Program} {w : World} {K : PySem.W.Frag} {mg : Str → Option Value} {base : Heap}
theorem sc_law : FnScope Nlaw ["_law_script"] (defScope s_law) := ⟨rfl, rfl, rfl, by decide +kernel, rfl, by decide +kernel, by decide +kernel⟩
theorem shaped0 : SeqAt.shaped (.list []) = true := by
  first
    | rfl
    | simp [SeqAt.shaped, PyData.canLay0, PyData.depth]
theorem eqv0 : PyData.eqv (.list []) (.list []) = true := by simp [PyData.eqv, PyData.eqvAll]
theorem ok_law {f : Addr} {fd : FuncData} (F : FnP K "law" s_law f fd) (mr : mg "range" = none) (CD : Cal P w K mg base 1 "_law_deck" ["_law_script"] (spDeck K)) (CFo : Cal P w K mg base 6 "_law_forms" ["_law_deck_here"] (spForms K))
    (CR : Cal P w K mg base 4 "_law_roots" ["_law_a", "_law_b", "_law_c"] (spRoots K)) (CS : Cal P w K mg base 2 "_law_share" ["_law_top", "_law_bottom"] (spFrac K)) (CT : Cal P w K mg base 3 "_law_take" ["_law_deck_here", "_law_many"] (spTake K))
    (CF : Cal P w K mg base 5 "_law_fraction" ["_law_deck_here"] (spFraction K)) (CG : Cal P w K mg base 1 "sign" ["one"] (spSign K)) (CX : Cal P w K mg base 3 "times" ["one", "other"] (spTimes K)) (CC : Cal P w K mg base 7 "compare" ["one", "other"] (spCompare K))
    (CP : Cal P w K mg base 3 "plus" ["one", "other"] (spPlus K)) (CM : Cal P w K mg base 3 "minus" ["one", "other"] (spMinus K)) (CSd : Cal P w K mg base 8 "_law_side_right" ["_law_forms_here", "_law_roots_here", "_law_t"] (spSide K)) :
    FnOk P w K mg base CX0 9 f fd ["_law_script"] (spLaw K) := by
  refine fn_ok F sc_law (fun vs H Q E h => ?_) (fun cdv A outer s H vs Q E hr h => ?_)
  · obtain ⟨a, ns, rfl, _⟩ := h
    rfl
  · obtain ⟨a, ns, rfl, hS, hlen, q⟩ := h
    refine ⟨_, pss_cons (ps_set (i := 1) sc_law.nd rfl (.inr rfl) (pe_cal CD hr (by decide) (by rfl) (pa_cons (pv 0) pa_nil)))
      (pss_cons (ps_for PassesOwn.never rfl (pi_range1 (by rfl) mr (pa_cons pe_int pa_nil)) (pg_name (i := 2) sc_law.nd rfl (.inl rfl))
        (pss_cons (ps_asg (pe_cal CFo hr (by decide) (by rfl) (pa_cons (pv 1) pa_nil)) (pg_tup rfl (pgs_cons (pg_name (i := 3) sc_law.nd rfl (.inr rfl)) (pgs_cons (pg_name (i := 4) sc_law.nd rfl (.inl rfl)) pgs_nil))))
        (pss_cons (ps_set (i := 5) sc_law.nd rfl (.inr rfl) (pe_cal CR hr (by decide) (by rfl) (pa_cons (pe_ix ix_tup (pv 3) pe_int (fun _ _ => rfl)) (pa_cons (pe_ix ix_tup (pv 3) pe_int (fun _ _ => rfl)) (pa_cons (pe_ix ix_tup (pv 3) pe_int (fun _ _ => rfl)) pa_nil)))))
        (pss_cons (ps_set (i := 6) sc_law.nd rfl (.inl rfl) (pe_cal CS hr (by decide) (by rfl) (pa_cons (pe_op op_add pe_int (pe_cal CT hr (by decide) (by rfl) (pa_cons (pv 1) (pa_cons pe_int pa_nil)))) (pa_cons (pe_op op_add pe_int (pe_cal CT hr (by decide) (by rfl) (pa_cons (pv 1) (pa_cons pe_int pa_nil)))) pa_nil))))
        (pss_cons (ps_setLc (i := 7) (own := [("_law_k", 10)]) (g := gName 10) rfl sc_law.nd rfl rfl (sw_true rfl rfl rfl (by decide +kernel)) (pi_range1 (by rfl) mr (pa_cons pe_int pa_nil)) (blkOk_by (own := [("_law_k", 10)]) (N := Nlaw) (sc := defScope s_law) (by decide +kernel))
          (fun _ _ _ _ _ => pg_name (i := 10) sc_law.nd rfl (Or.inl rfl)) (fun _ _ _ _ _ => pts_nil) (fun _ _ _ _ _ => pe_cal CF hr (by decide) (by rfl) (pa_cons (pv 1) pa_nil)))
        (pss_one (ps_if (pt_cmpR op_gt (pe_cal CG hr (by decide) (by rfl) (pa_cons (pe_ix ix_list (pv 5) pe_int (fun _ _ => rfl)) pa_nil)) pe_int (nomark _))
          (pss_cons (ps_set (i := 8) sc_law.nd rfl (.inl rfl) (pe_cal CR hr (by decide) (by rfl) (pa_cons (pe_cal CX hr (by decide) (by rfl) (pa_cons (pe_ix ix_tup (pv 3) pe_int (fun _ _ => rfl)) (pa_cons (pv 6) pa_nil)))
            (pa_cons (pe_cal CX hr (by decide) (by rfl) (pa_cons (pe_ix ix_tup (pv 3) pe_int (fun _ _ => rfl)) (pa_cons (pv 6) pa_nil))) (pa_cons (pe_cal CX hr (by decide) (by rfl) (pa_cons (pe_ix ix_tup (pv 3) pe_int (fun _ _ => rfl)) (pa_cons (pv 6) pa_nil))) pa_nil)))))
          (pss_cons (ps_if (PW.pt (pw_or (pt_cmpR op_ne (pe_cal CC hr (by decide) (by rfl) (pa_cons (pe_ix ix_list (pv 5) pe_int (fun _ _ => rfl)) (pa_cons (pe_ix ix_list (pv 5) pe_int (fun _ _ => rfl)) pa_nil))) (pe_un un_neg pe_int) (nomark _))
            (pw_or1 (pt_cmpR op_ne (pe_cal CC hr (by decide) (by rfl) (pa_cons (pe_ix ix_list (pv 5) pe_int (fun _ _ => rfl)) (pa_cons (pe_ix ix_list (pv 8) pe_int (fun _ _ => rfl)) pa_nil))) pe_int (nomark _))))) pss_never pss_nil)
          (pss_cons (ps_if (pt_cmpR op_ne (pe_cal CC hr (by decide) (by rfl) (pa_cons (pe_ix ix_list (pv 5) pe_int (fun _ _ => rfl)) (pa_cons (pe_ix ix_list (pv 8) pe_int (fun _ _ => rfl)) pa_nil))) pe_int (nomark _)) pss_never pss_nil)
          (pss_cons (ps_set (i := 9) sc_law.nd rfl (.inl rfl) (pe_cal CS hr (by decide) (by rfl) (pa_cons pe_int (pa_cons (pe_op op_add pe_int (pe_cal CT hr (by decide) (by rfl) (pa_cons (pv 1) (pa_cons pe_int pa_nil)))) pa_nil))))
          (pss_cons (ps_set (i := 7) sc_law.nd rfl (.inl rfl) (pe_op op_cat (pe_op op_cat (pv 7) (pe_lst (pa_cons (pe_ix ix_tup (pe_ix ix_list (pv 5) pe_int (fun _ _ => rfl)) pe_int (fun _ _ => rfl))
            (pa_cons (pe_cal CP hr (by decide) (by rfl) (pa_cons (pe_ix ix_tup (pe_ix ix_list (pv 5) pe_int (fun _ _ => rfl)) pe_int (fun _ _ => rfl)) (pa_cons (pv 9) pa_nil)))
            (pa_cons (pe_cal CM hr (by decide) (by rfl) (pa_cons (pe_ix ix_tup (pe_ix ix_list (pv 5) pe_int (fun _ _ => rfl)) pe_int (fun _ _ => rfl)) (pa_cons (pv 9) pa_nil)))
            (pa_cons (pe_tup (pa_cons pe_int (pa_cons pe_int pa_nil))) pa_nil)))))) (pv 4)))
          (pss_one (ps_if (pt_cmpR (op_neD hr.units) (pe_lc (own := [("_law_t", 11)]) (g := gName 11) (by rfl) sc_law.nd (pi_list (pv 7)) (blkOk_by (own := [("_law_t", 11)]) (N := Nlaw) (sc := defScope s_law) (by decide +kernel))
              (fun _ _ _ _ _ => pg_name (i := 11) sc_law.nd rfl (Or.inl rfl)) (fun _ _ _ _ _ => pts_one (pt_not (pt_val (pe_cal CSd hr (by decide) (by rfl) (pa_cons (pv 3) (pa_cons (pv 5) (pa_cons (pv 11) pa_nil))))))) (fun _ _ _ _ _ => pv 11))
              (pe_lst pa_nil) (nomark _)) pss_never pss_nil)))))))
          pss_nil)))))))
      (pss_one (ps_ret pe_bl))), ?_⟩
    -- the deck
    refine ⟨_, rfl, a, ns, rfl, hS, hlen, fun H0 dk l2 D0 => ?_⟩
    refine ⟨4, rfl, by decide, by decide, for_range (lo := 0) (n := 4) (fun i σ H' => ∃ x2 x3 x4 x5 x6 x7 x8 x9 x10 x11 : Option V, σ = [some (.ref a), some (.ref dk), x2, x3, x4, x5, x6, x7, x8, x9, x10, x11] ∧ Deck K dk l2 a ns (100 * i) H')
      ⟨_, _, _, _, _, _, _, _, _, _, rfl, D0⟩ (fun i σ H1 hi hP => ?_) (fun σ H1 hP => q H1)⟩
    obtain ⟨x2, x3, x4, x5, x6, x7, x8, x9, x10, x11, rfl, D1⟩ := hP
    -- the form, the ends
    refine ⟨_, rfl, dk, l2, a, ns, _, rfl, D1, by omega, fun H2 pp pe zf es ra rb rc B2 D2 tp hf hra he ne1 ne2 hes hall => ⟨pp, [zf, .ref pe], rfl, tp, rfl, zf, [.ref pe], rfl, .ref pe, [], rfl, ⟨rfl, ?_⟩⟩⟩
    obtain ⟨pf, va, vb, vc, rfl, tf, fa, fb, fc⟩ := id hf
    -- the roots
    refine ⟨_, rfl, pf, _, 0, _, rfl, rfl, tf, rfl, _, rfl, pf, _, 1, _, rfl, rfl, tf, rfl, _, rfl, pf, _, 2, _, rfl, rfl, tf, rfl, va, vb, vc, ra, rb, rc, rfl, fa.mono (by decide), fb.mono (by decide), fc.mono (by decide), hra, fun H3 pr rs hpr s3 er hrs => ?_⟩
    have D3 := D2.same s3
    have hf3 := hf.same s3
    have he3 := s3 _ _ he
    have hall3 := hall.same s3
    have nr1 := D2.free1 hpr
    have nr2 := D2.free2 hpr
    -- the size
    refine ⟨_, rfl, dk, l2, a, ns, _, 20, rfl, D3, by decide, by decide, by omega, fun H4 r4 g1 g2 B4 D4 => ?_⟩
    refine ⟨_, _, rfl, rfl, _, rfl, dk, l2, a, ns, _, 20, rfl, D4, by decide, by decide, by omega, fun H5 r5 g3 g4 B5 D5 => ?_⟩
    refine ⟨_, _, rfl, rfl, _, _, 5, rfl, by omega, by omega, by omega, by decide, by decide, fun H6 vz s6 fz => ?_⟩
    have B36 : But dk l2 H3 H6 := B4.trans (B5.trans (But.of_same s6))
    have D6 := D5.same s6
    have hz : 0 < qv (1 + r4) (1 + r5) := qv_pos (by omega) (by omega)
    generalize qv (1 + r4) (1 + r5) = rz at fz hz
    have hf6 := D3.form B36 hf3
    have hrs6 := D3.roots B36 hrs
    have er6 := B36 _ _ er nr1 nr2
    have he6 := B36 _ _ he3 ne1 ne2
    have hall6 := D3.allF B36 hall3
    -- the three fractions
    refine ⟨3, rfl, by decide, by decide, fun pl hpl => lc_range (lo := 0) (n := 3) (fun j H' => But dk l2 H6 H' ∧ Deck K dk l2 a ns (100 * i + 19 + 1 + 1 + 8 * j) H' ∧ ∃ xs : List V, H' pl = some (.lst xs) ∧ xs.length = j ∧ AllF K xs H')
      ⟨But.of_same (same_new hpl), D6.same (same_new hpl), [], upd_same, rfl, AllF.nil⟩ (fun j H' hj hP => ?_) (fun H7 hP => ?_)⟩
    · obtain ⟨B', D', xs, exs, hxs, hax⟩ := hP
      refine ⟨rfl, _, rfl, dk, l2, a, ns, _, rfl, D', by omega, fun H'' z x B'' D'' f'' => ?_⟩
      have n1 := D6.free1 hpl
      have n2 := D6.free2 hpl
      have exs' := B'' _ _ exs n1 n2
      refine ⟨xs, exs', small1000 (by omega), (B'.trans B'').new hpl, ?_, xs ++ [z], upd_same, ?_, ?_⟩
      · exact (D''.mono (by omega)).upd n1 n2 exs'
      · rw [List.length_append, hxs]
        rfl
      · exact ((D'.allF B'' hax).append (AllF.cons (f''.mono (by decide)) AllF.nil)).updL exs'
    · obtain ⟨B7, D7, xs, exs, hxs, hax⟩ := hP
      have hf7 := D6.form B7 hf6
      have hrs7 := D6.roots B7 hrs6
      have er7 := B7 _ _ er6 nr1 nr2
      have he7 := B7 _ _ he6 ne1 ne2
      have hall7 := D6.allF B7 hall6
      have fz7 := D6.fq B7 fz
      have nl1 := D6.free1 hpl
      have nl2 := D6.free2 hpl
      obtain ⟨v0, v1, vd, rfl, hr0, hr1, fd⟩ := id hrs7
      obtain ⟨pf', va', vb', vc', epf, tf7, fa7, fb7, fc7⟩ := id hf7
      cases epf
      -- whether there are two roots
      refine ⟨_, rfl, pr, _, 2, _, rfl, rfl, .of er7, rfl, _, _, _, rfl, fd, _, _, rfl, rfl, _, rfl, ite2 (fun e => ?_) (fun e => ?_)⟩
      · have hd : 0 < inner ra rb rc := pos_of_sg (of_decide_eq_true e)
        -- the roots of the form times the size
        refine ⟨_, rfl, pf, _, 0, _, rfl, rfl, tf7, rfl, _, rfl, _, _, 5, 5, ra, rz, rfl, fa7, fz7, by decide, fun H8 z8 s8 f8 => ?_⟩
        refine ⟨_, rfl, pf, _, 1, _, rfl, rfl, seqT s8 tf7, rfl, _, rfl, _, _, 48, 5, rb, rz, rfl, fb7.same s8, fz7.same s8, by decide, fun H9 z9 s9 f9 => ?_⟩
        have t9 := s8.trans s9
        refine ⟨_, rfl, pf, _, 2, _, rfl, rfl, seqT t9 tf7, rfl, _, rfl, _, _, 48, 5, rc, rz, rfl, fc7.same t9, fz7.same t9, by decide, fun Ha za sa fa' => ?_⟩
        have ta := t9.trans sa
        refine ⟨_, _, _, ra * rz, rb * rz, rc * rz, rfl, f8.same (s9.trans sa), (f9.same sa).mono (by decide), fa'.mono (by decide), Rat.mul_pos hra hz, fun Hb po os hpo sb eo hos => ?_⟩
        have tb := ta.trans sb
        obtain ⟨w0, w1, wd, rfl, ho0, ho1, fo⟩ := id hos
        -- the lesser root is less; the roots are the same
        refine ⟨_, rfl, pr, _, 0, _, rfl, rfl, .of (tb _ _ er7), rfl, _, rfl, pr, _, 1, _, rfl, rfl, .of (tb _ _ er7), rfl, _, _, root0 ra rb rc, root1 ra rb rc, rfl, (hr0.same tb).mono (by decide), (hr1.same tb).mono (by decide), fun Hc sc => ?_⟩
        have tc := tb.trans sc
        refine ⟨1, rfl, rfl, _, rfl, iteNS (congrArg V.int (less_root hra hd)) ?_⟩
        refine ⟨_, rfl, pr, _, 0, _, rfl, rfl, .of (tc _ _ er7), rfl, _, rfl, po, _, 0, _, rfl, rfl, .of (sc _ _ eo), rfl, _, _, root0 ra rb rc, _, rfl, (hr0.same tc).mono (by decide), (ho0.same sc).mono (by decide), fun Hd sd => ?_⟩
        have td := tc.trans sd
        refine ⟨rfl, _, rfl, iteNS (congrArg V.int (same_root0 hra hz hd)) ?_⟩
        refine ⟨_, rfl, pr, _, 1, _, rfl, rfl, .of (td _ _ er7), rfl, _, rfl, po, _, 1, _, rfl, rfl, .of (sd _ _ (sc _ _ eo)), rfl, _, _, root1 ra rb rc, _, rfl, (hr1.same td).mono (by decide), (ho1.same (sc.trans sd)).mono (by decide), fun He se => ?_⟩
        have te := td.trans se
        refine ⟨rfl, _, rfl, iteNS (congrArg V.int (same_root1 hra hz hd)) ?_⟩
        -- half
        refine ⟨_, rfl, dk, l2, a, ns, _, 99, rfl, D7.same te, by decide, by decide, by omega, fun Hf rf g5 g6 Bf Df => ?_⟩
        refine ⟨_, _, rfl, rfl, _, _, 7, rfl, by omega, by decide, by omega, by decide, by decide, fun Hg vh sg' fh => ?_⟩
        have Bg : But dk l2 H7 Hg := (But.of_same te).trans (Bf.trans (But.of_same sg'))
        have Dg := Df.same sg'
        have hfg := D7.form Bg hf7
        have hrsg := D7.roots Bg hrs7
        have erg := Bg _ _ er7 nr1 nr2
        have heg := Bg _ _ he7 ne1 ne2
        have exg := Bg _ _ exs nl1 nl2
        have hallg := D7.allF Bg hall7
        have haxg := D7.allF Bg hax
        obtain ⟨p0, u1, u2, u3, rfl, tr, m1, m2, m3⟩ := D7.rn Bg hr0
        -- some more fractions
        refine ⟨_, rfl, _, rfl, pr, _, 0, _, rfl, rfl, .of erg, rfl, p0, _, 0, _, rfl, rfl, tr, rfl, _, rfl, pr, _, 0, _, rfl, rfl, .of erg, rfl, p0, _, 0, _, rfl, rfl, tr, rfl, _, rfl, _, _, 72, 7, _, _, rfl, m1, fh, by decide, fun Hh zh sh fh2 => ?_⟩
        refine ⟨_, rfl, pr, _, 0, _, rfl, rfl, .of (sh _ _ erg), rfl, p0, _, 0, _, rfl, rfl, seqT sh tr, rfl, _, rfl, _, _, 72, 7, _, _, rfl, m1.same sh, fh.same sh, by decide, fun Hi zi si fi => ?_⟩
        have ti := sh.trans si
        refine ⟨(by show 2 ≤ sizeLine; decide), fun pz hpz => ?_⟩
        have sj := same_new (o := .tup [.int 0, .int 1]) hpz
        have fj := fq_lit (K := K) 1 0 hpz (by decide) (by decide) (by decide)
        have tj := ti.trans sj
        refine ⟨(by show 4 ≤ sizeLine; decide), fun pm hpm => ?_⟩
        have sk := same_new (o := .lst [u1, zh, zi, .ref pz]) hpm
        have tk := tj.trans sk
        refine ⟨pl, pm, xs, _, rfl, rfl, tk _ _ exg, upd_same, (Nat.le_of_lt (small1000 (by rw [hxs]; show 3 + 4 ≤ 1000; decide))), fun pn hpn => ?_⟩
        have sn := same_new (o := .lst (xs ++ [u1, zh, zi, .ref pz])) hpn
        have tn := tk.trans sn
        refine ⟨_, rfl, pn, pe, _, es, rfl, rfl, upd_same, tn _ _ heg, (Nat.le_of_lt (small1000 (by rw [List.length_append, hxs]; show 3 + 4 + es.length ≤ 1000; omega))), fun po' hpo' => ?_⟩
        have so := same_new (o := .lst (xs ++ [u1, zh, zi, .ref pz] ++ es)) hpo'
        have to' := tn.trans so
        have hbig : AllF K (xs ++ [u1, zh, zi, .ref pz] ++ es) _ := (((haxg.same tj).append (AllF.cons ((m1.same tj).mono (by decide)) (AllF.cons ((fh2.same (si.trans sj)).mono (by decide)) (AllF.cons ((fi.same sj).mono (by decide)) (AllF.cons (fj.mono (by decide)) AllF.nil))))).append (hallg.same tj)).same (sk.trans (sn.trans so))
        refine ⟨_, rfl, po', rfl, ⟨_, .of upd_same⟩, fun pt hpt => lc_list (K := K) (a := po') (xs := xs ++ [u1, zh, zi, .ref pz] ++ es)
          (fun j H' => Same (upd (upd (upd (upd Hi pz (.tup [.int 0, .int 1])) pm (.lst [u1, zh, zi, .ref pz])) pn (.lst (xs ++ [u1, zh, zi, .ref pz]))) po' (.lst (xs ++ [u1, zh, zi, .ref pz] ++ es))) H' ∧ H' pt = some (.lst []))
          ⟨same_new hpt, upd_same⟩ (fun j H' _ z => .of (z.1 _ _ upd_same)) (fun j x H' hx hP => ?_) (fun H' hP => ?_)⟩
        · obtain ⟨sH, ept⟩ := hP
          obtain ⟨t, ft⟩ := (hbig.same sH) x (List.mem_of_getElem? hx)
          have tH := to'.trans sH
          refine ⟨rfl, _, rfl, _, rfl, _, rfl, .ref pf, x, pr, _, ra, rb, rc, t, rfl, hfg.same tH, tH _ _ erg, hrsg.same tH, hra, hd, ft, fun H'' s'' => ⟨true, rfl, ?_⟩⟩
          exact iteF ⟨sH.trans s'', s'' _ _ ept⟩
        · obtain ⟨sH, ept⟩ := hP
          refine ⟨Nat.zero_le _, fun pq hpq => ?_⟩
          have sq := same_new (o := .lst []) hpq
          refine ⟨_, _, .lst (.of (sq _ _ ept)) .nil, .lst (.of upd_same) .nil, shaped0, shaped0, _, rfl, ?_⟩
          rw [eqv0]
          refine iteF ⟨_, _, _, _, _, _, _, _, _, _, rfl, ?_⟩
          exact (Dg.same (to'.trans (sH.trans sq))).mono (by omega)
      · refine ⟨_, _, _, _, _, _, _, _, _, _, rfl, D7.mono (by omega)⟩
end
end K8

set_option Elab.async false
set_option linter.all false
set_option maxRecDepth 100000
set_option maxHeartbeats 0
/-! The head: what the top leaves, by one kernel run. Printed by gen_head.py -/
namespace K8
open PySem PySem.Spec PyProof.Rows L2
def d_common_part : He.DefD := ⟨("common_part", none), "common_part", "common_part", defArgs s_common_part, defBody s_common_part, defScope s_common_part, [], []⟩
def d_frac : He.DefD := ⟨("frac", none), "frac", "frac", defArgs s_frac, defBody s_frac, defScope s_frac, [], []⟩
def d_plus : He.DefD := ⟨("plus", none), "plus", "plus", defArgs s_plus, defBody s_plus, defScope s_plus, [], []⟩
def d_minus : He.DefD := ⟨("minus", none), "minus", "minus", defArgs s_minus, defBody s_minus, defScope s_minus, [], []⟩
def d_times : He.DefD := ⟨("times", none), "times", "times", defArgs s_times, defBody s_times, defScope s_times, [], []⟩
def d_over : He.DefD := ⟨("over", none), "over", "over", defArgs s_over, defBody s_over, defScope s_over, [], []⟩
def d_sign : He.DefD := ⟨("sign", none), "sign", "sign", defArgs s_sign, defBody s_sign, defScope s_sign, [], []⟩
def d_square : He.DefD := ⟨("square", none), "square", "square", defArgs s_square, defBody s_square, defScope s_square, [], []⟩
def d_sign_of_root : He.DefD := ⟨("sign_of_root", none), "sign_of_root", "sign_of_root", defArgs s_sign_of_root, defBody s_sign_of_root, defScope s_sign_of_root, [], []⟩
def d_sign_of_two : He.DefD := ⟨("sign_of_two", none), "sign_of_two", "sign_of_two", defArgs s_sign_of_two, defBody s_sign_of_two, defScope s_sign_of_two, [], []⟩
def d_sign_of_sum : He.DefD := ⟨("sign_of_sum", none), "sign_of_sum", "sign_of_sum", defArgs s_sign_of_sum, defBody s_sign_of_sum, defScope s_sign_of_sum, [], []⟩
def d_compare : He.DefD := ⟨("compare", none), "compare", "compare", defArgs s_compare, defBody s_compare, defScope s_compare, [], []⟩
def d_L_cell : He.DefD := ⟨("_law_cell", none), "_law_cell", "_law_cell", defArgs s_L_cell, defBody s_L_cell, defScope s_L_cell, [], []⟩
def d_L_mixed : He.DefD := ⟨("_law_mixed", none), "_law_mixed", "_law_mixed", defArgs s_L_mixed, defBody s_L_mixed, defScope s_L_mixed, [], []⟩
def d_L_deck : He.DefD := ⟨("_law_deck", none), "_law_deck", "_law_deck", defArgs s_L_deck, defBody s_L_deck, defScope s_L_deck, [], []⟩
def d_L_take : He.DefD := ⟨("_law_take", none), "_law_take", "_law_take", defArgs s_L_take, defBody s_L_take, defScope s_L_take, [], []⟩
def d_L_gcd : He.DefD := ⟨("_law_gcd", none), "_law_gcd", "_law_gcd", defArgs s_L_gcd, defBody s_L_gcd, defScope s_L_gcd, [], []⟩
def d_L_share : He.DefD := ⟨("_law_share", none), "_law_share", "_law_share", defArgs s_L_share, defBody s_L_share, defScope s_L_share, [], []⟩
def d_L_plus : He.DefD := ⟨("_law_plus", none), "_law_plus", "_law_plus", defArgs s_L_plus, defBody s_L_plus, defScope s_L_plus, [], []⟩
def d_L_times : He.DefD := ⟨("_law_times", none), "_law_times", "_law_times", defArgs s_L_times, defBody s_L_times, defScope s_L_times, [], []⟩
def d_L_figures : He.DefD := ⟨("_law_figures", none), "_law_figures", "_law_figures", defArgs s_L_figures, defBody s_L_figures, defScope s_L_figures, [], []⟩
def d_L_fraction : He.DefD := ⟨("_law_fraction", none), "_law_fraction", "_law_fraction", defArgs s_L_fraction, defBody s_L_fraction, defScope s_L_fraction, [], []⟩
def d_L_roots : He.DefD := ⟨("_law_roots", none), "_law_roots", "_law_roots", defArgs s_L_roots, defBody s_L_roots, defScope s_L_roots, [], []⟩
def d_L_at : He.DefD := ⟨("_law_at", none), "_law_at", "_law_at", defArgs s_L_at, defBody s_L_at, defScope s_L_at, [], []⟩
def d_L_forms : He.DefD := ⟨("_law_forms", none), "_law_forms", "_law_forms", defArgs s_L_forms, defBody s_L_forms, defScope s_L_forms, [], []⟩
def d_L_side_right : He.DefD := ⟨("_law_side_right", none), "_law_side_right", "_law_side_right", defArgs s_L_side_right, defBody s_L_side_right, defScope s_L_side_right, [], []⟩
def d_law : He.DefD := ⟨("law", none), "law", "law", defArgs s_law, defBody s_law, defScope s_law, [], []⟩
def fn : List He.DefD := [d_common_part, d_frac, d_plus, d_minus, d_times, d_over, d_sign, d_square, d_sign_of_root, d_sign_of_two, d_sign_of_sum, d_compare, d_L_cell, d_L_mixed, d_L_deck, d_L_take, d_L_gcd, d_L_share, d_L_plus, d_L_times, d_L_figures, d_L_fraction, d_L_roots, d_L_at, d_L_forms, d_L_side_right, d_law]
def fa : List He.Fa := [.glo "common_part", .glo "frac", .glo "plus", .glo "minus", .glo "times", .glo "over", .glo "sign", .glo "square", .glo "sign_of_root", .glo "sign_of_two", .glo "sign_of_sum", .glo "compare", .glo "_law_cell", .glo "_law_mixed", .glo "_law_deck", .glo "_law_take", .glo "_law_gcd", .glo "_law_share", .glo "_law_plus", .glo "_law_times", .glo "_law_figures", .glo "_law_fraction", .glo "_law_roots", .glo "_law_at", .glo "_law_forms", .glo "_law_side_right", .glo "law", .glo "ZERO", .free "abs", .free "int", .free "len", .free "max", .free "range"]
abbrev R : PySem.W.OpenRow := PySem.W.OpenLaw.row PySem.Challenge.rw_scenetongue_k08_whole_roots_solve
def tupZ (K : PySem.W.Frag) : Bool := He.tupB K "ZERO" [.int 0, .int 1]
abbrev hk : PySem.W.Hook := He.hookX 4 fa fn [] [] tupZ
def ob (s : PySem.W.SharedT) : He.AlX := He.obsX 4 fa fn [] [] tupZ (HandSHeadRun.getT s)
theorem ob_eq (s : PySem.W.SharedT) : ob s = hk.obs s.abs := He.obsX_eq (HandSHeadRun.getT_eq s)
theorem run (w : World) : HandSHeadRun.RunEq R (PySem.W.view R.prog [30]) hk ob 2000 ["common_part", "frac", "plus", "minus", "times", "over", "sign", "square", "sign_of_root", "sign_of_two", "sign_of_sum", "compare", "_law_cell", "_law_mixed", "_law_deck", "_law_take", "_law_gcd", "_law_share", "_law_plus", "_law_times", "_law_figures", "_law_fraction", "_law_roots", "_law_at", "_law_forms", "_law_side_right", "ZERO"] w := by
  intro os
  kernel_rfl
end K8

set_option Elab.async false
set_option linter.all false
set_option maxRecDepth 100000
set_option maxHeartbeats 0
/-! The end: each def's datum, its promise, the law. Printed by gen_end.py -/
namespace K8
open PySem PySem.Spec PyProof.Rows L2
theorem facts {P : Program} {w : World} {K : PySem.W.Frag} {h : Heap} {mg : Str → Option Value} {f : Addr} (X : K.In h) (G : h.Ns mainGlobals mg) (hfa : mg ("law" : Str) = some (.ref f)) (c : He.SaysD fa fn K) (cz : tupZ K = true) :
    ∃ fd : FuncData, (∀ (s : Shared) (v : Value), BindsTo s fd ⟨[v], []⟩ [("_law_script", v)]) ∧ ∀ base : Heap, K.In base → base.Ns mainGlobals mg → FnOk P w K mg base CX0 9 f fd ["_law_script"] (spLaw K) := by
  have m_abs : mg "abs" = none := He.free_ok X G (c.fact 28 (f := .free "abs") rfl)
  have m_int : mg "int" = none := He.free_ok X G (c.fact 29 (f := .free "int") rfl)
  have m_len : mg "len" = none := He.free_ok X G (c.fact 30 (f := .free "len") rfl)
  have m_max : mg "max" = none := He.free_ok X G (c.fact 31 (f := .free "max") rfl)
  have m_range : mg "range" = none := He.free_ok X G (c.fact 32 (f := .free "range") rfl)
  have g_ZERO : mg "ZERO" = some (.ref (He.ga K "ZERO")) := He.glo_ok X G (c.fact 27 (f := .glo "ZERO") rfl)
  have t_ZERO : ∀ H : Hp, SqT K H (He.ga K "ZERO") [.int 0, .int 1] := fun H => He.tupB_ok cz H
  obtain ⟨fd_common_part, F_common_part⟩ := c.def_ 0 (d := d_common_part) rfl
  obtain ⟨fd_frac, F_frac⟩ := c.def_ 1 (d := d_frac) rfl
  obtain ⟨fd_plus, F_plus⟩ := c.def_ 2 (d := d_plus) rfl
  obtain ⟨fd_minus, F_minus⟩ := c.def_ 3 (d := d_minus) rfl
  obtain ⟨fd_times, F_times⟩ := c.def_ 4 (d := d_times) rfl
  obtain ⟨fd_over, F_over⟩ := c.def_ 5 (d := d_over) rfl
  obtain ⟨fd_sign, F_sign⟩ := c.def_ 6 (d := d_sign) rfl
  obtain ⟨fd_square, F_square⟩ := c.def_ 7 (d := d_square) rfl
  obtain ⟨fd_sign_of_root, F_sign_of_root⟩ := c.def_ 8 (d := d_sign_of_root) rfl
  obtain ⟨fd_sign_of_two, F_sign_of_two⟩ := c.def_ 9 (d := d_sign_of_two) rfl
  obtain ⟨fd_sign_of_sum, F_sign_of_sum⟩ := c.def_ 10 (d := d_sign_of_sum) rfl
  obtain ⟨fd_compare, F_compare⟩ := c.def_ 11 (d := d_compare) rfl
  obtain ⟨fd_L_cell, F_L_cell⟩ := c.def_ 12 (d := d_L_cell) rfl
  obtain ⟨fd_L_mixed, F_L_mixed⟩ := c.def_ 13 (d := d_L_mixed) rfl
  obtain ⟨fd_L_deck, F_L_deck⟩ := c.def_ 14 (d := d_L_deck) rfl
  obtain ⟨fd_L_take, F_L_take⟩ := c.def_ 15 (d := d_L_take) rfl
  obtain ⟨fd_L_gcd, F_L_gcd⟩ := c.def_ 16 (d := d_L_gcd) rfl
  obtain ⟨fd_L_share, F_L_share⟩ := c.def_ 17 (d := d_L_share) rfl
  obtain ⟨fd_L_plus, F_L_plus⟩ := c.def_ 18 (d := d_L_plus) rfl
  obtain ⟨fd_L_times, F_L_times⟩ := c.def_ 19 (d := d_L_times) rfl
  obtain ⟨fd_L_figures, F_L_figures⟩ := c.def_ 20 (d := d_L_figures) rfl
  obtain ⟨fd_L_fraction, F_L_fraction⟩ := c.def_ 21 (d := d_L_fraction) rfl
  obtain ⟨fd_L_roots, F_L_roots⟩ := c.def_ 22 (d := d_L_roots) rfl
  obtain ⟨fd_L_at, F_L_at⟩ := c.def_ 23 (d := d_L_at) rfl
  obtain ⟨fd_L_forms, F_L_forms⟩ := c.def_ 24 (d := d_L_forms) rfl
  obtain ⟨fd_L_side_right, F_L_side_right⟩ := c.def_ 25 (d := d_L_side_right) rfl
  obtain ⟨fd_law, F_law⟩ := c.def_ 26 (d := d_law) rfl
  have e := hfa.symm.trans (He.glo_ok X G (c.fact 26 (f := .glo "law") rfl))
  cases e
  have b := FunD.bindsA (ps := ["_law_script"]) F_law fun _ _ _ _ _ _ us hl => match us, hl with | [_], _ => rfl
  refine ⟨fd_law, fun s v => b s [v] rfl, fun base _ _ => ?_⟩
  have C_common_part := cal_mk (P := P) (w := w) (base := base) F_common_part (ok_common_part F_common_part m_abs) (He.glo_ok X G (c.fact 0 (f := .glo "common_part") rfl)) (FunD.bindsN F_common_part fun _ _ _ _ _ _ us hl => match us, hl with | [_, _], _ => rfl)
  have C_L_gcd := cal_mk (P := P) (w := w) (base := base) F_L_gcd (ok_L_gcd F_L_gcd m_abs) (He.glo_ok X G (c.fact 16 (f := .glo "_law_gcd") rfl)) (FunD.bindsN F_L_gcd fun _ _ _ _ _ _ us hl => match us, hl with | [_, _], _ => rfl)
  have C_frac := cal_mk (P := P) (w := w) (base := base) F_frac (ok_frac F_frac C_common_part) (He.glo_ok X G (c.fact 1 (f := .glo "frac") rfl)) (FunD.bindsN F_frac fun _ _ _ _ _ _ us hl => match us, hl with | [_, _], _ => rfl)
  have C_L_share := cal_mk (P := P) (w := w) (base := base) F_L_share (ok_L_share F_L_share C_L_gcd) (He.glo_ok X G (c.fact 17 (f := .glo "_law_share") rfl)) (FunD.bindsN F_L_share fun _ _ _ _ _ _ us hl => match us, hl with | [_, _], _ => rfl)
  have C_plus := cal_mk (P := P) (w := w) (base := base) F_plus (ok_plus F_plus C_frac) (He.glo_ok X G (c.fact 2 (f := .glo "plus") rfl)) (FunD.bindsN F_plus fun _ _ _ _ _ _ us hl => match us, hl with | [_, _], _ => rfl)
  have C_minus := cal_mk (P := P) (w := w) (base := base) F_minus (ok_minus F_minus C_frac) (He.glo_ok X G (c.fact 3 (f := .glo "minus") rfl)) (FunD.bindsN F_minus fun _ _ _ _ _ _ us hl => match us, hl with | [_, _], _ => rfl)
  have C_times := cal_mk (P := P) (w := w) (base := base) F_times (ok_times F_times C_frac) (He.glo_ok X G (c.fact 4 (f := .glo "times") rfl)) (FunD.bindsN F_times fun _ _ _ _ _ _ us hl => match us, hl with | [_, _], _ => rfl)
  have C_over := cal_mk (P := P) (w := w) (base := base) F_over (ok_over F_over C_frac) (He.glo_ok X G (c.fact 5 (f := .glo "over") rfl)) (FunD.bindsN F_over fun _ _ _ _ _ _ us hl => match us, hl with | [_, _], _ => rfl)
  have C_L_plus := cal_mk (P := P) (w := w) (base := base) F_L_plus (ok_L_plus F_L_plus C_L_share) (He.glo_ok X G (c.fact 18 (f := .glo "_law_plus") rfl)) (FunD.bindsN F_L_plus fun _ _ _ _ _ _ us hl => match us, hl with | [_, _], _ => rfl)
  have C_L_times := cal_mk (P := P) (w := w) (base := base) F_L_times (ok_L_times F_L_times C_L_share) (He.glo_ok X G (c.fact 19 (f := .glo "_law_times") rfl)) (FunD.bindsN F_L_times fun _ _ _ _ _ _ us hl => match us, hl with | [_, _], _ => rfl)
  have C_sign := cal_mk (P := P) (w := w) (base := base) F_sign (ok_sign F_sign m_int) (He.glo_ok X G (c.fact 6 (f := .glo "sign") rfl)) (FunD.bindsN F_sign fun _ _ _ _ _ _ us hl => match us, hl with | [_], _ => rfl)
  have C_square := cal_mk (P := P) (w := w) (base := base) F_square (ok_square F_square C_times) (He.glo_ok X G (c.fact 7 (f := .glo "square") rfl)) (FunD.bindsN F_square fun _ _ _ _ _ _ us hl => match us, hl with | [_], _ => rfl)
  have C_sign_of_root := cal_mk (P := P) (w := w) (base := base) F_sign_of_root (ok_sign_of_root F_sign_of_root C_sign C_minus C_times C_square) (He.glo_ok X G (c.fact 8 (f := .glo "sign_of_root") rfl)) (FunD.bindsN F_sign_of_root fun _ _ _ _ _ _ us hl => match us, hl with | [_, _, _], _ => rfl)
  have C_sign_of_two := cal_mk (P := P) (w := w) (base := base) F_sign_of_two (ok_sign_of_two F_sign_of_two C_sign C_minus C_times C_square) (He.glo_ok X G (c.fact 9 (f := .glo "sign_of_two") rfl)) (FunD.bindsN F_sign_of_two fun _ _ _ _ _ _ us hl => match us, hl with | [_, _, _, _], _ => rfl)
  have C_sign_of_sum := cal_mk (P := P) (w := w) (base := base) F_sign_of_sum (ok_sign_of_sum F_sign_of_sum C_sign C_plus C_minus C_times C_square C_sign_of_root C_sign_of_two) (He.glo_ok X G (c.fact 10 (f := .glo "sign_of_sum") rfl)) (FunD.bindsN F_sign_of_sum fun _ _ _ _ _ _ us hl => match us, hl with | [_, _, _, _, _], _ => rfl)
  have C_compare := cal_mk (P := P) (w := w) (base := base) F_compare (ok_compare F_compare C_minus C_sign_of_sum g_ZERO t_ZERO) (He.glo_ok X G (c.fact 11 (f := .glo "compare") rfl)) (FunD.bindsN F_compare fun _ _ _ _ _ _ us hl => match us, hl with | [_, _], _ => rfl)
  have C_L_cell := cal_mk (P := P) (w := w) (base := base) F_L_cell (ok_L_cell F_L_cell m_len m_abs) (He.glo_ok X G (c.fact 12 (f := .glo "_law_cell") rfl)) (FunD.bindsN F_L_cell fun _ _ _ _ _ _ us hl => match us, hl with | [_, _], _ => rfl)
  have C_L_mixed := cal_mk (P := P) (w := w) (base := base) F_L_mixed (ok_L_mixed F_L_mixed C_L_cell) (He.glo_ok X G (c.fact 13 (f := .glo "_law_mixed") rfl)) (FunD.bindsN F_L_mixed fun _ _ _ _ _ _ us hl => match us, hl with | [_, _, _], _ => rfl)
  have C_L_deck := cal_mk (P := P) (w := w) (base := base) F_L_deck (ok_L_deck F_L_deck m_abs) (He.glo_ok X G (c.fact 14 (f := .glo "_law_deck") rfl)) (FunD.bindsN F_L_deck fun _ _ _ _ _ _ us hl => match us, hl with | [_], _ => rfl)
  have C_L_take := cal_mk (P := P) (w := w) (base := base) F_L_take (ok_L_take F_L_take m_len C_L_mixed) (He.glo_ok X G (c.fact 15 (f := .glo "_law_take") rfl)) (FunD.bindsN F_L_take fun _ _ _ _ _ _ us hl => match us, hl with | [_, _], _ => rfl)
  have C_L_figures := cal_mk (P := P) (w := w) (base := base) F_L_figures (ok_L_figures F_L_figures C_L_take) (He.glo_ok X G (c.fact 20 (f := .glo "_law_figures") rfl)) (FunD.bindsN F_L_figures fun _ _ _ _ _ _ us hl => match us, hl with | [_], _ => rfl)
  have C_L_fraction := cal_mk (P := P) (w := w) (base := base) F_L_fraction (ok_L_fraction F_L_fraction m_max C_L_take C_L_figures C_L_share) (He.glo_ok X G (c.fact 21 (f := .glo "_law_fraction") rfl)) (FunD.bindsN F_L_fraction fun _ _ _ _ _ _ us hl => match us, hl with | [_], _ => rfl)
  have C_L_roots := cal_mk (P := P) (w := w) (base := base) F_L_roots (ok_L_roots F_L_roots C_minus C_times C_over) (He.glo_ok X G (c.fact 22 (f := .glo "_law_roots") rfl)) (FunD.bindsN F_L_roots fun _ _ _ _ _ _ us hl => match us, hl with | [_, _, _], _ => rfl)
  have C_L_at := cal_mk (P := P) (w := w) (base := base) F_L_at (ok_L_at F_L_at C_plus C_times) (He.glo_ok X G (c.fact 23 (f := .glo "_law_at") rfl)) (FunD.bindsN F_L_at fun _ _ _ _ _ _ us hl => match us, hl with | [_, _, _, _], _ => rfl)
  have C_L_forms := cal_mk (P := P) (w := w) (base := base) F_L_forms (ok_L_forms F_L_forms C_L_take C_L_fraction C_L_share C_L_plus C_L_times) (He.glo_ok X G (c.fact 24 (f := .glo "_law_forms") rfl)) (FunD.bindsN F_L_forms fun _ _ _ _ _ _ us hl => match us, hl with | [_], _ => rfl)
  have C_L_side_right := cal_mk (P := P) (w := w) (base := base) F_L_side_right (ok_L_side_right F_L_side_right m_int C_sign C_L_at C_compare C_minus) (He.glo_ok X G (c.fact 25 (f := .glo "_law_side_right") rfl)) (FunD.bindsN F_L_side_right fun _ _ _ _ _ _ us hl => match us, hl with | [_, _, _], _ => rfl)
  exact ok_law F_law m_range C_L_deck C_L_forms C_L_roots C_L_share C_L_take C_L_fraction C_sign C_times C_compare C_plus C_minus C_L_side_right
end K8
open PySem PySem.W PySem.Calls PyProof.Rows
theorem PySem.Challenge.cw_scenetongue_k08_whole_roots_solve_holds : PySem.Challenge.rw_scenetongue_k08_whole_roots_solve.Holds := by
  w_on; o_law
  refine HandSHeadRun.head_any (r := OpenLaw.row PySem.Challenge.rw_scenetongue_k08_whole_roots_solve) (q := view (OpenLaw.row PySem.Challenge.rw_scenetongue_k08_whole_roots_solve).prog [30]) (H := K8.hk) (ob := K8.ob) (M := 2000) (loose := ["common_part", "frac", "plus", "minus", "times", "over", "sign", "square", "sign_of_root", "sign_of_two", "sign_of_sum", "compare", "_law_cell", "_law_mixed", "_law_deck", "_law_take", "_law_gcd", "_law_share", "_law_plus", "_law_times", "_law_figures", "_law_fraction", "_law_roots", "_law_at", "_law_forms", "_law_side_right", "ZERO"]) (d := HandSHeadRun.topDef (OpenLaw.row PySem.Challenge.rw_scenetongue_k08_whole_roots_solve).prog 30) (kwd := []) K8.ob_eq
    (by kernel_rfl) (fun s => by kernel_rfl) K8.run (by kernel_rfl) (by kernel_rfl) (by kernel_rfl) (by rfl) (by first | assumption | decide +kernel) (by decide +kernel) ⟨rfl, rfl, rfl, rfl, rfl, by decide +kernel⟩ ?hw ?hc
  case hw => w_witness2
  case hc =>
    refine L2.walk_ofE (l := PySem.Challenge.rw_scenetongue_k08_whole_roots_solve) (n := 63) (k := 9) (x := "_law_script") (CX := L2.CX0) rfl (by decide) (by kernel_rfl) ⟨rfl, by decide, by decide⟩ ?F (fun _ _ _ _ z => z)
    intro w mg fa h Y G hmg0
    obtain ⟨K, KX, c⟩ := Y
    have hmg : mg ("law" : PySem.Str) = some (.ref fa) := by
      have e : (HandSHeadRun.topDef (OpenLaw.row PySem.Challenge.rw_scenetongue_k08_whole_roots_solve).prog 30).name = ("law" : PySem.Str) := by kernel_rfl
      rw [← e]
      exact hmg0
    obtain ⟨fd, hb, hF⟩ := K8.facts (P := (PySem.Challenge.rw_scenetongue_k08_whole_roots_solve).prog) (w := w) KX G hmg c.t.d c.more
    exact ⟨K, fd, K8.spLaw K, KX, hb, fun H a ns hl hO hS => ⟨a, ns, rfl, K8.Scr.of hO hS, hl, fun _ => rfl⟩, hF⟩
