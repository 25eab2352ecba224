import PyProof.Rows.All
import Wide.All
import OpenK.AllK
import Wide.FinOn
import HandS.ForMost
import HandS.Wide
import HandS.WideBits
import HandS.TupLe
import HandS.Deep
import HandS.Conv
import KE.DataMinMax
import KE.SortData
import HandS.Evl
import PySem.Challenge.RW_spotlook_k16_whole_above_goes_nowhere_ro
set_option Elab.async false
set_option linter.all false
set_option maxRecDepth 100000
set_option maxHeartbeats 8000000
/-! fractions, and the carrying over from units to spots -/
namespace K16
abbrev Fr := Int × Int
abbrev Pt := Int × Int
abbrev Wl := Pt × Pt
abbrev Sp2 := Fr × Fr
abbrev Wf := Sp2 × Sp2
def sgn (z : Int) : Int := (if 0 < z then 1 else 0) - (if z < 0 then 1 else 0)
def gcdI (t b : Int) : Int := (Int.gcd t b : Int)
def frac (t b : Int) : Fr := (t / gcdI t b, b / gcdI t b)
def subF (p q : Fr) : Fr := frac (p.1 * q.2 - q.1 * p.2) (p.2 * q.2)
def mulF (p q : Fr) : Fr := frac (p.1 * q.1) (p.2 * q.2)
def ltF (p q : Fr) : Bool := decide (p.1 * q.2 < q.1 * p.2)
def aheadF (s t : Sp2) : Bool := if s.1 = t.1 then ltF s.2 t.2 else ltF s.1 t.1
def alongF (w : Wf) : Sp2 := (subF w.2.1 w.1.1, subF w.2.2 w.1.2)
def crossF (u v : Sp2) : Fr := subF (mulF u.1 v.2) (mulF u.2 v.1)
def leanF (u v : Sp2) : Int := sgn (crossF u v).1
def sideF (w : Wf) (s : Sp2) : Int := leanF (alongF w) (alongF (w.1, s))
/-- the same in units -/
def aheadU (p q : Pt) : Bool := if p.1 = q.1 then decide (p.2 < q.2) else decide (p.1 < q.1)
def turnU (a b c : Pt) : Int := (b.1 - a.1) * (c.2 - a.2) - (b.2 - a.2) * (c.1 - a.1)
def sideU (w : Wl) (s : Pt) : Int := sgn (turnU w.1 w.2 s)
def spansG {S : Type} (ahead : S → S → Bool) (w : S × S) (s : S) : Bool := !ahead s w.1 && ahead s w.2
def bothG {S : Type} (ahead : S → S → Bool) (a b : S × S) : Bool := ahead a.1 b.2 && ahead b.1 a.2
def endG {S : Type} [DecidableEq S] (ahead : S → S → Bool) (a b : S × S) : S × Bool :=
  if a.1 = b.1 then (if ahead a.2 b.2 then (a.2, true) else (b.2, false)) else (if ahead a.1 b.1 then (b.1, false) else (a.1, true))
def aboveG {S : Type} [DecidableEq S] (ahead : S → S → Bool) (side : S × S → S → Int) (a b : S × S) : Bool :=
  if bothG ahead a b = true then
    if (endG ahead a b).2 = true then decide (side b (endG ahead a b).1 = 1) else decide (side a (endG ahead a b).1 = -1)
  else false
/-- a scale -/
structure Sc where
  T : Int
  B : Int
  X : Int
  Y : Int
def Sc.ok (c : Sc) : Prop := 0 < c.T ∧ 0 < c.B
def Sc.spot (c : Sc) (u : Pt) : Sp2 := (frac (u.1 * c.T + c.X) c.B, frac (u.2 * c.T + c.Y) c.B)
def Sc.wall (c : Sc) (w : Wl) : Wf := (c.spot w.1, c.spot w.2)

/-- p is n over d -/
def Rep (p : Fr) (n d : Int) : Prop := 0 < p.2 ∧ p.1 * d = n * p.2

theorem gcdI_pos {t b : Int} (h : 0 < b) : 0 < gcdI t b := by
  have : 0 < Int.gcd t b := Int.gcd_pos_of_ne_zero_right t (by omega)
  unfold gcdI
  omega
theorem frac_1 (t b : Int) : (frac t b).1 * gcdI t b = t := Int.ediv_mul_cancel (Int.gcd_dvd_left ..)
theorem frac_2 (t b : Int) : (frac t b).2 * gcdI t b = b := Int.ediv_mul_cancel (Int.gcd_dvd_right ..)
theorem frac_pos {t b : Int} (h : 0 < b) : 0 < (frac t b).2 := by
  have g := gcdI_pos (t := t) h
  have e := frac_2 t b
  exact Int.pos_of_mul_pos_left (by rw [e]; exact h) g
theorem frac_rep {t b : Int} (h : 0 < b) : Rep (frac t b) t b := by
  refine ⟨frac_pos h, ?_⟩
  have e1 := frac_1 t b
  have e2 := frac_2 t b
  generalize (frac t b).1 = x at *
  generalize (frac t b).2 = y at *
  generalize gcdI t b = g at *
  subst e1
  grind
theorem rep_sub {p q : Fr} {n m d : Int} (hp : Rep p n d) (hq : Rep q m d) : Rep (subF p q) (n - m) d := by
  obtain ⟨p0, pe⟩ := hp
  obtain ⟨q0, qe⟩ := hq
  have hb : 0 < p.2 * q.2 := Int.mul_pos p0 q0
  obtain ⟨r0, re⟩ := frac_rep (t := p.1 * q.2 - q.1 * p.2) hb
  refine ⟨r0, ?_⟩
  unfold subF
  refine Int.eq_of_mul_eq_mul_right (Int.ne_of_gt hb) ?_
  generalize frac (p.1 * q.2 - q.1 * p.2) (p.2 * q.2) = r at *
  obtain ⟨a, b⟩ := p
  obtain ⟨c, e⟩ := q
  simp only at *
  grind
theorem rep_mul {p q : Fr} {n m d e : Int} (hp : Rep p n d) (hq : Rep q m e) : Rep (mulF p q) (n * m) (d * e) := by
  obtain ⟨p0, pe⟩ := hp
  obtain ⟨q0, qe⟩ := hq
  have hb : 0 < p.2 * q.2 := Int.mul_pos p0 q0
  obtain ⟨r0, re⟩ := frac_rep (t := p.1 * q.1) hb
  refine ⟨r0, ?_⟩
  unfold mulF
  refine Int.eq_of_mul_eq_mul_right (Int.ne_of_gt hb) ?_
  generalize frac (p.1 * q.1) (p.2 * q.2) = r at *
  obtain ⟨a, b⟩ := p
  obtain ⟨c, f⟩ := q
  simp only at *
  have : r.1 * (d * e) * (b * f) = n * m * r.2 * (b * f) := by
    have h1 : (a * d) * (c * e) = (n * b) * (m * f) := by rw [pe, qe]
    grind
  exact this
theorem sgn_pos {z : Int} (h : 0 < z) : sgn z = 1 := by unfold sgn; rw [if_pos h, if_neg (by omega)]; rfl
theorem sgn_neg {z : Int} (h : z < 0) : sgn z = -1 := by unfold sgn; rw [if_neg (by omega), if_pos h]; rfl
theorem sgn_zero : sgn 0 = 0 := rfl
theorem sgn_mul_pos {k z : Int} (h : 0 < k) : sgn (k * z) = sgn z := by
  rcases Int.lt_trichotomy z 0 with h1 | h1 | h1
  · rw [sgn_neg h1, sgn_neg (Int.mul_neg_of_pos_of_neg h h1)]
  · subst h1; rw [Int.mul_zero]
  · rw [sgn_pos h1, sgn_pos (Int.mul_pos h h1)]
theorem sgn_eq_one {z : Int} : sgn z = 1 ↔ 0 < z := by
  rcases Int.lt_trichotomy z 0 with h1 | h1 | h1
  · rw [sgn_neg h1]; omega
  · subst h1; rw [sgn_zero]; omega
  · rw [sgn_pos h1]; omega
theorem sgn_eq_neg {z : Int} : sgn z = -1 ↔ z < 0 := by
  rcases Int.lt_trichotomy z 0 with h1 | h1 | h1
  · rw [sgn_neg h1]; omega
  · subst h1; rw [sgn_zero]; omega
  · rw [sgn_pos h1]; omega
theorem rep_sgn {p : Fr} {n d : Int} (hd : 0 < d) (hp : Rep p n d) : sgn p.1 = sgn n := by
  obtain ⟨h, e⟩ := hp
  rw [← sgn_mul_pos (k := d) (z := p.1) hd, ← sgn_mul_pos (k := p.2) (z := n) h, Int.mul_comm, e, Int.mul_comm]
section
variable {c : Sc}
theorem rep_x (h : c.ok) (u : Pt) : Rep (c.spot u).1 (u.1 * c.T + c.X) c.B := frac_rep h.2
theorem rep_y (h : c.ok) (u : Pt) : Rep (c.spot u).2 (u.2 * c.T + c.Y) c.B := frac_rep h.2
theorem rep_eq {p q : Fr} {n m d : Int} (hd : 0 < d) (hp : Rep p n d) (hq : Rep q m d) (e : p = q) : n = m := by
  subst e
  have := hp.2.symm.trans hq.2
  exact Int.eq_of_mul_eq_mul_right (Int.ne_of_gt hp.1) this
theorem rep_lt {p q : Fr} {n m d : Int} (hd : 0 < d) (hp : Rep p n d) (hq : Rep q m d) : ltF p q = decide (n < m) := by
  obtain ⟨p0, pe⟩ := hp
  obtain ⟨q0, qe⟩ := hq
  have hb : 0 < p.2 * q.2 := Int.mul_pos p0 q0
  have e : sgn (q.1 * p.2 - p.1 * q.2) = sgn (m - n) := by
    rw [← sgn_mul_pos (k := d) (z := q.1 * p.2 - p.1 * q.2) hd, ← sgn_mul_pos (k := p.2 * q.2) (z := m - n) hb]
    congr 1
    obtain ⟨a, b⟩ := p
    obtain ⟨c, f⟩ := q
    simp only at *
    grind
  have e2 : (p.1 * q.2 < q.1 * p.2) ↔ n < m := by
    have h1 := @sgn_eq_one (q.1 * p.2 - p.1 * q.2)
    have h2 := @sgn_eq_one (m - n)
    rw [e] at h1
    constructor
    · intro h
      have := h2.mp (h1.mpr (by omega))
      omega
    · intro h
      have := h1.mp (h2.mpr (by omega))
      omega
  unfold ltF
  exact decide_eq_decide.mpr e2
theorem mulT_eq {T X u v : Int} (hT : 0 < T) (h : u * T + X = v * T + X) : u = v := by
  have : u * T = v * T := by omega
  exact Int.eq_of_mul_eq_mul_right (Int.ne_of_gt hT) this
theorem mulT_lt {T X u v : Int} (hT : 0 < T) : (u * T + X < v * T + X) ↔ u < v := by
  constructor
  · intro h
    exact Int.lt_of_mul_lt_mul_right (by omega : u * T < v * T) (Int.le_of_lt hT)
  · intro h
    have := Int.mul_lt_mul_of_pos_right h hT
    omega
theorem x_inj (h : c.ok) {u v : Pt} (e : (c.spot u).1 = (c.spot v).1) : u.1 = v.1 := mulT_eq h.1 (rep_eq h.2 (rep_x h u) (rep_x h v) e)
theorem y_inj (h : c.ok) {u v : Pt} (e : (c.spot u).2 = (c.spot v).2) : u.2 = v.2 := mulT_eq h.1 (rep_eq h.2 (rep_y h u) (rep_y h v) e)
theorem spot_inj (h : c.ok) {u v : Pt} : c.spot u = c.spot v ↔ u = v :=
  ⟨fun e => Prod.ext (x_inj h (congrArg Prod.fst e)) (y_inj h (congrArg Prod.snd e)), fun e => by rw [e]⟩
theorem ahead_eq (h : c.ok) (u v : Pt) : aheadF (c.spot u) (c.spot v) = aheadU u v := by
  unfold aheadF aheadU
  by_cases e : u.1 = v.1
  · have e' : (c.spot u).1 = (c.spot v).1 := by unfold Sc.spot; simp only [e]
    rw [if_pos e, if_pos e', rep_lt h.2 (rep_y h u) (rep_y h v)]
    exact decide_eq_decide.mpr (mulT_lt h.1)
  · have e' : ¬ (c.spot u).1 = (c.spot v).1 := fun z => e (x_inj h z)
    rw [if_neg e, if_neg e', rep_lt h.2 (rep_x h u) (rep_x h v)]
    exact decide_eq_decide.mpr (mulT_lt h.1)
theorem rep_cast {p : Fr} {n m d : Int} (h : Rep p n d) (e : n = m) : Rep p m d := e ▸ h
theorem along_x (h : c.ok) (u v : Pt) : Rep (alongF (c.spot u, c.spot v)).1 ((v.1 - u.1) * c.T) c.B :=
  rep_cast (rep_sub (rep_x h v) (rep_x h u)) (by grind)
theorem along_y (h : c.ok) (u v : Pt) : Rep (alongF (c.spot u, c.spot v)).2 ((v.2 - u.2) * c.T) c.B :=
  rep_cast (rep_sub (rep_y h v) (rep_y h u)) (by grind)
theorem side_eq (h : c.ok) (w : Wl) (s : Pt) : sideF (c.wall w) (c.spot s) = sideU w s := by
  have hx := along_x h w.1 w.2
  have hy := along_y h w.1 w.2
  have kx := along_x h w.1 s
  have ky := along_y h w.1 s
  have hc := rep_sub (rep_mul hx ky) (rep_mul hy kx)
  have e := rep_sgn (Int.mul_pos h.2 h.2) hc
  have e2 : (w.2.1 - w.1.1) * c.T * ((s.2 - w.1.2) * c.T) - (w.2.2 - w.1.2) * c.T * ((s.1 - w.1.1) * c.T) = (c.T * c.T) * turnU w.1 w.2 s := by
    unfold turnU
    grind
  rw [e2, sgn_mul_pos (Int.mul_pos h.1 h.1)] at e
  exact e
theorem spans_eq (h : c.ok) (w : Wl) (s : Pt) : spansG aheadF (c.wall w) (c.spot s) = spansG aheadU w s := by
  unfold spansG Sc.wall
  simp only
  rw [ahead_eq h, ahead_eq h]
theorem above_eq (h : c.ok) (a b : Wl) : aboveG aheadF sideF (c.wall a) (c.wall b) = aboveG aheadU sideU a b := by
  have e0 : bothG aheadF (c.wall a) (c.wall b) = bothG aheadU a b := by
    unfold bothG Sc.wall
    simp only
    rw [ahead_eq h, ahead_eq h]
  have e1 : endG aheadF (c.wall a) (c.wall b) = (c.spot (endG aheadU a b).1, (endG aheadU a b).2) := by
    unfold endG
    have f1 : ((c.wall a).1 = (c.wall b).1) ↔ a.1 = b.1 := spot_inj h
    have f2 : aheadF (c.wall a).2 (c.wall b).2 = aheadU a.2 b.2 := ahead_eq h _ _
    have f3 : aheadF (c.wall a).1 (c.wall b).1 = aheadU a.1 b.1 := ahead_eq h _ _
    rw [f2, f3]
    by_cases g : a.1 = b.1
    · rw [if_pos g, if_pos (f1.mpr g)]
      split <;> rfl
    · rw [if_neg g, if_neg (fun z => g (f1.mp z))]
      split <;> rfl
  unfold aboveG
  rw [e0, e1]
  simp only
  rw [side_eq h, side_eq h]
end
/-- sizes -/
def FB (n : Nat) (p : Fr) : Prop := p.1.natAbs < 2 ^ n ∧ 0 < p.2 ∧ p.2.natAbs < 2 ^ n
theorem frac_le1 {t b : Int} (h : 0 < b) : (frac t b).1.natAbs ≤ t.natAbs := by
  have g := gcdI_pos (t := t) h
  have e := congrArg Int.natAbs (frac_1 t b)
  rw [Int.natAbs_mul] at e
  rw [← e]
  exact Nat.le_mul_of_pos_right _ (by omega)
theorem frac_le2 {t b : Int} (h : 0 < b) : (frac t b).2.natAbs ≤ b.natAbs := by
  have g := gcdI_pos (t := t) h
  have e := congrArg Int.natAbs (frac_2 t b)
  rw [Int.natAbs_mul] at e
  rw [← e]
  exact Nat.le_mul_of_pos_right _ (by omega)
theorem frac_FB {t b : Int} {n : Nat} (h : 0 < b) (ht : t.natAbs < 2 ^ n) (hb : b.natAbs < 2 ^ n) : FB n (frac t b) :=
  ⟨Nat.lt_of_le_of_lt (frac_le1 h) ht, frac_pos h, Nat.lt_of_le_of_lt (frac_le2 h) hb⟩
theorem FB.mono {n m : Nat} {p : Fr} (h : FB n p) (le : n ≤ m) : FB m p :=
  have k : 2 ^ n ≤ 2 ^ m := Nat.pow_le_pow_right (by decide) le
  ⟨Nat.lt_of_lt_of_le h.1 k, h.2.1, Nat.lt_of_lt_of_le h.2.2 k⟩
theorem mul_bd {i j : Int} {a b : Nat} (ha : i.natAbs < 2 ^ a) (hb : j.natAbs < 2 ^ b) : (i * j).natAbs < 2 ^ (a + b) := by
  rw [Int.natAbs_mul, Nat.pow_add]
  exact Nat.mul_lt_mul'' ha hb
theorem sub_top {p q : Fr} {n : Nat} (hp : FB n p) (hq : FB n q) : (p.1 * q.2 - q.1 * p.2).natAbs < 2 ^ (2 * n + 1) := by
  have h1 := mul_bd hp.1 hq.2.2
  have h2 := mul_bd hq.1 hp.2.2
  have e : 2 ^ (2 * n + 1) = 2 ^ (n + n) + 2 ^ (n + n) := by rw [Nat.pow_succ, Nat.mul_two, Nat.two_mul]
  omega
theorem bot_pos {p q : Fr} {n : Nat} (hp : FB n p) (hq : FB n q) : 0 < p.2 * q.2 := Int.mul_pos hp.2.1 hq.2.1
theorem bot_bd {p q : Fr} {n : Nat} (hp : FB n p) (hq : FB n q) : (p.2 * q.2).natAbs < 2 ^ (2 * n + 1) := by
  have h1 := mul_bd hp.2.2 hq.2.2
  have e : 2 ^ (2 * n + 1) = 2 ^ (n + n) + 2 ^ (n + n) := by rw [Nat.pow_succ, Nat.mul_two, Nat.two_mul]
  omega
theorem mul_top {p q : Fr} {n : Nat} (hp : FB n p) (hq : FB n q) : (p.1 * q.1).natAbs < 2 ^ (2 * n + 1) := by
  have h1 := mul_bd hp.1 hq.1
  have e : 2 ^ (2 * n + 1) = 2 ^ (n + n) + 2 ^ (n + n) := by rw [Nat.pow_succ, Nat.mul_two, Nat.two_mul]
  omega
theorem sub_FB {p q : Fr} {n : Nat} (hp : FB n p) (hq : FB n q) : FB (2 * n + 1) (subF p q) := frac_FB (bot_pos hp hq) (sub_top hp hq) (bot_bd hp hq)
theorem mul_FB {p q : Fr} {n : Nat} (hp : FB n p) (hq : FB n q) : FB (2 * n + 1) (mulF p q) := frac_FB (bot_pos hp hq) (mul_top hp hq) (bot_bd hp hq)
end K16

/-! the plane: two walls that meet at ends alone -/
namespace K16
/-- a straight line's sum of two heights between its ends -/
theorem lin_pos {l h q r el eh b F : Int} (h1 : l ≤ q) (h2 : q < r) (h3 : r ≤ h) (he : eh = el + b * (h - l)) (hF : F = 2 * el + b * (q + r - 2 * l))
    (p1 : 0 ≤ el) (p2 : 0 ≤ eh) (p3 : 0 < el ∨ 0 < eh) : 0 < F := by
  have k : (h - l) * F = el * (2 * h - q - r) + eh * (q + r - 2 * l) := by subst he hF; grind
  have w : 0 < h - l := by omega
  have u : 0 < 2 * h - q - r := by omega
  have v : 0 < q + r - 2 * l := by omega
  have a1 : 0 ≤ el * (2 * h - q - r) := Int.mul_nonneg p1 (by omega)
  have a2 : 0 ≤ eh * (q + r - 2 * l) := Int.mul_nonneg p2 (by omega)
  have a3 : 0 < (h - l) * F := by
    rcases p3 with p | p
    · have := Int.mul_pos p u; omega
    · have := Int.mul_pos p v; omega
  exact Int.pos_of_mul_pos_right a3 w
theorem lin_neg {l h q r el eh b F : Int} (h1 : l ≤ q) (h2 : q < r) (h3 : r ≤ h) (he : eh = el + b * (h - l)) (hF : F = 2 * el + b * (q + r - 2 * l))
    (p1 : el ≤ 0) (p2 : eh ≤ 0) (p3 : el < 0 ∨ eh < 0) : F < 0 := by
  have := lin_pos (el := -el) (eh := -eh) (b := -b) (F := -F) h1 h2 h3 (by subst he; grind) (by subst hF; grind) (by omega) (by omega) (by omega)
  omega
/-- what is right and left of a falling line's place -/
theorem fall_l {l x el b : Int} (hb : b < 0) (h : x ≤ l) (p : 0 < el) : 0 < el + b * (x - l) := by
  have : 0 ≤ (-b) * (l - x) := Int.mul_nonneg (by omega) (by omega)
  have e : (-b) * (l - x) = b * (x - l) := by grind
  omega
theorem fall_r {l x el b : Int} (hb : b < 0) (h : l ≤ x) (p : el < 0) : el + b * (x - l) < 0 := by
  have : 0 ≤ (-b) * (x - l) := Int.mul_nonneg (by omega) (by omega)
  have e : (-b) * (x - l) = -(b * (x - l)) := by grind
  omega
theorem slope_neg {l h el eh b : Int} (hlh : l < h) (he : eh = el + b * (h - l)) (p1 : 0 < el) (p2 : eh < 0) : b < 0 := by
  by_cases h' : b < 0
  · exact h'
  · have : 0 ≤ b * (h - l) := Int.mul_nonneg (by omega) (by omega)
    omega
theorem core {A1 A2 B1 B2 q r b e1 e2 e3 e4 : Int} (qa : A1 ≤ q) (qb : B1 ≤ q) (qr : q < r) (ra : r ≤ A2) (rb : r ≤ B2)
    (h2 : e2 = e1 + b * (A2 - A1)) (h3 : e3 = e1 + b * (B1 - A1)) (h4 : e4 = e1 + b * (B2 - A1))
    (f1 : B1 < A1 → e1 ≠ 0) (f2 : A2 < B2 → e2 ≠ 0) (f3 : A1 < B1 → e3 ≠ 0) (f4 : B2 < A2 → e4 ≠ 0)
    (z1 : A1 = B1 → e1 = 0) (z2 : A2 = B2 → e2 = 0) (f0 : ¬ (A1 = B1 ∧ A2 = B2))
    (c1 : ¬ (0 < e1 ∧ e2 < 0 ∧ 0 < e3 ∧ e4 < 0)) (c2 : ¬ (e1 < 0 ∧ 0 < e2 ∧ e3 < 0 ∧ 0 < e4)) :
    (if A1 = B1 then (if A2 < B2 then 0 < e2 else 0 < e4) else (if A1 < B1 then 0 < e3 else 0 < e1)) ↔ 0 < 2 * e1 + b * (q + r - 2 * A1) := by
  -- the left end of the common stretch
  obtain ⟨l, el, l1, l2, l3, hel, hl0, hlz, hls⟩ : ∃ l el, A1 ≤ l ∧ B1 ≤ l ∧ l ≤ q ∧ el = e1 + b * (l - A1) ∧ (¬ A1 = B1 → el ≠ 0) ∧ (A1 = B1 → el = 0) ∧
      (¬ A1 = B1 → ((if A1 < B1 then 0 < e3 else 0 < e1) ↔ 0 < el)) := by
    by_cases h : A1 < B1
    · exact ⟨B1, e3, by omega, by omega, qb, h3, fun _ => f3 h, fun z => by omega, fun _ => by rw [if_pos h]⟩
    · refine ⟨A1, e1, by omega, by omega, qa, ?_, fun z => f1 (by omega), z1, fun _ => by rw [if_neg h]⟩
      rw [Int.sub_self, Int.mul_zero, Int.add_zero]
  obtain ⟨h, eh, r1, r2, r3, heh, hh0, hhz, hhs⟩ : ∃ h eh, h ≤ A2 ∧ h ≤ B2 ∧ r ≤ h ∧ eh = e1 + b * (h - A1) ∧ (¬ A2 = B2 → eh ≠ 0) ∧ (A2 = B2 → eh = 0) ∧
      (¬ A2 = B2 → ((if A2 < B2 then 0 < e2 else 0 < e4) ↔ 0 < eh)) := by
    by_cases h : A2 < B2
    · exact ⟨A2, e2, by omega, by omega, ra, h2, fun _ => f2 h, fun z => by omega, fun _ => by rw [if_pos h]⟩
    · refine ⟨B2, e4, by omega, by omega, rb, h4, fun z => f4 (by omega), fun z => ?_, fun _ => by rw [if_neg h]⟩
      have := z2 z
      rw [h2, z, ← h4] at this
      exact this
  have hE : eh = el + b * (h - l) := by subst hel heh; grind
  have hF : 2 * e1 + b * (q + r - 2 * A1) = 2 * el + b * (q + r - 2 * l) := by subst hel; grind
  have k1 : e1 = el + b * (A1 - l) := by subst hel; grind
  have k2 : e2 = eh + b * (A2 - h) := by subst heh h2; grind
  have k3 : e3 = el + b * (B1 - l) := by subst hel h3; grind
  have k4 : e4 = eh + b * (B2 - h) := by subst heh h4; grind
  have lh : l < h := by omega
  have no1 : ¬ (0 < el ∧ eh < 0) := fun ⟨p, n⟩ => by
    have hb := slope_neg lh hE p n
    exact c1 ⟨by rw [k1]; exact fall_l hb l1 p, by rw [k2]; exact fall_r hb r1 n, by rw [k3]; exact fall_l hb l2 p, by rw [k4]; exact fall_r hb r2 n⟩
  have no2 : ¬ (el < 0 ∧ 0 < eh) := fun ⟨n, p⟩ => by
    have hb := slope_neg (el := -el) (eh := -eh) (b := -b) lh (by rw [hE]; grind) (by omega) (by omega)
    have g1 := fall_l (el := -el) hb l1 (by omega)
    have g2 := fall_r (el := -eh) hb r1 (by omega)
    have g3 := fall_l (el := -el) hb l2 (by omega)
    have g4 := fall_r (el := -eh) hb r2 (by omega)
    rw [Int.neg_mul] at g1 g2 g3 g4
    exact c2 ⟨by omega, by omega, by omega, by omega⟩
  rw [hF]
  by_cases ha : A1 = B1
  · have hB : ¬ A2 = B2 := fun z => f0 ⟨ha, z⟩
    rw [if_pos ha, hhs hB]
    have e0 := hlz ha
    have n0 := hh0 hB
    constructor
    · intro p
      exact lin_pos l3 qr r3 hE rfl (by omega) (by omega) (.inr p)
    · intro p
      by_cases g : 0 < eh
      · exact g
      · have := lin_neg l3 qr r3 hE rfl (by omega) (by omega) (.inr (by omega))
        omega
  · rw [if_neg ha, hls ha]
    have n0 := hl0 ha
    constructor
    · intro p
      exact lin_pos l3 qr r3 hE rfl (by omega) (by omega) (.inl p)
    · intro p
      by_cases g : 0 < el
      · exact g
      · have := lin_neg l3 qr r3 hE rfl (by omega) (by omega) (.inl (by omega))
        omega

/-! the mirror of the law's own tests -/
def leU (p q : Pt) : Bool := if p.1 = q.1 then decide (p.2 ≤ q.2) else decide (p.1 ≤ q.1)
def onU (w : Wl) (s : Pt) : Bool := leU w.1 s && leU s w.2 && decide (sideU w s = 0)
def badU (w : Wl) (s : Pt) : Bool := !(decide (w.1 = s) || decide (w.2 = s)) && onU w s
def fairU (a b : Wl) : Bool :=
  if a = b then false
  else if badU a b.1 || badU a b.2 || badU b a.1 || badU b a.2 then false
  else decide (0 ≤ sideU a b.1 * sideU a b.2) || decide (0 ≤ sideU b a.1 * sideU b a.2)
def inG (p : Pt) : Prop := 0 ≤ p.1 ∧ p.1 ≤ 4 ∧ 0 ≤ p.2 ∧ p.2 ≤ 4
def WF (w : Wl) : Prop := inG w.1 ∧ inG w.2 ∧ aheadU w.1 w.2 = true
/-- the place in the order of spots -/
def xi (p : Pt) : Int := 5 * p.1 + p.2
theorem ahead_xi {p q : Pt} (hp : inG p) (hq : inG q) : aheadU p q = true ↔ xi p < xi q := by
  unfold aheadU xi
  unfold inG at hp hq
  split <;> rw [decide_eq_true_eq] <;> omega
theorem le_xi {p q : Pt} (hp : inG p) (hq : inG q) : leU p q = true ↔ xi p ≤ xi q := by
  unfold leU xi
  unfold inG at hp hq
  split <;> rw [decide_eq_true_eq] <;> omega
theorem eq_xi {p q : Pt} (hp : inG p) (hq : inG q) : p = q ↔ xi p = xi q := by
  unfold xi
  unfold inG at hp hq
  constructor
  · intro e; rw [e]
  · intro e
    exact Prod.ext (by omega) (by omega)
/-- two walls that meet at ends alone -/
structure Fair (a b : Wl) : Prop where
  ne : a ≠ b
  b1 : badU a b.1 = false
  b2 : badU a b.2 = false
  b3 : badU b a.1 = false
  b4 : badU b a.2 = false
  pr : 0 ≤ sideU a b.1 * sideU a b.2 ∨ 0 ≤ sideU b a.1 * sideU b a.2
theorem Fair.symm {a b : Wl} (h : Fair a b) : Fair b a := ⟨fun e => h.ne e.symm, h.b3, h.b4, h.b1, h.b2, h.pr.symm⟩
theorem fair_of {a b : Wl} (h : fairU a b = true) : Fair a b := by
  unfold fairU at h
  split at h
  · cases h
  · rename_i h1
    split at h
    · cases h
    · rename_i h2
      simp only [Bool.or_eq_true, decide_eq_true_eq] at h
      simp only [Bool.or_eq_true, not_or, Bool.not_eq_true] at h2
      exact ⟨h1, h2.1.1.1, h2.1.1.2, h2.1.2, h2.2, h⟩
def wd (w : Wl) : Int := xi w.2 - xi w.1
/-- twice the height between q and r, times the width -/
def ht (w : Wl) (q r : Int) : Int := 2 * (w.1.2 * wd w) + (w.2.2 - w.1.2) * (q + r - 2 * xi w.1)
theorem bad_at {w : Wl} {s : Pt} (hw : WF w) (hs : inG s) (h : badU w s = false) (h1 : xi w.1 < xi s) (h2 : xi s < xi w.2) : turnU w.1 w.2 s ≠ 0 := fun z => by
  have e1 : ¬ w.1 = s := fun e => by rw [e] at h1; omega
  have e2 : ¬ w.2 = s := fun e => by rw [e] at h2; omega
  have l1 := (le_xi hw.1 hs).mpr (by omega)
  have l2 := (le_xi hs hw.2.1).mpr (by omega)
  have zz : sideU w s = 0 := by unfold sideU; rw [z]; rfl
  unfold badU onU at h
  rw [decide_eq_false e1, decide_eq_false e2, l1, l2, decide_eq_true zz] at h
  cases h
theorem above_xi {a b : Wl} (ha : WF a) (hb : WF b) : aboveG aheadU sideU a b = true ↔ (xi a.1 < xi b.2 ∧ xi b.1 < xi a.2) ∧
    (if xi a.1 = xi b.1 then (if xi a.2 < xi b.2 then 0 < turnU b.1 b.2 a.2 else turnU a.1 a.2 b.2 < 0) else (if xi a.1 < xi b.1 then turnU a.1 a.2 b.1 < 0 else 0 < turnU b.1 b.2 a.1)) := by
  have s1 : ∀ (w : Wl) (s : Pt), sideU w s = 1 ↔ 0 < turnU w.1 w.2 s := fun w s => sgn_eq_one
  have s2 : ∀ (w : Wl) (s : Pt), sideU w s = -1 ↔ turnU w.1 w.2 s < 0 := fun w s => sgn_eq_neg
  have hb0 : bothG aheadU a b = true ↔ (xi a.1 < xi b.2 ∧ xi b.1 < xi a.2) := by
    unfold bothG
    rw [Bool.and_eq_true, ahead_xi ha.1 hb.2.1, ahead_xi hb.1 ha.2.1]
  unfold aboveG
  by_cases g : bothG aheadU a b = true
  · rw [if_pos g]
    have g' := hb0.mp g
    refine Iff.trans ?_ (and_iff_right g').symm
    unfold endG
    by_cases e : a.1 = b.1
    · have e' := (eq_xi ha.1 hb.1).mp e
      rw [if_pos e, if_pos e']
      by_cases f : aheadU a.2 b.2 = true
      · have f' := (ahead_xi ha.2.1 hb.2.1).mp f
        rw [if_pos f, if_pos f', if_pos rfl, decide_eq_true_eq, s1]
      · have f' : ¬ xi a.2 < xi b.2 := fun z => f ((ahead_xi ha.2.1 hb.2.1).mpr z)
        rw [if_neg f, if_neg f', if_neg (by simp), decide_eq_true_eq, s2]
    · have e' : ¬ xi a.1 = xi b.1 := fun z => e ((eq_xi ha.1 hb.1).mpr z)
      rw [if_neg e, if_neg e']
      by_cases f : aheadU a.1 b.1 = true
      · have f' := (ahead_xi ha.1 hb.1).mp f
        rw [if_pos f, if_pos f', if_neg (by simp), decide_eq_true_eq, s2]
      · have f' : ¬ xi a.1 < xi b.1 := fun z => f ((ahead_xi ha.1 hb.1).mpr z)
        rw [if_neg f, if_neg f', if_pos rfl, decide_eq_true_eq, s1]
  · rw [if_neg g]
    have g' := fun z => g (hb0.mpr z)
    constructor
    · intro z; cases z
    · intro z; exact absurd z.1 g'
theorem lt_iff_mul {k x y : Int} (hk : 0 < k) (e : y = k * x) : 0 < x ↔ 0 < y := by
  subst e
  constructor
  · exact fun h => Int.mul_pos hk h
  · intro h
    exact Int.pos_of_mul_pos_right h hk
set_option maxHeartbeats 4000000 in
theorem main {a b : Wl} (ha : WF a) (hb : WF b) (f : Fair a b) {q r : Int} (qa : xi a.1 ≤ q) (qb : xi b.1 ≤ q) (qr : q < r) (ra : r ≤ xi a.2) (rb : r ≤ xi b.2) :
    aboveG aheadU sideU a b = true ↔ ht b q r * wd a < ht a q r * wd b := by
  have wa : 0 < wd a := by have := (ahead_xi ha.1 ha.2.1).mp ha.2.2; unfold wd; omega
  have wb : 0 < wd b := by have := (ahead_xi hb.1 hb.2.1).mp hb.2.2; unfold wd; omega
  have k1 : 0 < 5 * wd a := by omega
  have k2 : 0 < 5 * wd b := by omega
  -- the differences of the heights at the four ends
  let bt : Int := (a.2.2 - a.1.2) * wd b - (b.2.2 - b.1.2) * wd a
  have hbt : bt = (a.2.2 - a.1.2) * wd b - (b.2.2 - b.1.2) * wd a := rfl
  have t1 : ∀ x : Int, x = 5 * wd a * turnU b.1 b.2 a.1 → x = (a.1.2 * wd a) * wd b - (b.1.2 * wd b + (b.2.2 - b.1.2) * (xi a.1 - xi b.1)) * wd a := by
    intro x e; subst e; unfold wd xi turnU; grind
  have d2 : 5 * wd a * turnU b.1 b.2 a.2 = 5 * wd a * turnU b.1 b.2 a.1 + bt * (xi a.2 - xi a.1) := by rw [hbt]; unfold wd xi turnU; grind
  have d3 : -(5 * wd b * turnU a.1 a.2 b.1) = 5 * wd a * turnU b.1 b.2 a.1 + bt * (xi b.1 - xi a.1) := by rw [hbt]; unfold wd xi turnU; grind
  have d4 : -(5 * wd b * turnU a.1 a.2 b.2) = 5 * wd a * turnU b.1 b.2 a.1 + bt * (xi b.2 - xi a.1) := by rw [hbt]; unfold wd xi turnU; grind
  have dF : ht a q r * wd b - ht b q r * wd a = 2 * (5 * wd a * turnU b.1 b.2 a.1) + bt * (q + r - 2 * xi a.1) := by rw [hbt]; unfold ht wd xi turnU; grind
  have p1 : ∀ t, 0 < t ↔ 0 < 5 * wd a * t := fun t => lt_iff_mul k1 rfl
  have p1n : ∀ t, t < 0 ↔ 5 * wd a * t < 0 := fun t => by
    have := p1 (-t)
    rw [Int.mul_neg] at this
    omega
  have p2 : ∀ t, 0 < t ↔ 0 < 5 * wd b * t := fun t => lt_iff_mul k2 rfl
  have p2n : ∀ t, t < 0 ↔ 5 * wd b * t < 0 := fun t => by
    have := p2 (-t)
    rw [Int.mul_neg] at this
    omega
  have n1 : xi b.1 < xi a.1 → turnU b.1 b.2 a.1 ≠ 0 := fun h => bad_at hb ha.1 f.b3 h (by omega)
  have n2 : xi a.2 < xi b.2 → turnU b.1 b.2 a.2 ≠ 0 := fun h => bad_at hb ha.2.1 f.b4 (by omega) h
  have n3 : xi a.1 < xi b.1 → turnU a.1 a.2 b.1 ≠ 0 := fun h => bad_at ha hb.1 f.b1 h (by omega)
  have n4 : xi b.2 < xi a.2 → turnU a.1 a.2 b.2 ≠ 0 := fun h => bad_at ha hb.2.1 f.b2 (by omega) h
  have y1 : xi a.1 = xi b.1 → turnU b.1 b.2 a.1 = 0 := fun h => by
    have e := (eq_xi ha.1 hb.1).mpr h
    rw [e]; unfold turnU; grind
  have y2 : xi a.2 = xi b.2 → turnU b.1 b.2 a.2 = 0 := fun h => by
    have e := (eq_xi ha.2.1 hb.2.1).mpr h
    rw [e]; unfold turnU; grind
  have y0 : ¬ (xi a.1 = xi b.1 ∧ xi a.2 = xi b.2) := fun ⟨h1, h2⟩ => f.ne (Prod.ext ((eq_xi ha.1 hb.1).mpr h1) ((eq_xi ha.2.1 hb.2.1).mpr h2))
  have pr : 0 ≤ sgn (turnU a.1 a.2 b.1) * sgn (turnU a.1 a.2 b.2) ∨ 0 ≤ sgn (turnU b.1 b.2 a.1) * sgn (turnU b.1 b.2 a.2) := f.pr
  have x1 : ¬ (0 < turnU b.1 b.2 a.1 ∧ turnU b.1 b.2 a.2 < 0 ∧ turnU a.1 a.2 b.1 < 0 ∧ 0 < turnU a.1 a.2 b.2) := fun ⟨h1, h2, h3, h4⟩ => by
    rw [sgn_pos h1, sgn_neg h2, sgn_neg h3, sgn_pos h4] at pr
    omega
  have x2 : ¬ (turnU b.1 b.2 a.1 < 0 ∧ 0 < turnU b.1 b.2 a.2 ∧ 0 < turnU a.1 a.2 b.1 ∧ turnU a.1 a.2 b.2 < 0) := fun ⟨h1, h2, h3, h4⟩ => by
    rw [sgn_neg h1, sgn_pos h2, sgn_pos h3, sgn_neg h4] at pr
    omega
  have q1 := p1 (turnU b.1 b.2 a.1)
  have q2 := p1 (turnU b.1 b.2 a.2)
  have q3 := p2 (turnU a.1 a.2 b.1)
  have q4 := p2 (turnU a.1 a.2 b.2)
  have q1n := p1n (turnU b.1 b.2 a.1)
  have q2n := p1n (turnU b.1 b.2 a.2)
  have q3n := p2n (turnU a.1 a.2 b.1)
  have q4n := p2n (turnU a.1 a.2 b.2)
  have z := core (A1 := xi a.1) (A2 := xi a.2) (B1 := xi b.1) (B2 := xi b.2) (b := bt) (e1 := 5 * wd a * turnU b.1 b.2 a.1) (e2 := 5 * wd a * turnU b.1 b.2 a.2) (e3 := -(5 * wd b * turnU a.1 a.2 b.1)) (e4 := -(5 * wd b * turnU a.1 a.2 b.2))
    qa qb qr ra rb d2 d3 d4
  generalize 5 * wd a * turnU b.1 b.2 a.1 = e1 at *
  generalize 5 * wd a * turnU b.1 b.2 a.2 = e2 at *
  generalize 5 * wd b * turnU a.1 a.2 b.1 = e3 at *
  generalize 5 * wd b * turnU a.1 a.2 b.2 = e4 at *
  have z := z (fun h => by have := n1 h; omega) (fun h => by have := n2 h; omega) (fun h => by have := n3 h; omega) (fun h => by have := n4 h; omega)
    (fun h => by have := y1 h; omega) (fun h => by have := y2 h; omega) y0 (by omega) (by omega)
  rw [above_xi ha hb, and_iff_right ⟨by omega, by omega⟩, show (ht b q r * wd a < ht a q r * wd b) ↔ 0 < ht a q r * wd b - ht b q r * wd a from by omega, dF, ← z]
  by_cases g : xi a.1 = xi b.1
  · rw [if_pos g, if_pos g]
    by_cases g2 : xi a.2 < xi b.2
    · rw [if_pos g2, if_pos g2]; omega
    · rw [if_neg g2, if_neg g2]; omega
  · rw [if_neg g, if_neg g]
    by_cases g2 : xi a.1 < xi b.1
    · rw [if_pos g2, if_pos g2]; omega
    · rw [if_neg g2, if_neg g2]; omega
end K16

/-! above goes nowhere round -/
namespace K16
abbrev abv (a b : Wl) : Bool := aboveG aheadU sideU a b
abbrev spn (w : Wl) (p : Pt) : Bool := spansG aheadU w p
theorem spn_xi {w : Wl} {p : Pt} (hw : WF w) (hp : inG p) : spn w p = true ↔ xi w.1 ≤ xi p ∧ xi p < xi w.2 := by
  unfold spn spansG
  have h1 := ahead_xi hp hw.1
  have h2 := ahead_xi hp hw.2.1
  rw [Bool.and_eq_true, h2, Bool.not_eq_true']
  constructor
  · rintro ⟨g1, g2⟩
    refine ⟨?_, g2⟩
    by_cases z : xi p < xi w.1
    · rw [h1.mpr z] at g1; cases g1
    · omega
  · rintro ⟨g1, g2⟩
    refine ⟨?_, g2⟩
    cases e : aheadU p w.1 with
    | false => rfl
    | true => have := h1.mp e; omega
theorem abv_both {a b : Wl} (ha : WF a) (hb : WF b) (h : abv a b = true) : xi a.1 < xi b.2 ∧ xi b.1 < xi a.2 := ((above_xi ha hb).mp h).1
theorem abv_self {a : Wl} (ha : WF a) : abv a a = false := by
  cases e : abv a a with
  | false => rfl
  | true =>
    have h := ((above_xi ha ha).mp e).2
    rw [if_pos rfl, if_neg (Int.lt_irrefl _)] at h
    have z : turnU a.1 a.2 a.2 = 0 := by unfold turnU; grind
    omega
/-- two of a plot: the same, or fair -/
def Two (a b : Wl) : Prop := WF a ∧ WF b ∧ (a = b ∨ Fair a b)
theorem trans_mul {x y z p q r : Int} (hp : 0 < p) (hq : 0 < q) (hr : 0 < r) (h1 : y * p < x * q) (h2 : z * q < y * r) : z * p < x * r := by
  have a1 := Int.mul_lt_mul_of_pos_right h1 hr
  have a2 := Int.mul_lt_mul_of_pos_right h2 hp
  have : (z * p) * q < (x * r) * q := by
    have e1 : y * p * r = y * r * p := by grind
    have e2 : z * q * p = z * p * q := by grind
    have e3 : x * q * r = x * r * q := by grind
    omega
  exact Int.lt_of_mul_lt_mul_right this (by omega)
theorem wd_pos {a : Wl} (ha : WF a) : 0 < wd a := by have := (ahead_xi ha.1 ha.2.1).mp ha.2.2; unfold wd; omega
/-- of three walls that span one spot -/
theorem abv_trans {a b c : Wl} (hab : Two a b) (hbc : Two b c) (hac : Two a c) (h1 : abv a b = true) (h2 : abv b c = true) {p : Pt} (hp : inG p) (pa : spn a p = true) (pb : spn b p = true) (pc : spn c p = true) : abv a c = true := by
  have ha := hab.1
  have hb := hab.2.1
  have hc := hac.2.1
  have sa := (spn_xi ha hp).mp pa
  have sb := (spn_xi hb hp).mp pb
  have sc := (spn_xi hc hp).mp pc
  rcases hab.2.2 with e | fab
  · subst e; rw [abv_self ha] at h1; cases h1
  rcases hbc.2.2 with e | fbc
  · subst e; rw [abv_self hb] at h2; cases h2
  obtain ⟨r, r0, ra, rb, rc⟩ : ∃ r, xi p < r ∧ r ≤ xi a.2 ∧ r ≤ xi b.2 ∧ r ≤ xi c.2 := ⟨xi p + 1, by omega, by omega, by omega, by omega⟩
  have m1 := (main ha hb fab sa.1 sb.1 r0 ra rb).mp h1
  have m2 := (main hb hc fbc sb.1 sc.1 r0 rb rc).mp h2
  have m3 := trans_mul (wd_pos ha) (wd_pos hb) (wd_pos hc) m1 m2
  rcases hac.2.2 with e | fac
  · subst e; omega
  exact (main ha hc fac sa.1 sc.1 r0 ra rc).mpr m3

/-! something greatest in a list -/
theorem max_rel {α : Type} (R : α → α → Prop) : ∀ (l : List α), (∀ x ∈ l, ¬ R x x) → (∀ x ∈ l, ∀ y ∈ l, ∀ z ∈ l, R x y → R y z → R x z) → l ≠ [] → ∃ m ∈ l, ∀ y ∈ l, ¬ R y m
  | [], _, _, h => absurd rfl h
  | [x], hi, _, _ => ⟨x, List.mem_singleton.mpr rfl, fun y hy => by rw [List.mem_singleton.mp hy]; exact hi x (List.mem_singleton.mpr rfl)⟩
  | x :: y :: r, hi, ht, _ => by
    obtain ⟨m, hm, h⟩ := max_rel R (y :: r) (fun z hz => hi z (List.mem_cons_of_mem _ hz)) (fun a ha b hb c hc => ht a (List.mem_cons_of_mem _ ha) b (List.mem_cons_of_mem _ hb) c (List.mem_cons_of_mem _ hc)) (by simp)
    by_cases g : R x m
    · refine ⟨x, List.mem_cons_self, fun z hz k => ?_⟩
      rcases List.mem_cons.mp hz with e | hz'
      · subst e; exact hi z List.mem_cons_self k
      · exact h z hz' (ht z hz x List.mem_cons_self m (List.mem_cons_of_mem _ hm) k g)
    · refine ⟨m, List.mem_cons_of_mem _ hm, fun z hz k => ?_⟩
      rcases List.mem_cons.mp hz with e | hz'
      · subst e; exact g k
      · exact h z hz' k
theorem max_key {α : Type} (P : α → Prop) (f : α → Int) : ∀ (l : List α), (∃ x ∈ l, P x) → ∃ m ∈ l, P m ∧ ∀ y ∈ l, P y → f y ≤ f m
  | [], h => by obtain ⟨x, hx, _⟩ := h; cases hx
  | x :: r, h => by
    by_cases g : ∃ y ∈ r, P y
    · obtain ⟨m, hm, pm, k⟩ := max_key P f r g
      by_cases gx : P x ∧ f m ≤ f x
      · refine ⟨x, List.mem_cons_self, gx.1, fun y hy py => ?_⟩
        rcases List.mem_cons.mp hy with e | hy
        · subst e; exact Int.le_refl _
        · exact Int.le_trans (k y hy py) gx.2
      · refine ⟨m, List.mem_cons_of_mem _ hm, pm, fun y hy py => ?_⟩
        rcases List.mem_cons.mp hy with e | hy
        · subst e
          have : ¬ f m ≤ f y := fun z => gx ⟨py, z⟩
          omega
        · exact k y hy py
    · obtain ⟨y, hy, py⟩ := h
      rcases List.mem_cons.mp hy with e | hy
      · subst e
        refine ⟨y, List.mem_cons_self, py, fun z hz pz => ?_⟩
        rcases List.mem_cons.mp hz with e | hz
        · subst e; exact Int.le_refl _
        · exact absurd ⟨z, hz, pz⟩ g
      · exact absurd ⟨y, hy, py⟩ g
/-- over T at a spot that it spans: an upper one there -/
theorem upper_at {L : List Wl} (hL : ∀ a ∈ L, ∀ b ∈ L, Two a b) {t : Wl} (ht : t ∈ L) {p : Pt} (hp : inG p) (sp : spn t p = true) :
    ∃ u ∈ L, spn u p = true ∧ (u = t ∨ abv u t = true) ∧ ∀ v ∈ L, spn v p = true → ¬ abv v u = true := by
  classical
  obtain ⟨m, hm, k⟩ := max_rel (fun x y => abv x y = true) (L.filter fun u => spn u p && (decide (u = t) || abv u t)) (fun x hx h => by
      have hx := (List.mem_filter.mp hx).1
      rw [abv_self (hL x hx x hx).1] at h; cases h)
    (fun x hx y hy z hz h1 h2 => by
      have hx := List.mem_filter.mp hx
      have hy := List.mem_filter.mp hy
      have hz := List.mem_filter.mp hz
      simp only [Bool.and_eq_true] at hx hy hz
      exact abv_trans (hL x hx.1 y hy.1) (hL y hy.1 z hz.1) (hL x hx.1 z hz.1) h1 h2 hp hx.2.1 hy.2.1 hz.2.1)
    (by
      have : t ∈ L.filter fun u => spn u p && (decide (u = t) || abv u t) := List.mem_filter.mpr ⟨ht, by simp [sp]⟩
      exact List.ne_nil_of_mem this)
  have hm := List.mem_filter.mp hm
  simp only [Bool.and_eq_true, Bool.or_eq_true, decide_eq_true_eq] at hm
  refine ⟨m, hm.1, hm.2.1, hm.2.2, fun v hv sv h => ?_⟩
  refine k v (List.mem_filter.mpr ⟨hv, ?_⟩) h
  simp only [Bool.and_eq_true, Bool.or_eq_true, decide_eq_true_eq]
  refine ⟨sv, .inr ?_⟩
  rcases hm.2.2 with e | e
  · rw [← e]; exact h
  · exact abv_trans (hL v hv m hm.1) (hL m hm.1 t ht) (hL v hv t ht) h e hp sv hm.2.1 sp
/-- as long as some are left, there is one above which none of those lies -/
theorem top_of {L : List Wl} (hL : ∀ a ∈ L, ∀ b ∈ L, Two a b) (h0 : L ≠ []) : ∃ t ∈ L, ∀ o ∈ L, abv o t = false := by
  have own : ∀ a ∈ L, spn a a.1 = true := fun a ha => by
    have w := (hL a ha a ha).1
    have := (ahead_xi w.1 w.2.1).mp w.2.2
    exact (spn_xi w w.1).mpr ⟨Int.le_refl _, this⟩
  -- some are seen from above at their first ends
  have ex : ∃ u ∈ L, ∀ v ∈ L, spn v u.1 = true → ¬ abv v u = true := by
    obtain ⟨x, hx⟩ := List.exists_mem_of_ne_nil L h0
    obtain ⟨m, hm, _, k⟩ := max_key (fun _ : Wl => True) (fun a => - xi a.1) L ⟨x, hx, trivial⟩
    have wm := (hL m hm m hm).1
    obtain ⟨u, hu, su, _, nu⟩ := upper_at hL hm wm.1 (own m hm)
    have wu := (hL u hu u hu).1
    have e1 := ((spn_xi wu wm.1).mp su).1
    have e2 := k u hu trivial
    have e3 : u.1 = m.1 := (eq_xi wu.1 wm.1).mpr (by omega)
    exact ⟨u, hu, by rw [e3]; exact nu⟩
  obtain ⟨s, hs, vs, ks⟩ := max_key (fun u : Wl => ∀ v ∈ L, spn v u.1 = true → ¬ abv v u = true) (fun a => xi a.1) L ex
  have ws := (hL s hs s hs).1
  by_cases g : ∃ t ∈ L, abv t s = true
  · exfalso
    obtain ⟨t, ht, as, kt⟩ := max_key (fun t : Wl => abv t s = true) (fun a => - xi a.1) L g
    have wt := (hL t ht t ht).1
    have b := abv_both wt ws as
    have hlt : xi s.1 < xi t.1 := by
      by_cases z : xi s.1 < xi t.1
      · exact z
      · exact absurd as (vs t ht ((spn_xi wt ws.1).mpr ⟨by omega, b.2⟩))
    have sps : spn s t.1 = true := (spn_xi ws wt.1).mpr ⟨by omega, b.1⟩
    obtain ⟨u, hu, su, ou, nu⟩ := upper_at hL ht wt.1 (own t ht)
    have wu := (hL u hu u hu).1
    have us : abv u s = true := by
      rcases ou with e | e
      · rw [e]; exact as
      · exact abv_trans (hL u hu t ht) (hL t ht s hs) (hL u hu s hs) e as wt.1 su (own t ht) sps
    have e1 := ((spn_xi wu wt.1).mp su).1
    have e2 := kt u hu us
    have e3 : u.1 = t.1 := (eq_xi wu.1 wt.1).mpr (by omega)
    have := ks u hu (by rw [e3]; exact nu)
    omega
  · refine ⟨s, hs, fun o ho => ?_⟩
    cases e : abv o s with
    | false => rfl
    | true => exact absurd ⟨o, ho, e⟩ g
end K16

namespace K16
open PySem PySem.Spec PyProof.Rows L2
/-! the text by places -/
def topS (i : Nat) : Stmt := PySem.Challenge.pw_spotlook_k16_whole_above_goes_nowhere_ro.main.body.getD i (.Pass ⟨0, 0, 0, 0⟩)
abbrev sDivisor : Stmt := topS 4
abbrev sFraction : Stmt := topS 5
abbrev sLess : Stmt := topS 6
abbrev sTimes : Stmt := topS 7
abbrev sIsLess : Stmt := topS 8
abbrev sIsAhead : Stmt := topS 10
abbrev sAlong : Stmt := topS 11
abbrev sCrossed : Stmt := topS 12
abbrev sLeaning : Stmt := topS 13
abbrev sSideOf : Stmt := topS 14
abbrev sSpans : Stmt := topS 16
abbrev sBoth : Stmt := topS 17
abbrev sParting : Stmt := topS 18
abbrev sIsAbove : Stmt := topS 19
abbrev sCell : Stmt := topS 21
abbrev sTake : Stmt := topS 22
abbrev sLow : Stmt := topS 23
abbrev sScale : Stmt := topS 24
abbrev sSpot : Stmt := topS 25
abbrev sMade : Stmt := topS 26
abbrev sTurn : Stmt := topS 27
abbrev sOn : Stmt := topS 28
abbrev sFair : Stmt := topS 29
abbrev sShuts : Stmt := topS 30
abbrev sRow3 : Stmt := topS 31
abbrev sLaw : Stmt := topS 32
theorem scDivisor : FnScope ["one", "other"] ["one", "other"] (defScope sDivisor) := ⟨rfl, rfl, rfl, by decide +kernel, rfl, by decide +kernel, by decide +kernel⟩
theorem scFraction : FnScope ["top", "bottom", "by"] ["top", "bottom"] (defScope sFraction) := ⟨rfl, rfl, rfl, by decide +kernel, rfl, by decide +kernel, by decide +kernel⟩
theorem scLess : FnScope ["one", "other"] ["one", "other"] (defScope sLess) := ⟨rfl, rfl, rfl, by decide +kernel, rfl, by decide +kernel, by decide +kernel⟩
theorem scTimes : FnScope ["one", "other"] ["one", "other"] (defScope sTimes) := ⟨rfl, rfl, rfl, by decide +kernel, rfl, by decide +kernel, by decide +kernel⟩
theorem scIsLess : FnScope ["one", "other"] ["one", "other"] (defScope sIsLess) := ⟨rfl, rfl, rfl, by decide +kernel, rfl, by decide +kernel, by decide +kernel⟩
theorem scIsAhead : FnScope ["one", "other"] ["one", "other"] (defScope sIsAhead) := ⟨rfl, rfl, rfl, by decide +kernel, rfl, by decide +kernel, by decide +kernel⟩
theorem scAlong : FnScope ["wall", "first", "second"] ["wall"] (defScope sAlong) := ⟨rfl, rfl, rfl, by decide +kernel, rfl, by decide +kernel, by decide +kernel⟩
theorem scCrossed : FnScope ["one", "other"] ["one", "other"] (defScope sCrossed) := ⟨rfl, rfl, rfl, by decide +kernel, rfl, by decide +kernel, by decide +kernel⟩
theorem scLeaning : FnScope ["one", "other", "found"] ["one", "other"] (defScope sLeaning) := ⟨rfl, rfl, rfl, by decide +kernel, rfl, by decide +kernel, by decide +kernel⟩
theorem scSideOf : FnScope ["wall", "spot"] ["wall", "spot"] (defScope sSideOf) := ⟨rfl, rfl, rfl, by decide +kernel, rfl, by decide +kernel, by decide +kernel⟩
theorem scSpans : FnScope ["wall", "spot"] ["wall", "spot"] (defScope sSpans) := ⟨rfl, rfl, rfl, by decide +kernel, rfl, by decide +kernel, by decide +kernel⟩
theorem scBoth : FnScope ["one", "other"] ["one", "other"] (defScope sBoth) := ⟨rfl, rfl, rfl, by decide +kernel, rfl, by decide +kernel, by decide +kernel⟩
theorem scParting : FnScope ["one", "other"] ["one", "other"] (defScope sParting) := ⟨rfl, rfl, rfl, by decide +kernel, rfl, by decide +kernel, by decide +kernel⟩
theorem scIsAbove : FnScope ["one", "other", "spot", "own"] ["one", "other"] (defScope sIsAbove) := ⟨rfl, rfl, rfl, by decide +kernel, rfl, by decide +kernel, by decide +kernel⟩
theorem scCell : FnScope ["_law_script", "_law_k"] ["_law_script", "_law_k"] (defScope sCell) := ⟨rfl, rfl, rfl, by decide +kernel, rfl, by decide +kernel, by decide +kernel⟩
theorem scTake : FnScope ["_law_row", "_law_base", "_law_rest", "_law_number"] ["_law_row", "_law_base"] (defScope sTake) := ⟨rfl, rfl, rfl, by decide +kernel, rfl, by decide +kernel, by decide +kernel⟩
theorem scLow : FnScope ["_law_top", "_law_bottom", "_law_one", "_law_other"] ["_law_top", "_law_bottom"] (defScope sLow) := ⟨rfl, rfl, rfl, by decide +kernel, rfl, by decide +kernel, by decide +kernel⟩
theorem scScale : FnScope ["_law_row", "_law_top", "_law_bottom", "_law_far"] ["_law_row"] (defScope sScale) := ⟨rfl, rfl, rfl, by decide +kernel, rfl, by decide +kernel, by decide +kernel⟩
theorem scSpot : FnScope ["_law_scale_here", "_law_unit", "_law_top", "_law_bottom", "_law_x", "_law_y"] ["_law_scale_here", "_law_unit"] (defScope sSpot) := ⟨rfl, rfl, rfl, by decide +kernel, rfl, by decide +kernel, by decide +kernel⟩
theorem scMade : FnScope ["_law_scale_here", "_law_shuts", "_law_first", "_law_second"] ["_law_scale_here", "_law_shuts"] (defScope sMade) := ⟨rfl, rfl, rfl, by decide +kernel, rfl, by decide +kernel, by decide +kernel⟩
theorem scTurn : FnScope ["_law_one", "_law_two", "_law_three", "_law_far", "_law_beside", "_law_found"] ["_law_one", "_law_two", "_law_three"] (defScope sTurn) := ⟨rfl, rfl, rfl, by decide +kernel, rfl, by decide +kernel, by decide +kernel⟩
theorem scOn : FnScope ["_law_shut", "_law_spot_here"] ["_law_shut", "_law_spot_here"] (defScope sOn) := ⟨rfl, rfl, rfl, by decide +kernel, rfl, by decide +kernel, by decide +kernel⟩
theorem scFair : FnScope ["_law_one", "_law_other", "_law_shut", "_law_beside", "_law_spot_here", "_law_sides", "_law_others"] ["_law_one", "_law_other"] (defScope sFair) := ⟨rfl, rfl, rfl, by decide +kernel, rfl, by decide +kernel, by decide +kernel⟩
theorem scShuts : FnScope ["_law_row", "_law_most", "_law_size", "_law_shuts", "_law_turn_here", "_law_one", "_law_other", "_law_shut", "_law_beside"] ["_law_row", "_law_most", "_law_size"] (defScope sShuts) := ⟨rfl, rfl, rfl, by decide +kernel, rfl, by decide +kernel, by decide +kernel⟩
theorem scRow3 : FnScope ["_law_plot", "_law_table", "_law_one", "_law_two", "_law_three", "_law_both", "_law_ends", "_law_shut", "_law_end", "_law_w"] ["_law_plot", "_law_table"] (defScope sRow3) := ⟨rfl, rfl, rfl, by decide +kernel, rfl, by decide +kernel, by decide +kernel⟩
theorem scLaw : FnScope ["_law_script", "_law_k", "_law_row", "_law_plot", "_law_many", "_law_table", "_law_one", "_law_other", "_law_left", "_law_tops"] ["_law_script"] (defScope sLaw) := ⟨rfl, rfl, rfl, by decide +kernel, rfl, by decide +kernel, by decide +kernel⟩
/-! things that stand in the heap -/
def FrA (H : Hp) (a : Addr) (p : Int × Int) : Prop := H a = some (.tup [.int p.1, .int p.2])
def SpA (H : Hp) (a : Addr) (s : Sp2) : Prop := ∃ a1 a2, H a = some (.tup [.ref a1, .ref a2]) ∧ FrA H a1 s.1 ∧ FrA H a2 s.2
def WfA (H : Hp) (a : Addr) (w : Wf) : Prop := ∃ a1 a2, H a = some (.tup [.ref a1, .ref a2]) ∧ SpA H a1 w.1 ∧ SpA H a2 w.2
def WlA (H : Hp) (a : Addr) (w : Wl) : Prop := ∃ a1 a2, H a = some (.tup [.ref a1, .ref a2]) ∧ FrA H a1 w.1 ∧ FrA H a2 w.2
/-- all stands but what is at r -/
def SameBut (r : Addr) (H H' : Hp) : Prop := ∀ b o, b ≠ r → H b = some o → H' b = some o
section
variable {H H' : Hp} {a r p : Addr} {o : HO}
theorem FrA.same {q : Int × Int} (h : FrA H a q) (s : Same H H') : FrA H' a q := s _ _ h
theorem SpA.same {q : Sp2} (h : SpA H a q) (s : Same H H') : SpA H' a q := by
  obtain ⟨a1, a2, h0, h1, h2⟩ := h
  exact ⟨a1, a2, s _ _ h0, h1.same s, h2.same s⟩
theorem WfA.same {q : Wf} (h : WfA H a q) (s : Same H H') : WfA H' a q := by
  obtain ⟨a1, a2, h0, h1, h2⟩ := h
  exact ⟨a1, a2, s _ _ h0, h1.same s, h2.same s⟩
theorem WlA.same {q : Wl} (h : WlA H a q) (s : Same H H') : WlA H' a q := by
  obtain ⟨a1, a2, h0, h1, h2⟩ := h
  exact ⟨a1, a2, s _ _ h0, h1.same s, h2.same s⟩
theorem same_new (h : H p = none) : Same H (upd H p o) := fun b x e => by rw [upd_ne (ne_of_none e h)]; exact e
theorem Same.but (h : Same H H') : SameBut r H H' := fun b o _ e => h b o e
theorem SameBut.refl : SameBut r H H := fun _ _ _ e => e
theorem SameBut.trans {H2 : Hp} (h : SameBut r H H') (h2 : SameBut r H' H2) : SameBut r H H2 := fun b o n e => h2 b o n (h b o n e)
theorem but_upd : SameBut r H (upd H r o) := fun b x n e => by rw [upd_ne n]; exact e
end
end K16

namespace K16
open PySem PySem.Spec PyProof.Rows L2
/-- a def of the text as it stands behind the top -/
structure Def (K : PySem.W.Frag) (mg : Str → Option Value) (x : Str) (st : Stmt) (ps : List Str) (f : Addr) (fd : FuncData) : Prop where
  F : Fun K x x st f fd
  b : Binds K fd ps []
  m : mg x = some (.ref f)
structure Txt (K : PySem.W.Frag) (mg : Str → Option Value) where
  fDivisor : Addr
  dDivisor : FuncData
  fFraction : Addr
  dFraction : FuncData
  fLess : Addr
  dLess : FuncData
  fTimes : Addr
  dTimes : FuncData
  fIsLess : Addr
  dIsLess : FuncData
  fIsAhead : Addr
  dIsAhead : FuncData
  fAlong : Addr
  dAlong : FuncData
  fCrossed : Addr
  dCrossed : FuncData
  fLeaning : Addr
  dLeaning : FuncData
  fSideOf : Addr
  dSideOf : FuncData
  fSpans : Addr
  dSpans : FuncData
  fBoth : Addr
  dBoth : FuncData
  fParting : Addr
  dParting : FuncData
  fIsAbove : Addr
  dIsAbove : FuncData
  fCell : Addr
  dCell : FuncData
  fTake : Addr
  dTake : FuncData
  fLow : Addr
  dLow : FuncData
  fScale : Addr
  dScale : FuncData
  fSpot : Addr
  dSpot : FuncData
  fMade : Addr
  dMade : FuncData
  fTurn : Addr
  dTurn : FuncData
  fOn : Addr
  dOn : FuncData
  fFair : Addr
  dFair : FuncData
  fShuts : Addr
  dShuts : FuncData
  fRow3 : Addr
  dRow3 : FuncData
  fLaw : Addr
  dLaw : FuncData
  tDivisor : Def K mg "divisor" sDivisor ["one", "other"] fDivisor dDivisor
  tFraction : Def K mg "fraction" sFraction ["top", "bottom"] fFraction dFraction
  tLess : Def K mg "less" sLess ["one", "other"] fLess dLess
  tTimes : Def K mg "times" sTimes ["one", "other"] fTimes dTimes
  tIsLess : Def K mg "is_less" sIsLess ["one", "other"] fIsLess dIsLess
  tIsAhead : Def K mg "is_ahead" sIsAhead ["one", "other"] fIsAhead dIsAhead
  tAlong : Def K mg "along" sAlong ["wall"] fAlong dAlong
  tCrossed : Def K mg "crossed" sCrossed ["one", "other"] fCrossed dCrossed
  tLeaning : Def K mg "leaning" sLeaning ["one", "other"] fLeaning dLeaning
  tSideOf : Def K mg "side_of" sSideOf ["wall", "spot"] fSideOf dSideOf
  tSpans : Def K mg "spans" sSpans ["wall", "spot"] fSpans dSpans
  tBoth : Def K mg "both_span" sBoth ["one", "other"] fBoth dBoth
  tParting : Def K mg "parting_end" sParting ["one", "other"] fParting dParting
  tIsAbove : Def K mg "is_above" sIsAbove ["one", "other"] fIsAbove dIsAbove
  tCell : Def K mg "_law_cell_at" sCell ["_law_script", "_law_k"] fCell dCell
  tTake : Def K mg "_law_take" sTake ["_law_row", "_law_base"] fTake dTake
  tLow : Def K mg "_law_low" sLow ["_law_top", "_law_bottom"] fLow dLow
  tScale : Def K mg "_law_scale" sScale ["_law_row"] fScale dScale
  tSpot : Def K mg "_law_spot" sSpot ["_law_scale_here", "_law_unit"] fSpot dSpot
  tMade : Def K mg "_law_made" sMade ["_law_scale_here", "_law_shuts"] fMade dMade
  tTurn : Def K mg "_law_turn" sTurn ["_law_one", "_law_two", "_law_three"] fTurn dTurn
  tOn : Def K mg "_law_on" sOn ["_law_shut", "_law_spot_here"] fOn dOn
  tFair : Def K mg "_law_fair" sFair ["_law_one", "_law_other"] fFair dFair
  tShuts : Def K mg "_law_shuts_here" sShuts ["_law_row", "_law_most", "_law_size"] fShuts dShuts
  tRow3 : Def K mg "_law_row_of_three" sRow3 ["_law_plot", "_law_table"] fRow3 dRow3
  tLaw : Def K mg "law" sLaw ["_law_script"] fLaw dLaw
  m_abs : mg "abs" = none
  m_len : mg "len" = none
  m_range : mg "range" = none
  m_int : mg "int" = none
  m_min : mg "min" = none
  m_max : mg "max" = none
  m_all : mg "all" = none
  m_tuple : mg "tuple" = none
  m_list : mg "list" = none

theorem gcd_step {x y : Int} (hx : 0 ≤ x) (hy : 0 < y) : gcdI y (x % y) = gcdI x y := by
  obtain ⟨m, rfl⟩ := Int.eq_ofNat_of_zero_le hx
  obtain ⟨n, rfl⟩ := Int.eq_ofNat_of_zero_le (Int.le_of_lt hy)
  unfold gcdI
  show ((Int.gcd (n : Int) ((m % n : Nat) : Int) : Nat) : Int) = ((Int.gcd (m : Int) (n : Int) : Nat) : Int)
  congr 1
  show Nat.gcd n (m % n) = Nat.gcd m n
  rw [Nat.gcd_comm n (m % n), ← Nat.gcd_rec, Nat.gcd_comm]
theorem gcd_zero {x : Int} (hx : 0 ≤ x) : gcdI x 0 = x := by
  unfold gcdI
  rw [Int.gcd_zero_right]
  omega
theorem gcd_abs (t b : Int) : gcdI (if t < 0 then -t else t) (if b < 0 then -b else b) = gcdI t b := by
  unfold gcdI
  congr 1
  have e : ∀ z : Int, (if z < 0 then -z else z).natAbs = z.natAbs := fun z => by split <;> omega
  show Nat.gcd _ _ = Nat.gcd _ _
  rw [e, e]
/-- what the gcd loop asks and gives, over two slots i and j -/
def spDivisor : Sp := fun vs H Q _ => ∃ a b : Int, vs = [.int a, .int b] ∧ 0 ≤ a ∧ 0 ≤ b ∧ Q (.int (gcdI a b)) H
/-- a new object is handed back, all that stood stands -/
def Giv (H : Hp) (Q : VK) (φ : Hp → Addr → Prop) : Prop := ∀ H' p, Same H H' → φ H' p → Q (.ref p) H'
section
variable {P : Program} {w : World} {K : PySem.W.Frag} {mg : Str → Option Value} {base : Heap}
theorem ok_divisor (T : Txt K mg) : FnOk P w K mg base CX0 1 T.fDivisor T.dDivisor ["one", "other"] spDivisor := by
  refine T.tDivisor.F.ok scDivisor (fun vs H Q E h => ?_) (fun cdv A outer s H vs Q E hr h => ?_)
  · obtain ⟨a, b, rfl, _⟩ := h
    rfl
  · obtain ⟨a, b, rfl, ha, hb, q⟩ := h
    refine ⟨_, pss_cons (ps_while PassesOwn.never (pt_cmpR op_ne (pv 1) pe_int (nomark _))
        (pss_one (ps_par (i := 0) (j := 1) rfl scDivisor.nd rfl rfl (by decide) rfl rfl (pa_cons (pv 1) (pa_cons (pe_op op_mod (pv 0) (pv 1)) pa_nil)) (by rfl))))
      (pss_one (ps_ret (pv 0))), ?_⟩
    refine ⟨fun m σ H1 => ∃ x y : Int, σ = [some (.int x), some (.int y)] ∧ H1 = H ∧ 0 ≤ x ∧ 0 ≤ y ∧ gcdI x y = gcdI a b ∧ m = y.toNat, ⟨b.toNat, a, b, rfl, rfl, ha, hb, rfl, rfl⟩, ?_⟩
    rintro m σ H1 ⟨x, y, rfl, rfl, hx, hy, e, rfl⟩
    refine ⟨.int y, rfl, rfl, _, rfl, ite2 (fun c => ?_) (fun c => ?_)⟩
    · have hy0 : y ≠ 0 := fun z => by subst z; revert c; decide
      have hyp : 0 < y := by omega
      refine ⟨_, fun σ' H' h => h, ?_⟩
      refine ⟨.int y, rfl, .int x, rfl, .int y, rfl, x, y, rfl, rfl, hyp, _, _, rfl, ?_⟩
      have l1 := Int.emod_nonneg x hy0
      have l2 := Int.emod_lt_of_pos x hyp
      exact ⟨_, by omega, y, x % y, rfl, rfl, hy, l1, (gcd_step hx hyp).trans e, rfl⟩
    · have hy0 : y = 0 := by
        by_cases z : y = 0
        · exact z
        · refine absurd ?_ c
          rw [decide_eq_false (fun k => z (V.int.inj k))]
          rfl
      subst hy0
      rw [gcd_zero hx] at e
      refine ⟨_, rfl, ?_⟩
      rw [e]
      exact q
end
end K16

namespace K16
open PySem PySem.Spec PyProof.Rows L2
theorem log_le {a b : Nat} (h : a ≤ b) (hb : 0 < a) : a.log2 ≤ b.log2 := by
  have h1 : 2 ^ a.log2 ≤ a := Nat.log2_self_le (by omega)
  exact (Nat.le_log2 (by omega)).mpr (Nat.le_trans h1 h)
theorem cdiv_gcd {t b : Int} {n : Nat} (h : 0 < b) (hb : b.natAbs < 2 ^ n) (hn : n ≤ 8000) (i : Int) : CDivW i (gcdI t b) := by
  have g := gcdI_pos (t := t) h
  refine ⟨g, ?_⟩
  have e := congrArg Int.natAbs (frac_2 t b)
  rw [Int.natAbs_mul] at e
  have p := frac_pos (t := t) h
  have le : (gcdI t b).natAbs ≤ b.natAbs := by
    rw [← e]
    exact Nat.le_mul_of_pos_left _ (by omega)
  have lt : (gcdI t b).natAbs < 2 ^ n := Nat.lt_of_le_of_lt le hb
  have := (Nat.log2_lt (by omega)).mpr lt
  omega
def spFraction : Sp := fun vs H Q _ => ∃ (t b : Int) (n : Nat), vs = [.int t, .int b] ∧ 0 < b ∧ b.natAbs < 2 ^ n ∧ n ≤ 8000 ∧ Giv H Q fun H' p => FrA H' p (frac t b)
def spIsLess : Sp := fun vs H Q _ => ∃ (a1 a2 : Addr) (p q : Fr) (n : Nat), vs = [.ref a1, .ref a2] ∧ FrA H a1 p ∧ FrA H a2 q ∧ Q (.bl (ltF p q)) H
def spFr2 (f : Fr → Fr → Fr) : Sp := fun vs H Q _ => ∃ (a1 a2 : Addr) (p q : Fr) (n : Nat), vs = [.ref a1, .ref a2] ∧ FrA H a1 p ∧ FrA H a2 q ∧ FB n p ∧ FB n q ∧ n ≤ 3000 ∧ Giv H Q fun H' r => FrA H' r (f p q)
section
variable {P : Program} {w : World} {K : PySem.W.Frag} {mg : Str → Option Value} {base : Heap}
theorem ok_fraction (T : Txt K mg) : FnOk P w K mg base CX0 2 T.fFraction T.dFraction ["top", "bottom"] spFraction := by
  have GD : FnOk P w K mg base CX0 1 T.fDivisor T.dDivisor ["one", "other"] spDivisor := ok_divisor T
  refine T.tFraction.F.ok scFraction (fun vs H Q E h => ?_) (fun cdv A outer s H vs Q E hr h => ?_)
  · obtain ⟨t, b, n, rfl, _⟩ := h
    rfl
  · obtain ⟨t, b, n, rfl, hb, hn, hn8, q⟩ := h
    refine ⟨_, pss_cons (ps_if (pt_cmpR op_eq (pv 1) pe_int (nomark _)) pss_never pss_nil)
      (pss_cons (ps_set (i := 2) scFraction.nd rfl (.inl rfl) (pe_call GD hr (by rfl) T.tDivisor.m T.tDivisor.F.kp T.tDivisor.b .nil pass0
          (pa_cons (pe_callB call_abs (by rfl) T.m_abs (by decide +kernel) (pa_cons (pv 0) pa_nil)) (pa_cons (pe_callB call_abs (by rfl) T.m_abs (by decide +kernel) (pa_cons (pv 1) pa_nil)) pa_nil))))
      (pss_cons (ps_if (pt_cmpR op_lt (pv 1) pe_int (nomark _)) pss_never pss_nil)
      (pss_one (ps_ret (pe_tup (pa_cons (pe_op op_fdivW (pv 0) (pv 2)) (pa_cons (pe_op op_fdivW (pv 1) (pv 2)) pa_nil))))))), ?_⟩
    have hb0 : decide (V.int b = V.int 0) = false := decide_eq_false fun z => by have := V.int.inj z; omega
    refine ⟨.int b, rfl, rfl, _, rfl, ?_⟩
    rw [hb0]
    refine iteF ?_
    refine ⟨.int t, rfl, t, rfl, .int b, rfl, b, rfl, _, _, rfl, by split <;> omega, by split <;> omega, ?_⟩
    rw [gcd_abs]
    have hl : decide (b < 0) = false := decide_eq_false (by omega)
    refine ⟨.int b, rfl, _, _, rfl, rfl, _, rfl, ?_⟩
    rw [hl]
    refine iteF ?_
    refine ⟨.int t, rfl, _, rfl, t, gcdI t b, rfl, rfl, cdiv_gcd hb hn hn8 _, .int b, rfl, _, rfl, b, gcdI t b, rfl, rfl, cdiv_gcd hb hn hn8 _, (by show 2 ≤ sizeLine; decide), fun p hp => ?_⟩
    exact q _ _ (same_new hp) upd_same
theorem wm {i j : Int} {n m : Nat} (ha : i.natAbs < 2 ^ n) (hb : j.natAbs < 2 ^ m) (hn : n ≤ 3000) (hm : m ≤ 3000) : CMulX i j := mulx_ok ha hb (by omega)
theorem ok_less (T : Txt K mg) : FnOk P w K mg base CX0 3 T.fLess T.dLess ["one", "other"] (spFr2 subF) := by
  have GF : FnOk P w K mg base CX0 2 T.fFraction T.dFraction ["top", "bottom"] spFraction := ok_fraction T
  refine T.tLess.F.ok scLess (fun vs H Q E h => ?_) (fun cdv A outer s H vs Q E hr h => ?_)
  · obtain ⟨a1, a2, p, q, n, rfl, _⟩ := h
    rfl
  · obtain ⟨a1, a2, p, r, n, rfl, h1, h2, b1, b2, hn, q⟩ := h
    refine ⟨_, pss_one (ps_ret (pe_call GF hr (by rfl) T.tFraction.m T.tFraction.F.kp T.tFraction.b .nil pass0
      (pa_cons (pe_op op_sub (pe_op op_mulX (pe_ix ix_tup (pv 0) pe_int (fun _ _ => rfl)) (pe_ix ix_tup (pv 1) pe_int (fun _ _ => rfl))) (pe_op op_mulX (pe_ix ix_tup (pv 1) pe_int (fun _ _ => rfl)) (pe_ix ix_tup (pv 0) pe_int (fun _ _ => rfl))))
      (pa_cons (pe_op op_mulX (pe_ix ix_tup (pv 0) pe_int (fun _ _ => rfl)) (pe_ix ix_tup (pv 1) pe_int (fun _ _ => rfl))) pa_nil)))), ?_⟩
    have s1 : SqT K H a1 [.int p.1, .int p.2] := SqT.of h1
    have s2 : SqT K H a2 [.int r.1, .int r.2] := SqT.of h2
    refine ⟨_, rfl, a1, _, 0, .int p.1, rfl, rfl, s1, rfl, _, rfl, a2, _, 1, .int r.2, rfl, rfl, s2, rfl, _, _, rfl, rfl, wm b1.1 b2.2.2 hn hn, ?_⟩
    refine ⟨_, rfl, a2, _, 0, .int r.1, rfl, rfl, s2, rfl, _, rfl, a1, _, 1, .int p.2, rfl, rfl, s1, rfl, _, _, rfl, rfl, wm b2.1 b1.2.2 hn hn, _, _, rfl, rfl, ?_⟩
    refine ⟨_, rfl, a1, _, 1, .int p.2, rfl, rfl, s1, rfl, _, rfl, a2, _, 1, .int r.2, rfl, rfl, s2, rfl, _, _, rfl, rfl, wm b1.2.2 b2.2.2 hn hn, ?_⟩
    exact ⟨_, _, 2 * n + 1, rfl, bot_pos b1 b2, bot_bd b1 b2, by omega, q⟩
theorem ok_times (T : Txt K mg) : FnOk P w K mg base CX0 3 T.fTimes T.dTimes ["one", "other"] (spFr2 mulF) := by
  have GF : FnOk P w K mg base CX0 2 T.fFraction T.dFraction ["top", "bottom"] spFraction := ok_fraction T
  refine T.tTimes.F.ok scTimes (fun vs H Q E h => ?_) (fun cdv A outer s H vs Q E hr h => ?_)
  · obtain ⟨a1, a2, p, q, n, rfl, _⟩ := h
    rfl
  · obtain ⟨a1, a2, p, r, n, rfl, h1, h2, b1, b2, hn, q⟩ := h
    refine ⟨_, pss_one (ps_ret (pe_call GF hr (by rfl) T.tFraction.m T.tFraction.F.kp T.tFraction.b .nil pass0
      (pa_cons (pe_op op_mulX (pe_ix ix_tup (pv 0) pe_int (fun _ _ => rfl)) (pe_ix ix_tup (pv 1) pe_int (fun _ _ => rfl)))
      (pa_cons (pe_op op_mulX (pe_ix ix_tup (pv 0) pe_int (fun _ _ => rfl)) (pe_ix ix_tup (pv 1) pe_int (fun _ _ => rfl))) pa_nil)))), ?_⟩
    have s1 : SqT K H a1 [.int p.1, .int p.2] := SqT.of h1
    have s2 : SqT K H a2 [.int r.1, .int r.2] := SqT.of h2
    refine ⟨_, rfl, a1, _, 0, .int p.1, rfl, rfl, s1, rfl, _, rfl, a2, _, 0, .int r.1, rfl, rfl, s2, rfl, _, _, rfl, rfl, wm b1.1 b2.1 hn hn, ?_⟩
    refine ⟨_, rfl, a1, _, 1, .int p.2, rfl, rfl, s1, rfl, _, rfl, a2, _, 1, .int r.2, rfl, rfl, s2, rfl, _, _, rfl, rfl, wm b1.2.2 b2.2.2 hn hn, ?_⟩
    exact ⟨_, _, 2 * n + 1, rfl, bot_pos b1 b2, bot_bd b1 b2, by omega, q⟩
def spLt : Sp := fun vs H Q _ => ∃ (a1 a2 : Addr) (p q : Fr) (n : Nat), vs = [.ref a1, .ref a2] ∧ FrA H a1 p ∧ FrA H a2 q ∧ FB n p ∧ FB n q ∧ n ≤ 3000 ∧ Q (.bl (ltF p q)) H
theorem ok_isless (T : Txt K mg) : FnOk P w K mg base CX0 1 T.fIsLess T.dIsLess ["one", "other"] spLt := by
  refine T.tIsLess.F.ok scIsLess (fun vs H Q E h => ?_) (fun cdv A outer s H vs Q E hr h => ?_)
  · obtain ⟨a1, a2, p, q, n, rfl, _⟩ := h
    rfl
  · obtain ⟨a1, a2, p, r, n, rfl, h1, h2, b1, b2, hn, q⟩ := h
    refine ⟨_, pss_one (ps_ret (pe_cmpR op_lt (pe_op op_mulX (pe_ix ix_tup (pv 0) pe_int (fun _ _ => rfl)) (pe_ix ix_tup (pv 1) pe_int (fun _ _ => rfl))) (pe_op op_mulX (pe_ix ix_tup (pv 1) pe_int (fun _ _ => rfl)) (pe_ix ix_tup (pv 0) pe_int (fun _ _ => rfl))) (nomark _))), ?_⟩
    have s1 : SqT K H a1 [.int p.1, .int p.2] := SqT.of h1
    have s2 : SqT K H a2 [.int r.1, .int r.2] := SqT.of h2
    refine ⟨_, rfl, a1, _, 0, .int p.1, rfl, rfl, s1, rfl, _, rfl, a2, _, 1, .int r.2, rfl, rfl, s2, rfl, _, _, rfl, rfl, wm b1.1 b2.2.2 hn hn, ?_⟩
    refine ⟨_, rfl, a2, _, 0, .int r.1, rfl, rfl, s2, rfl, _, rfl, a1, _, 1, .int p.2, rfl, rfl, s1, rfl, _, _, rfl, rfl, wm b2.1 b1.2.2 hn hn, _, _, rfl, rfl, ?_⟩
    exact q
end
end K16

namespace K16
open PySem PySem.Spec PyProof.Rows L2
def SB (n : Nat) (s : Sp2) : Prop := FB n s.1 ∧ FB n s.2
def WB (n : Nat) (w : Wf) : Prop := SB n w.1 ∧ SB n w.2
def frD (p : Int × Int) : PyData := .tuple [.int p.1, .int p.2]
def spD (s : Sp2) : PyData := .tuple [frD s.1, frD s.2]
theorem frD_eqv (p q : Int × Int) : PyData.eqv (frD p) (frD q) = decide (p = q) := by
  obtain ⟨a, b⟩ := p
  obtain ⟨c, d⟩ := q
  have e : PyData.eqv (frD (a, b)) (frD (c, d)) = ((a == c) && ((b == d) && true)) := by simp only [frD, PyData.eqv, PyData.eqvAll]
  rw [e, Bool.eq_iff_iff]
  simp
theorem spD_eqv (p q : Sp2) : PyData.eqv (spD p) (spD q) = decide (p = q) := by
  obtain ⟨a, b⟩ := p
  obtain ⟨c, d⟩ := q
  have e : PyData.eqv (spD (a, b)) (spD (c, d)) = (PyData.eqv (frD a) (frD c) && (PyData.eqv (frD b) (frD d) && true)) := by simp only [spD, PyData.eqv, PyData.eqvAll]
  rw [e, frD_eqv, frD_eqv, Bool.eq_iff_iff]
  simp
theorem frD_shaped (p : Int × Int) : SeqAt.shaped (frD p) = true := by rfl
theorem spD_shaped (p : Sp2) : SeqAt.shaped (spD p) = true := by rfl
section
variable {K : PySem.W.Frag} {H : Hp} {a : Addr}
theorem FrA.dp {p : Int × Int} (h : FrA H a p) : Dp K H (.ref a) (frD p) := .tup (SqT.of h) (.cons (.int _) (.cons (.int _) .nil))
theorem SpA.dp {p : Sp2} (h : SpA H a p) : Dp K H (.ref a) (spD p) := by
  obtain ⟨a1, a2, h0, h1, h2⟩ := h
  exact .tup (SqT.of h0) (.cons h1.dp (.cons h2.dp .nil))
end
theorem sgn_dec (z : Int) : ((if decide (0 < z) = true then 1 else 0) - (if decide (z < 0) = true then 1 else 0) : Int) = sgn z := by
  unfold sgn
  simp only [decide_eq_true_eq]
theorem dec_v (i j : Int) : decide (V.int i = V.int j) = decide (i = j) := by
  rw [Bool.eq_iff_iff]
  simp
theorem along_SB {n : Nat} {w : Wf} (h : WB n w) : SB (2 * n + 1) (alongF w) := ⟨sub_FB h.2.1 h.1.1, sub_FB h.2.2 h.1.2⟩
theorem cross_FB {n : Nat} {u v : Sp2} (h : SB n u) (k : SB n v) : FB (2 * (2 * n + 1) + 1) (crossF u v) := sub_FB (mul_FB h.1 k.2) (mul_FB h.2 k.1)
def spIsAhead : Sp := fun vs H Q _ => ∃ (a1 a2 : Addr) (s t : Sp2) (n : Nat), vs = [.ref a1, .ref a2] ∧ SpA H a1 s ∧ SpA H a2 t ∧ SB n s ∧ SB n t ∧ n ≤ 3000 ∧ Q (.bl (aheadF s t)) H
def spAlong : Sp := fun vs H Q _ => ∃ (a : Addr) (w : Wf) (n : Nat), vs = [.ref a] ∧ WfA H a w ∧ WB n w ∧ n ≤ 3000 ∧ Giv H Q fun H' p => SpA H' p (alongF w)
def spCrossed : Sp := fun vs H Q _ => ∃ (a1 a2 : Addr) (u v : Sp2) (n : Nat), vs = [.ref a1, .ref a2] ∧ SpA H a1 u ∧ SpA H a2 v ∧ SB n u ∧ SB n v ∧ n ≤ 1000 ∧ Giv H Q fun H' p => FrA H' p (crossF u v)
def spLeaning : Sp := fun vs H Q _ => ∃ (a1 a2 : Addr) (u v : Sp2) (n : Nat), vs = [.ref a1, .ref a2] ∧ SpA H a1 u ∧ SpA H a2 v ∧ SB n u ∧ SB n v ∧ n ≤ 1000 ∧ ∀ H', Same H H' → Q (.int (leanF u v)) H'
def spSideOf : Sp := fun vs H Q _ => ∃ (a1 a2 : Addr) (w : Wf) (s : Sp2) (n : Nat), vs = [.ref a1, .ref a2] ∧ WfA H a1 w ∧ SpA H a2 s ∧ WB n w ∧ SB n s ∧ n ≤ 400 ∧ ∀ H', Same H H' → Q (.int (sideF w s)) H'
def spSpans : Sp := fun vs H Q _ => ∃ (a1 a2 : Addr) (w : Wf) (s : Sp2) (n : Nat), vs = [.ref a1, .ref a2] ∧ WfA H a1 w ∧ SpA H a2 s ∧ WB n w ∧ SB n s ∧ n ≤ 400 ∧ Q (.bl (spansG aheadF w s)) H
def spBoth : Sp := fun vs H Q _ => ∃ (a1 a2 : Addr) (u v : Wf) (n : Nat), vs = [.ref a1, .ref a2] ∧ WfA H a1 u ∧ WfA H a2 v ∧ WB n u ∧ WB n v ∧ n ≤ 400 ∧ Q (.bl (bothG aheadF u v)) H
def spParting : Sp := fun vs H Q _ => ∃ (a1 a2 : Addr) (u v : Wf) (n : Nat), vs = [.ref a1, .ref a2] ∧ WfA H a1 u ∧ WfA H a2 v ∧ WB n u ∧ WB n v ∧ n ≤ 400 ∧
  Giv H Q fun H' p => ∃ b, H' p = some (.tup [.ref b, .bl (endG aheadF u v).2]) ∧ SpA H' b (endG aheadF u v).1
def spIsAbove : Sp := fun vs H Q _ => ∃ (a1 a2 : Addr) (u v : Wf) (n : Nat), vs = [.ref a1, .ref a2] ∧ WfA H a1 u ∧ WfA H a2 v ∧ WB n u ∧ WB n v ∧ n ≤ 400 ∧ ∀ H', Same H H' → Q (.bl (aboveG aheadF sideF u v)) H'
section
variable {P : Program} {w : World} {K : PySem.W.Frag} {mg : Str → Option Value} {base : Heap}
theorem ok_isahead (T : Txt K mg) : FnOk P w K mg base CX0 2 T.fIsAhead T.dIsAhead ["one", "other"] spIsAhead := by
  have GL : FnOk P w K mg base CX0 1 T.fIsLess T.dIsLess ["one", "other"] spLt := ok_isless T
  refine T.tIsAhead.F.ok scIsAhead (fun vs H Q E h => ?_) (fun cdv A outer s H vs Q E hr h => ?_)
  · obtain ⟨a1, a2, s, t, n, rfl, _⟩ := h
    rfl
  · obtain ⟨a1, a2, s, t, n, rfl, h1, h2, b1, b2, hn, q⟩ := h
    refine ⟨_, pss_cons (ps_if (pt_cmpR (op_neD hr.units) (pe_ix ix_tup (pv 0) pe_int (fun _ _ => rfl)) (pe_ix ix_tup (pv 1) pe_int (fun _ _ => rfl)) (nomark _))
        (pss_one (ps_ret (pe_call GL hr (by rfl) T.tIsLess.m T.tIsLess.F.kp T.tIsLess.b .nil pass0 (pa_cons (pe_ix ix_tup (pv 0) pe_int (fun _ _ => rfl)) (pa_cons (pe_ix ix_tup (pv 1) pe_int (fun _ _ => rfl)) pa_nil))))) pss_nil)
      (pss_one (ps_ret (pe_call GL hr (by rfl) T.tIsLess.m T.tIsLess.F.kp T.tIsLess.b .nil pass0 (pa_cons (pe_ix ix_tup (pv 0) pe_int (fun _ _ => rfl)) (pa_cons (pe_ix ix_tup (pv 1) pe_int (fun _ _ => rfl)) pa_nil))))), ?_⟩
    obtain ⟨x1, y1, e1, fx1, fy1⟩ := h1
    obtain ⟨x2, y2, e2, fx2, fy2⟩ := h2
    have s1 : SqT K H a1 [.ref x1, .ref y1] := SqT.of e1
    have s2 : SqT K H a2 [.ref x2, .ref y2] := SqT.of e2
    refine ⟨_, rfl, a1, _, 0, .ref x1, rfl, rfl, s1, rfl, _, rfl, a2, _, 0, .ref x2, rfl, rfl, s2, rfl, _, _, fx1.dp, fx2.dp, frD_shaped _, frD_shaped _, _, rfl, ?_⟩
    rw [frD_eqv]
    unfold aheadF at q
    by_cases c : s.1 = t.1
    · rw [if_pos c] at q
      rw [decide_eq_true c]
      refine iteF ?_
      exact ⟨_, rfl, a1, _, 1, .ref y1, rfl, rfl, s1, rfl, _, rfl, a2, _, 1, .ref y2, rfl, rfl, s2, rfl, y1, y2, s.2, t.2, n, rfl, fy1, fy2, b1.2, b2.2, hn, q⟩
    · rw [if_neg c] at q
      rw [decide_eq_false c]
      refine iteT ?_
      exact ⟨_, rfl, a1, _, 0, .ref x1, rfl, rfl, s1, rfl, _, rfl, a2, _, 0, .ref x2, rfl, rfl, s2, rfl, x1, x2, s.1, t.1, n, rfl, fx1, fx2, b1.1, b2.1, hn, q⟩
theorem ok_along (T : Txt K mg) : FnOk P w K mg base CX0 4 T.fAlong T.dAlong ["wall"] spAlong := by
  have GL : FnOk P w K mg base CX0 3 T.fLess T.dLess ["one", "other"] (spFr2 subF) := ok_less T
  refine T.tAlong.F.ok scAlong (fun vs H Q E h => ?_) (fun cdv A outer s H vs Q E hr h => ?_)
  · obtain ⟨a, w, n, rfl, _⟩ := h
    rfl
  · obtain ⟨a, w, n, rfl, h1, b1, hn, q⟩ := h
    refine ⟨_, pss_cons (ps_asg (pv 0) (pg_tup rfl (pgs_cons (pg_name (i := 1) scAlong.nd rfl (.inl rfl)) (pgs_cons (pg_name (i := 2) scAlong.nd rfl (.inl rfl)) pgs_nil))))
      (pss_one (ps_ret (pe_tup (pa_cons (pe_call GL hr (by rfl) T.tLess.m T.tLess.F.kp T.tLess.b .nil pass0 (pa_cons (pe_ix ix_tup (pv 2) pe_int (fun _ _ => rfl)) (pa_cons (pe_ix ix_tup (pv 1) pe_int (fun _ _ => rfl)) pa_nil)))
        (pa_cons (pe_call GL hr (by rfl) T.tLess.m T.tLess.F.kp T.tLess.b .nil pass0 (pa_cons (pe_ix ix_tup (pv 2) pe_int (fun _ _ => rfl)) (pa_cons (pe_ix ix_tup (pv 1) pe_int (fun _ _ => rfl)) pa_nil))) pa_nil))))), ?_⟩
    obtain ⟨p1, p2, e0, ⟨x1, y1, e1, fx1, fy1⟩, ⟨x2, y2, e2, fx2, fy2⟩⟩ := h1
    have s1 : SqT K H p1 [.ref x1, .ref y1] := SqT.of e1
    have s2 : SqT K H p2 [.ref x2, .ref y2] := SqT.of e2
    refine ⟨_, rfl, a, _, rfl, SqT.of e0, rfl, _, _, rfl, _, _, rfl, rfl, ?_⟩
    refine ⟨_, rfl, p2, _, 0, .ref x2, rfl, rfl, s2, rfl, _, rfl, p1, _, 0, .ref x1, rfl, rfl, s1, rfl, x2, x1, _, _, n, rfl, fx2, fx1, b1.2.1, b1.1.1, hn, fun H1 r1 m1 g1 => ?_⟩
    have s1' : SqT K H1 p1 [.ref x1, .ref y1] := SqT.of (m1 _ _ e1)
    have s2' : SqT K H1 p2 [.ref x2, .ref y2] := SqT.of (m1 _ _ e2)
    refine ⟨_, rfl, p2, _, 1, .ref y2, rfl, rfl, s2', rfl, _, rfl, p1, _, 1, .ref y1, rfl, rfl, s1', rfl, y2, y1, _, _, n, rfl, fy2.same m1, fy1.same m1, b1.2.2, b1.1.2, hn, fun H2 r2 m2 g2 => ?_⟩
    refine ⟨(by show 2 ≤ sizeLine; decide), fun p hp => ?_⟩
    have m3 := same_new (o := .tup [.ref r1, .ref r2]) hp
    exact q _ _ ((m1.trans m2).trans m3) ⟨r1, r2, upd_same, (g1.same m2).same m3, g2.same m3⟩
theorem ok_crossed (T : Txt K mg) : FnOk P w K mg base CX0 4 T.fCrossed T.dCrossed ["one", "other"] spCrossed := by
  have GL : FnOk P w K mg base CX0 3 T.fLess T.dLess ["one", "other"] (spFr2 subF) := ok_less T
  have GT : FnOk P w K mg base CX0 3 T.fTimes T.dTimes ["one", "other"] (spFr2 mulF) := ok_times T
  refine T.tCrossed.F.ok scCrossed (fun vs H Q E h => ?_) (fun cdv A outer s H vs Q E hr h => ?_)
  · obtain ⟨a1, a2, u, v, n, rfl, _⟩ := h
    rfl
  · obtain ⟨a1, a2, u, v, n, rfl, h1, h2, b1, b2, hn, q⟩ := h
    refine ⟨_, pss_one (ps_ret (pe_call GL hr (by rfl) T.tLess.m T.tLess.F.kp T.tLess.b .nil pass0
      (pa_cons (pe_call GT hr (by rfl) T.tTimes.m T.tTimes.F.kp T.tTimes.b .nil pass0 (pa_cons (pe_ix ix_tup (pv 0) pe_int (fun _ _ => rfl)) (pa_cons (pe_ix ix_tup (pv 1) pe_int (fun _ _ => rfl)) pa_nil)))
      (pa_cons (pe_call GT hr (by rfl) T.tTimes.m T.tTimes.F.kp T.tTimes.b .nil pass0 (pa_cons (pe_ix ix_tup (pv 0) pe_int (fun _ _ => rfl)) (pa_cons (pe_ix ix_tup (pv 1) pe_int (fun _ _ => rfl)) pa_nil))) pa_nil)))), ?_⟩
    obtain ⟨x1, y1, e1, fx1, fy1⟩ := h1
    obtain ⟨x2, y2, e2, fx2, fy2⟩ := h2
    refine ⟨_, rfl, a1, _, 0, .ref x1, rfl, rfl, SqT.of e1, rfl, _, rfl, a2, _, 1, .ref y2, rfl, rfl, SqT.of e2, rfl, x1, y2, _, _, n, rfl, fx1, fy2, b1.1, b2.2, by omega, fun H1 r1 m1 g1 => ?_⟩
    refine ⟨_, rfl, a1, _, 1, .ref y1, rfl, rfl, SqT.of (m1 _ _ e1), rfl, _, rfl, a2, _, 0, .ref x2, rfl, rfl, SqT.of (m1 _ _ e2), rfl, y1, x2, _, _, n, rfl, fy1.same m1, fx2.same m1, b1.2, b2.1, by omega, fun H2 r2 m2 g2 => ?_⟩
    exact ⟨r1, r2, _, _, 2 * n + 1, rfl, g1.same m2, g2, mul_FB b1.1 b2.2, mul_FB b1.2 b2.1, by omega, fun H3 r3 m3 g3 => q _ _ ((m1.trans m2).trans m3) g3⟩
theorem ok_leaning (T : Txt K mg) : FnOk P w K mg base CX0 5 T.fLeaning T.dLeaning ["one", "other"] spLeaning := by
  have GC : FnOk P w K mg base CX0 4 T.fCrossed T.dCrossed ["one", "other"] spCrossed := ok_crossed T
  refine T.tLeaning.F.ok scLeaning (fun vs H Q E h => ?_) (fun cdv A outer s H vs Q E hr h => ?_)
  · obtain ⟨a1, a2, u, v, n, rfl, _⟩ := h
    rfl
  · obtain ⟨a1, a2, u, v, n, rfl, h1, h2, b1, b2, hn, q⟩ := h
    refine ⟨_, pss_cons (ps_set (i := 2) scLeaning.nd rfl (.inl rfl) (pe_call GC hr (by rfl) T.tCrossed.m T.tCrossed.F.kp T.tCrossed.b .nil pass0 (pa_cons (pv 0) (pa_cons (pv 1) pa_nil))))
      (pss_one (ps_ret (pe_op op_sub (pe_callTy call_int1 (by rfl) T.m_int (by decide +kernel) (pa_cons (pe_cmpR op_gt (pe_ix ix_tup (pv 2) pe_int (fun _ _ => rfl)) pe_int (nomark _)) pa_nil))
        (pe_callTy call_int1 (by rfl) T.m_int (by decide +kernel) (pa_cons (pe_cmpR op_lt (pe_ix ix_tup (pv 2) pe_int (fun _ _ => rfl)) pe_int (nomark _)) pa_nil))))), ?_⟩
    refine ⟨_, rfl, _, rfl, a1, a2, u, v, n, rfl, h1, h2, b1, b2, hn, fun H1 r m g => ?_⟩
    have sr : SqT K H1 r [.int (crossF u v).1, .int (crossF u v).2] := SqT.of g
    refine ⟨_, rfl, r, _, 0, .int (crossF u v).1, rfl, rfl, sr, rfl, _, _, rfl, rfl, .inr ⟨_, rfl, _, rfl, r, _, 0, .int (crossF u v).1, rfl, rfl, sr, rfl, _, _, rfl, rfl, .inr ⟨_, rfl, _, _, rfl, rfl, ?_⟩⟩⟩
    show Q (V.int ((if decide (0 < (crossF u v).1) = true then 1 else 0) - (if decide ((crossF u v).1 < 0) = true then 1 else 0))) H1
    rw [sgn_dec]
    exact q _ m
theorem ok_sideof (T : Txt K mg) : FnOk P w K mg base CX0 6 T.fSideOf T.dSideOf ["wall", "spot"] spSideOf := by
  have GA : FnOk P w K mg base CX0 4 T.fAlong T.dAlong ["wall"] spAlong := ok_along T
  have GL : FnOk P w K mg base CX0 5 T.fLeaning T.dLeaning ["one", "other"] spLeaning := ok_leaning T
  refine T.tSideOf.F.ok scSideOf (fun vs H Q E h => ?_) (fun cdv A outer s H vs Q E hr h => ?_)
  · obtain ⟨a1, a2, w, t, n, rfl, _⟩ := h
    rfl
  · obtain ⟨a1, a2, w, t, n, rfl, h1, h2, b1, b2, hn, q⟩ := h
    have hr4 : Room 4 _ := hr.mono (by decide)
    refine ⟨_, pss_one (ps_ret (pe_call GL hr (by rfl) T.tLeaning.m T.tLeaning.F.kp T.tLeaning.b .nil pass0
      (pa_cons (pe_call GA hr4 (by rfl) T.tAlong.m T.tAlong.F.kp T.tAlong.b .nil pass0 (pa_cons (pv 0) pa_nil))
      (pa_cons (pe_call GA hr4 (by rfl) T.tAlong.m T.tAlong.F.kp T.tAlong.b .nil pass0 (pa_cons (pe_tup (pa_cons (pe_ix ix_tup (pv 0) pe_int (fun _ _ => rfl)) (pa_cons (pv 1) pa_nil))) pa_nil)) pa_nil)))), ?_⟩
    refine ⟨_, rfl, a1, w, n, rfl, h1, b1, by omega, fun H1 r1 m1 g1 => ?_⟩
    obtain ⟨p1, p2, e0, k1, k2⟩ := h1
    refine ⟨_, rfl, a1, _, 0, .ref p1, rfl, rfl, SqT.of (m1 _ _ e0), rfl, _, rfl, (by show 2 ≤ sizeLine; decide), fun p hp => ?_⟩
    have m2 := same_new (o := .tup [.ref p1, .ref a2]) hp
    refine ⟨p, (w.1, t), n, rfl, ⟨p1, a2, upd_same, (k1.same m1).same m2, (h2.same m1).same m2⟩, ⟨b1.1, b2⟩, by omega, fun H2 r2 m3 g2 => ?_⟩
    exact ⟨r1, r2, _, _, 2 * n + 1, rfl, (g1.same m2).same m3, g2, along_SB b1, along_SB (w := (w.1, t)) ⟨b1.1, b2⟩, by omega, fun H3 m4 => q _ (((m1.trans m2).trans m3).trans m4)⟩
theorem ok_spans (T : Txt K mg) : FnOk P w K mg base CX0 3 T.fSpans T.dSpans ["wall", "spot"] spSpans := by
  have GA : FnOk P w K mg base CX0 2 T.fIsAhead T.dIsAhead ["one", "other"] spIsAhead := ok_isahead T
  refine T.tSpans.F.ok scSpans (fun vs H Q E h => ?_) (fun cdv A outer s H vs Q E hr h => ?_)
  · obtain ⟨a1, a2, w, t, n, rfl, _⟩ := h
    rfl
  · obtain ⟨a1, a2, w, t, n, rfl, h1, h2, b1, b2, hn, q⟩ := h
    refine ⟨_, pss_one (ps_ret (pe_and (pe_not (pe_call GA hr (by rfl) T.tIsAhead.m T.tIsAhead.F.kp T.tIsAhead.b .nil pass0 (pa_cons (pv 1) (pa_cons (pe_ix ix_tup (pv 0) pe_int (fun _ _ => rfl)) pa_nil))))
      (pe_one (pe_call GA hr (by rfl) T.tIsAhead.m T.tIsAhead.F.kp T.tIsAhead.b .nil pass0 (pa_cons (pv 1) (pa_cons (pe_ix ix_tup (pv 0) pe_int (fun _ _ => rfl)) pa_nil)))))), ?_⟩
    obtain ⟨p1, p2, e0, k1, k2⟩ := h1
    refine ⟨_, rfl, _, rfl, a1, _, 0, .ref p1, rfl, rfl, SqT.of e0, rfl, a2, p1, _, _, n, rfl, h2, k1, b2, b1.1, by omega, _, rfl, _, rfl, ?_⟩
    unfold spansG at q
    cases c : aheadF t w.1 with
    | true =>
      rw [c] at q
      exact iteF q
    | false =>
      rw [c] at q
      refine iteT ?_
      exact ⟨_, rfl, _, rfl, a1, _, 1, .ref p2, rfl, rfl, SqT.of e0, rfl, a2, p2, _, _, n, rfl, h2, k2, b2, b1.2, by omega, q⟩
theorem ok_both (T : Txt K mg) : FnOk P w K mg base CX0 3 T.fBoth T.dBoth ["one", "other"] spBoth := by
  have GA : FnOk P w K mg base CX0 2 T.fIsAhead T.dIsAhead ["one", "other"] spIsAhead := ok_isahead T
  refine T.tBoth.F.ok scBoth (fun vs H Q E h => ?_) (fun cdv A outer s H vs Q E hr h => ?_)
  · obtain ⟨a1, a2, w, t, n, rfl, _⟩ := h
    rfl
  · obtain ⟨a1, a2, u, v, n, rfl, h1, h2, b1, b2, hn, q⟩ := h
    refine ⟨_, pss_one (ps_ret (pe_and (pe_call GA hr (by rfl) T.tIsAhead.m T.tIsAhead.F.kp T.tIsAhead.b .nil pass0 (pa_cons (pe_ix ix_tup (pv 0) pe_int (fun _ _ => rfl)) (pa_cons (pe_ix ix_tup (pv 1) pe_int (fun _ _ => rfl)) pa_nil)))
      (pe_one (pe_call GA hr (by rfl) T.tIsAhead.m T.tIsAhead.F.kp T.tIsAhead.b .nil pass0 (pa_cons (pe_ix ix_tup (pv 1) pe_int (fun _ _ => rfl)) (pa_cons (pe_ix ix_tup (pv 0) pe_int (fun _ _ => rfl)) pa_nil)))))), ?_⟩
    obtain ⟨p1, p2, e1, k1, k2⟩ := h1
    obtain ⟨q1, q2, e2, l1, l2⟩ := h2
    refine ⟨_, rfl, a1, _, 0, .ref p1, rfl, rfl, SqT.of e1, rfl, _, rfl, a2, _, 1, .ref q2, rfl, rfl, SqT.of e2, rfl, p1, q2, _, _, n, rfl, k1, l2, b1.1, b2.2, by omega, _, rfl, ?_⟩
    unfold bothG at q
    cases c : aheadF u.1 v.2 with
    | false =>
      rw [c] at q
      exact iteF q
    | true =>
      rw [c] at q
      refine iteT ?_
      exact ⟨_, rfl, a2, _, 0, .ref q1, rfl, rfl, SqT.of e2, rfl, _, rfl, a1, _, 1, .ref p2, rfl, rfl, SqT.of e1, rfl, q1, p2, _, _, n, rfl, l1, k2, b2.1, b1.2, by omega, q⟩
theorem ok_parting (T : Txt K mg) : FnOk P w K mg base CX0 3 T.fParting T.dParting ["one", "other"] spParting := by
  have GA : FnOk P w K mg base CX0 2 T.fIsAhead T.dIsAhead ["one", "other"] spIsAhead := ok_isahead T
  refine T.tParting.F.ok scParting (fun vs H Q E h => ?_) (fun cdv A outer s H vs Q E hr h => ?_)
  · obtain ⟨a1, a2, w, t, n, rfl, _⟩ := h
    rfl
  · obtain ⟨a1, a2, u, v, n, rfl, h1, h2, b1, b2, hn, q⟩ := h
    refine ⟨_, pss_cons (ps_if (pt_cmpR (op_neD hr.units) (pe_ix ix_tup (pv 0) pe_int (fun _ _ => rfl)) (pe_ix ix_tup (pv 1) pe_int (fun _ _ => rfl)) (nomark _))
        (pss_cons (ps_if (pt_val (pe_call GA hr (by rfl) T.tIsAhead.m T.tIsAhead.F.kp T.tIsAhead.b .nil pass0 (pa_cons (pe_ix ix_tup (pv 0) pe_int (fun _ _ => rfl)) (pa_cons (pe_ix ix_tup (pv 1) pe_int (fun _ _ => rfl)) pa_nil))))
            (pss_one (ps_ret (pe_tup (pa_cons (pe_ix ix_tup (pv 1) pe_int (fun _ _ => rfl)) (pa_cons pe_bl pa_nil))))) pss_nil)
          (pss_one (ps_ret (pe_tup (pa_cons (pe_ix ix_tup (pv 0) pe_int (fun _ _ => rfl)) (pa_cons pe_bl pa_nil)))))) pss_nil)
      (pss_cons (ps_if (pt_val (pe_call GA hr (by rfl) T.tIsAhead.m T.tIsAhead.F.kp T.tIsAhead.b .nil pass0 (pa_cons (pe_ix ix_tup (pv 0) pe_int (fun _ _ => rfl)) (pa_cons (pe_ix ix_tup (pv 1) pe_int (fun _ _ => rfl)) pa_nil))))
          (pss_one (ps_ret (pe_tup (pa_cons (pe_ix ix_tup (pv 0) pe_int (fun _ _ => rfl)) (pa_cons pe_bl pa_nil))))) pss_nil)
        (pss_one (ps_ret (pe_tup (pa_cons (pe_ix ix_tup (pv 1) pe_int (fun _ _ => rfl)) (pa_cons pe_bl pa_nil)))))), ?_⟩
    obtain ⟨p1, p2, e1, k1, k2⟩ := h1
    obtain ⟨q1, q2, e2, l1, l2⟩ := h2
    refine ⟨_, rfl, a1, _, 0, .ref p1, rfl, rfl, SqT.of e1, rfl, _, rfl, a2, _, 0, .ref q1, rfl, rfl, SqT.of e2, rfl, _, _, k1.dp, l1.dp, spD_shaped _, spD_shaped _, _, rfl, ?_⟩
    rw [spD_eqv]
    unfold endG at q
    by_cases c : u.1 = v.1
    · rw [if_pos c] at q
      rw [decide_eq_true c]
      refine iteF ?_
      refine ⟨_, rfl, a1, _, 1, .ref p2, rfl, rfl, SqT.of e1, rfl, _, rfl, a2, _, 1, .ref q2, rfl, rfl, SqT.of e2, rfl, p2, q2, _, _, n, rfl, k2, l2, b1.2, b2.2, by omega, _, rfl, ?_⟩
      cases d : aheadF u.2 v.2 with
      | true =>
        rw [d, if_pos rfl] at q
        refine iteT ?_
        refine ⟨_, rfl, a1, _, 1, .ref p2, rfl, rfl, SqT.of e1, rfl, (by show 2 ≤ sizeLine; decide), fun p hp => ?_⟩
        have m := same_new (o := .tup [.ref p2, .bl true]) hp
        exact q _ _ m ⟨p2, upd_same, k2.same m⟩
      | false =>
        rw [d, if_neg Bool.false_ne_true] at q
        refine iteF ?_
        refine ⟨_, rfl, a2, _, 1, .ref q2, rfl, rfl, SqT.of e2, rfl, (by show 2 ≤ sizeLine; decide), fun p hp => ?_⟩
        have m := same_new (o := .tup [.ref q2, .bl false]) hp
        exact q _ _ m ⟨q2, upd_same, l2.same m⟩
    · rw [if_neg c] at q
      rw [decide_eq_false c]
      refine iteT ?_
      refine ⟨_, rfl, a1, _, 0, .ref p1, rfl, rfl, SqT.of e1, rfl, _, rfl, a2, _, 0, .ref q1, rfl, rfl, SqT.of e2, rfl, p1, q1, _, _, n, rfl, k1, l1, b1.1, b2.1, by omega, _, rfl, ?_⟩
      cases d : aheadF u.1 v.1 with
      | true =>
        rw [d, if_pos rfl] at q
        refine iteT ?_
        refine ⟨_, rfl, a2, _, 0, .ref q1, rfl, rfl, SqT.of e2, rfl, (by show 2 ≤ sizeLine; decide), fun p hp => ?_⟩
        have m := same_new (o := .tup [.ref q1, .bl false]) hp
        exact q _ _ m ⟨q1, upd_same, l1.same m⟩
      | false =>
        rw [d, if_neg Bool.false_ne_true] at q
        refine iteF ?_
        refine ⟨_, rfl, a1, _, 0, .ref p1, rfl, rfl, SqT.of e1, rfl, (by show 2 ≤ sizeLine; decide), fun p hp => ?_⟩
        have m := same_new (o := .tup [.ref p1, .bl true]) hp
        exact q _ _ m ⟨p1, upd_same, k1.same m⟩
theorem end_SB {n : Nat} {u v : Wf} (hu : WB n u) (hv : WB n v) : SB n (endG aheadF u v).1 := by
  unfold endG
  split <;> split
  · exact hu.2
  · exact hv.2
  · exact hv.1
  · exact hu.1
theorem ok_isabove (T : Txt K mg) : FnOk P w K mg base CX0 7 T.fIsAbove T.dIsAbove ["one", "other"] spIsAbove := by
  have GB : FnOk P w K mg base CX0 3 T.fBoth T.dBoth ["one", "other"] spBoth := ok_both T
  have GP : FnOk P w K mg base CX0 3 T.fParting T.dParting ["one", "other"] spParting := ok_parting T
  have GS : FnOk P w K mg base CX0 6 T.fSideOf T.dSideOf ["wall", "spot"] spSideOf := ok_sideof T
  refine T.tIsAbove.F.ok scIsAbove (fun vs H Q E h => ?_) (fun cdv A outer s H vs Q E hr h => ?_)
  · obtain ⟨a1, a2, w, t, n, rfl, _⟩ := h
    rfl
  · obtain ⟨a1, a2, u, v, n, rfl, h1, h2, b1, b2, hn, q⟩ := h
    have hr3 : Room 3 _ := hr.mono (by decide)
    refine ⟨_, pss_cons (ps_if (pt_not (pt_val (pe_call GB hr3 (by rfl) T.tBoth.m T.tBoth.F.kp T.tBoth.b .nil pass0 (pa_cons (pv 0) (pa_cons (pv 1) pa_nil))))) (pss_one (ps_ret pe_bl)) pss_nil)
      (pss_cons (ps_asg (pe_call GP hr3 (by rfl) T.tParting.m T.tParting.F.kp T.tParting.b .nil pass0 (pa_cons (pv 0) (pa_cons (pv 1) pa_nil))) (pg_tup rfl (pgs_cons (pg_name (i := 2) scIsAbove.nd rfl (.inl rfl)) (pgs_cons (pg_name (i := 3) scIsAbove.nd rfl (.inl rfl)) pgs_nil))))
      (pss_cons (ps_if (pt_val (pv 3)) (pss_one (ps_ret (pe_cmpR op_eq (pe_call GS hr (by rfl) T.tSideOf.m T.tSideOf.F.kp T.tSideOf.b .nil pass0 (pa_cons (pv 1) (pa_cons (pv 2) pa_nil))) pe_int (nomark _)))) pss_nil)
      (pss_one (ps_ret (pe_cmpR op_eq (pe_call GS hr (by rfl) T.tSideOf.m T.tSideOf.F.kp T.tSideOf.b .nil pass0 (pa_cons (pv 0) (pa_cons (pv 2) pa_nil))) (pe_un un_neg pe_int) (nomark _)))))), ?_⟩
    refine ⟨_, rfl, _, rfl, a1, a2, u, v, n, rfl, h1, h2, b1, b2, hn, _, rfl, ?_⟩
    unfold aboveG at q
    cases c : bothG aheadF u v with
    | false =>
      rw [c, if_neg Bool.false_ne_true] at q
      exact iteT (q _ (Same.refl H))
    | true =>
      rw [c, if_pos rfl] at q
      refine iteF ?_
      refine ⟨_, rfl, _, rfl, a1, a2, u, v, n, rfl, h1, h2, b1, b2, hn, fun H1 p m g => ?_⟩
      obtain ⟨b, e, gb⟩ := g
      refine ⟨p, _, rfl, SqT.of e, rfl, _, _, rfl, _, _, rfl, rfl, ?_⟩
      refine ⟨_, rfl, _, rfl, ?_⟩
      cases d : (endG aheadF u v).2 with
      | true =>
        rw [d, if_pos rfl] at q
        refine iteT ?_
        refine ⟨_, rfl, _, rfl, a2, b, v, _, n, rfl, h2.same m, gb, b2, end_SB b1 b2, hn, fun H2 m2 => ?_⟩
        refine ⟨rfl, ?_⟩
        rw [dec_v]
        exact q _ (m.trans m2)
      | false =>
        rw [d, if_neg Bool.false_ne_true] at q
        refine iteF ?_
        refine ⟨_, rfl, _, rfl, a1, b, u, _, n, rfl, h1.same m, gb, b1, end_SB b1 b2, hn, fun H2 m2 => ?_⟩
        refine ⟨_, rfl, rfl, ?_⟩
        rw [dec_v]
        exact q _ (m.trans m2)
end
end K16

namespace K16
open PySem PySem.Spec PyProof.Rows L2
def spCell (K : PySem.W.Frag) : Sp := fun vs H Q _ => ∃ (a : Addr) (ns : List Int) (k : Nat), vs = [.ref a, .int k] ∧ SqL K H a (ns.map V.int) ∧ ∀ z : Int, Q (.int z) H
def spTake : Sp := fun vs H Q _ => ∃ (r : Addr) (a n b : Int), vs = [.ref r, .int b] ∧ H r = some (.lst [.int a, .int n]) ∧ 0 ≤ n ∧ n < 2 ^ 60 ∧ 0 < b ∧ b < 1073741824 ∧
  ∀ a' d : Int, 0 ≤ d → d < b → Q (.int d) (upd H r (.lst [.int a', .int (n + 1)]))
def ScA (H : Hp) (a : Addr) (c : Sc) : Prop := H a = some (.tup [.int c.T, .int c.B, .int c.X, .int c.Y])
def ScB (c : Sc) : Prop := (1 ≤ c.T ∧ c.T ≤ 1000000000) ∧ (1 ≤ c.B ∧ c.B ≤ 1000000000) ∧ (-100000000000000000 ≤ c.X ∧ c.X ≤ 100000000000000000) ∧ (-100000000000000000 ≤ c.Y ∧ c.Y ≤ 100000000000000000)
theorem ScB.ok {c : Sc} (h : ScB c) : c.ok := ⟨by have := h.1.1; omega, by have := h.2.1.1; omega⟩
def spScale : Sp := fun vs H Q _ => ∃ (r : Addr) (a n : Int), vs = [.ref r] ∧ H r = some (.lst [.int a, .int n]) ∧ 0 ≤ n ∧ n < 2 ^ 50 ∧
  ∀ (H' : Hp) (p : Addr) (c : Sc) (a' n' : Int), SameBut r H H' → H' r = some (.lst [.int a', .int n']) → 0 ≤ n' → n' ≤ n + 10 → ScA H' p c → ScB c → Q (.ref p) H'
theorem mulb {u t : Int} (h0 : 0 ≤ u) (h4 : u ≤ 4) (ht : 1 ≤ t) (hT : t ≤ 1000000000) : 0 ≤ u * t ∧ u * t ≤ 4000000000 := by
  have a := Int.mul_nonneg h0 (by omega : 0 ≤ t)
  have b : u * t ≤ 4 * t := Int.mul_le_mul_of_nonneg_right h4 (by omega)
  omega
theorem spot_SB {c : Sc} {u : Pt} (hc : ScB c) (hu : inG u) : SB 70 (c.spot u) := by
  obtain ⟨⟨t1, t2⟩, ⟨b1, b2⟩, ⟨x1, x2⟩, ⟨y1, y2⟩⟩ := hc
  obtain ⟨u1, u2, u3, u4⟩ := hu
  have hb : 0 < c.B := by omega
  have m1 := mulb u1 u2 t1 t2
  have m2 := mulb u3 u4 t1 t2
  have bb : c.B.natAbs < 2 ^ 70 := by omega
  exact ⟨frac_FB hb (by omega) bb, frac_FB hb (by omega) bb⟩
def spSpot : Sp := fun vs H Q _ => ∃ (a1 a2 : Addr) (c : Sc) (u : Pt), vs = [.ref a1, .ref a2] ∧ ScA H a1 c ∧ ScB c ∧ FrA H a2 u ∧ inG u ∧ Giv H Q fun H' p => SpA H' p (c.spot u)
def spTurn : Sp := fun vs H Q _ => ∃ (a1 a2 a3 : Addr) (p q r : Pt), vs = [.ref a1, .ref a2, .ref a3] ∧ FrA H a1 p ∧ FrA H a2 q ∧ FrA H a3 r ∧ inG p ∧ inG q ∧ inG r ∧ ∀ H', Same H H' → Q (.int (sgn (turnU p q r))) H'
def spOn : Sp := fun vs H Q _ => ∃ (a1 a2 : Addr) (w : Wl) (s : Pt), vs = [.ref a1, .ref a2] ∧ WlA H a1 w ∧ FrA H a2 s ∧ inG w.1 ∧ inG w.2 ∧ inG s ∧ ∀ H', Same H H' → Q (.bl (onU w s)) H'
section
variable {P : Program} {w : World} {K : PySem.W.Frag} {mg : Str → Option Value} {base : Heap}
theorem ok_cell (T : Txt K mg) : FnOk P w K mg base CX0 1 T.fCell T.dCell ["_law_script", "_law_k"] (spCell K) := by
  refine T.tCell.F.ok scCell (fun vs H Q E h => ?_) (fun cdv A outer s H vs Q E hr h => ?_)
  · obtain ⟨a, ns, k, rfl, _⟩ := h
    rfl
  · obtain ⟨a, ns, k, rfl, hS, q⟩ := h
    refine ⟨_, pss_cons (ps_if (pt_cmpR op_lt (pv 1) (pe_callB call_len_seq (by rfl) T.m_len PySem.boot_len (pa_cons (pv 0) pa_nil)) (nomark _)) (pss_one (ps_ret (pe_ix ix_list (pv 0) (pv 1) (fun _ _ => rfl)))) pss_nil)
      (pss_one (ps_ret pe_int)), ?_⟩
    refine ⟨_, rfl, _, rfl, a, _, rfl, .inl hS, _, _, rfl, rfl, _, rfl, ite2 (fun c => ?_) (fun c => ?_)⟩
    · have c1 := of_decide_eq_true c
      rw [List.length_map] at c1
      have hk : k < ns.length := by omega
      refine ⟨_, rfl, _, rfl, a, _, k, .int ns[k], rfl, rfl, hS, atI_nat (j := k) ?_, q _⟩
      rw [List.getElem?_map, List.getElem?_eq_getElem hk]
      rfl
    · exact q 0
theorem ok_take (T : Txt K mg) : FnOk P w K mg base CX0 1 T.fTake T.dTake ["_law_row", "_law_base"] spTake := by
  refine T.tTake.F.ok scTake (fun vs H Q E h => ?_) (fun cdv A outer s H vs Q E hr h => ?_)
  · obtain ⟨r, a, n, b, rfl, _⟩ := h
    rfl
  · obtain ⟨r, a, n, b, rfl, hR, n0, n1, b0, b1, q⟩ := h
    refine ⟨_, pss_cons (ps_asg (pe_op op_add (pe_ix ix_list (pv 0) pe_int (fun _ _ => rfl)) pe_int) (pg_sub (pv 0) pe_int set_list))
      (pss_cons (ps_if (pt_cmpR op_ge (pe_ix ix_list (pv 0) pe_int (fun _ _ => rfl)) (pe_op op_pow pe_int pe_int) (nomark _))
        (pss_cons (ps_set (i := 2) scTake.nd rfl (.inl rfl) (pe_op op_sub (pe_ix ix_list (pv 0) pe_int (fun _ _ => rfl)) (pe_op op_pow pe_int pe_int)))
        (pss_cons (ps_asg (pe_op op_add (pe_op op_pow pe_int pe_int) (pe_op op_fdiv (pv 2) (pv 1))) (pg_sub (pv 0) pe_int set_list))
        (pss_one (ps_ret (pe_op op_mod (pv 2) (pv 1)))))) pss_nil)
      (pss_cons (ps_set (i := 3) scTake.nd rfl (.inl rfl) (pe_op op_mod (pe_op op_add (pe_op op_add (pe_op op_add (pe_op op_mul (pe_ix ix_list (pv 0) pe_int (fun _ _ => rfl)) pe_int)
          (pe_op op_mul (pe_op op_mul pe_int (pe_ix ix_list (pv 0) pe_int (fun _ _ => rfl))) (pe_ix ix_list (pv 0) pe_int (fun _ _ => rfl)))) (pe_op op_mul pe_int (pe_ix ix_list (pv 0) pe_int (fun _ _ => rfl)))) pe_int) pe_int))
      (pss_cons (ps_set (i := 3) scTake.nd rfl (.inl rfl) (pe_op op_mod (pe_op op_add (pe_op op_add (pe_op op_mul (pv 3) (pv 3)) (pe_op op_mul pe_int (pv 3))) (pe_ix ix_list (pv 0) pe_int (fun _ _ => rfl))) pe_int))
      (pss_one (ps_ret (pe_op op_mod (pe_op op_fdiv (pv 3) pe_int) (pv 1))))))), ?_⟩
    -- row[1] = row[1] + 1
    refine ⟨_, rfl, r, _, 1, .int n, rfl, rfl, SqL.of hR, rfl, _, _, rfl, rfl, _, rfl, r, _, 1, 1, rfl, rfl, hR, rfl, ?_⟩
    generalize hH1 : upd H r (.lst ([V.int a, V.int n].set 1 (V.int (n + 1)))) = H1
    have hR1 : H1 r = some (.lst [.int a, .int (n + 1)]) := by rw [← hH1]; exact upd_same
    have q1 : ∀ a' d : Int, 0 ≤ d → d < b → Q (.int d) (upd H1 r (.lst [.int a', .int (n + 1)])) := fun a' d h0 h1 => by
      rw [← hH1, upd_upd]
      exact q a' d h0 h1
    have q2 : ∀ d : Int, 0 ≤ d → d < b → Q (.int d) H1 := fun d h0 h1 => by
      rw [← hH1]
      exact q a d h0 h1
    have p18 : CPow 10 18 := ⟨by decide, by decide, by decide⟩
    -- if row[0] >= 10 ** 18
    refine ⟨_, rfl, r, _, 0, .int a, rfl, rfl, SqL.of hR1, rfl, _, _, rfl, rfl, p18, _, _, rfl, rfl, _, rfl, ite2 (fun c => ?_) (fun c => ?_)⟩
    · refine ⟨_, rfl, r, _, 0, .int a, rfl, rfl, SqL.of hR1, rfl, _, _, rfl, rfl, p18, _, _, rfl, rfl, ?_⟩
      refine ⟨_, _, rfl, rfl, p18, _, rfl, _, rfl, _, _, rfl, rfl, ⟨b0, b1⟩, _, _, rfl, rfl, _, rfl, r, _, 0, 0, rfl, rfl, hR1, rfl, ?_⟩
      refine ⟨_, rfl, _, rfl, _, _, rfl, rfl, b0, ?_⟩
      exact q1 _ _ (Int.emod_nonneg _ (by omega)) (Int.emod_lt_of_pos _ b0)
    · refine ⟨_, rfl, r, _, 0, .int a, rfl, rfl, SqL.of hR1, rfl, _, _, rfl, rfl, .inr (by decide), ?_⟩
      refine ⟨_, rfl, r, _, 1, .int (n + 1), rfl, rfl, SqL.of hR1, rfl, _, _, rfl, rfl, .inl (by decide), ?_⟩
      refine ⟨_, rfl, r, _, 1, .int (n + 1), rfl, rfl, SqL.of hR1, rfl, _, _, rfl, rfl, .inr (by omega), _, _, rfl, rfl, ?_⟩
      refine ⟨_, rfl, r, _, 1, .int (n + 1), rfl, rfl, SqL.of hR1, rfl, _, _, rfl, rfl, .inl (by decide), _, _, rfl, rfl, _, _, rfl, rfl, _, _, rfl, rfl, (by show (0 : Int) < 2147483399; decide), ?_⟩
      generalize hz : (a * 40692 + 104729 * (n + 1) * (n + 1) + 31 * (n + 1) + 5) % 2147483399 = z
      have z0 : 0 ≤ z := by rw [← hz]; exact Int.emod_nonneg _ (by decide)
      have z1 : z < 2147483399 := by rw [← hz]; exact Int.emod_lt_of_pos _ (by decide)
      refine ⟨_, rfl, _, rfl, _, _, rfl, rfl, .inl (by omega), _, rfl, _, _, rfl, rfl, .inl (by decide), _, _, rfl, rfl, ?_⟩
      refine ⟨_, rfl, r, _, 1, .int (n + 1), rfl, rfl, SqL.of hR1, rfl, _, _, rfl, rfl, _, _, rfl, rfl, (by show (0 : Int) < 2147483647; decide), ?_⟩
      refine ⟨_, rfl, _, _, rfl, rfl, ⟨by decide, by decide⟩, _, rfl, _, _, rfl, rfl, b0, ?_⟩
      exact q2 _ (Int.emod_nonneg _ (by omega)) (Int.emod_lt_of_pos _ b0)
theorem ok_low (T : Txt K mg) : FnOk P w K mg base CX0 1 T.fLow T.dLow ["_law_top", "_law_bottom"] spFraction := by
  refine T.tLow.F.ok scLow (fun vs H Q E h => ?_) (fun cdv A outer s H vs Q E hr h => ?_)
  · obtain ⟨t, b, n, rfl, _⟩ := h
    rfl
  · obtain ⟨t, b, n, rfl, hb, hn, hn8, q⟩ := h
    refine ⟨_, pss_cons (ps_set (i := 2) scLow.nd rfl (.inl rfl) (pe_callB call_abs (by rfl) T.m_abs (by decide +kernel) (pa_cons (pv 0) pa_nil)))
      (pss_cons (ps_set (i := 3) scLow.nd rfl (.inl rfl) (pe_callB call_abs (by rfl) T.m_abs (by decide +kernel) (pa_cons (pv 1) pa_nil)))
      (pss_cons (ps_while PassesOwn.never (pt_cmpR op_ne (pv 3) pe_int (nomark _))
        (pss_one (ps_par (i := 2) (j := 3) rfl scLow.nd rfl rfl (by decide) rfl rfl (pa_cons (pv 3) (pa_cons (pe_op op_mod (pv 2) (pv 3)) pa_nil)) (by rfl))))
      (pss_cons (ps_if (pt_cmpR op_lt (pv 1) pe_int (nomark _)) pss_never pss_nil)
      (pss_one (ps_ret (pe_tup (pa_cons (pe_op op_fdivW (pv 0) (pv 2)) (pa_cons (pe_op op_fdivW (pv 1) (pv 2)) pa_nil)))))))), ?_⟩
    refine ⟨_, rfl, t, rfl, _, rfl, b, rfl, ?_⟩
    refine ⟨fun m σ H1 => ∃ x y : Int, σ = [some (.int t), some (.int b), some (.int x), some (.int y)] ∧ H1 = H ∧ 0 ≤ x ∧ 0 ≤ y ∧ gcdI x y = gcdI t b ∧ m = y.toNat, ⟨_, _, _, rfl, rfl, by split <;> omega, by split <;> omega, gcd_abs t b, rfl⟩, ?_⟩
    rintro m σ H1 ⟨x, y, rfl, rfl, hx, hy, e, rfl⟩
    refine ⟨.int y, rfl, rfl, _, rfl, ite2 (fun c => ?_) (fun c => ?_)⟩
    · have hy0 : y ≠ 0 := fun z => by subst z; revert c; decide
      have hyp : 0 < y := by omega
      refine ⟨_, fun σ' H' h => h, ?_⟩
      refine ⟨.int y, rfl, .int x, rfl, .int y, rfl, x, y, rfl, rfl, hyp, _, _, rfl, ?_⟩
      have l1 := Int.emod_nonneg x hy0
      have l2 := Int.emod_lt_of_pos x hyp
      exact ⟨_, by omega, y, x % y, rfl, rfl, hy, l1, (gcd_step hx hyp).trans e, rfl⟩
    · have hy0 : y = 0 := by
        by_cases z : y = 0
        · exact z
        · refine absurd ?_ c
          rw [decide_eq_false (fun k => z (V.int.inj k))]
          rfl
      subst hy0
      rw [gcd_zero hx] at e
      subst e
      have hl : decide (b < 0) = false := decide_eq_false (by omega)
      refine ⟨.int b, rfl, _, _, rfl, rfl, _, rfl, ?_⟩
      rw [hl]
      refine iteF ?_
      refine ⟨.int t, rfl, _, rfl, t, gcdI t b, rfl, rfl, cdiv_gcd hb hn hn8 _, .int b, rfl, _, rfl, b, gcdI t b, rfl, rfl, cdiv_gcd hb hn hn8 _, (by show 2 ≤ sizeLine; decide), fun p hp => ?_⟩
      exact q _ _ (same_new hp) upd_same
theorem ok_spot (T : Txt K mg) : FnOk P w K mg base CX0 2 T.fSpot T.dSpot ["_law_scale_here", "_law_unit"] spSpot := by
  have GL : FnOk P w K mg base CX0 1 T.fLow T.dLow ["_law_top", "_law_bottom"] spFraction := ok_low T
  refine T.tSpot.F.ok scSpot (fun vs H Q E h => ?_) (fun cdv A outer s H vs Q E hr h => ?_)
  · obtain ⟨a1, a2, c, u, rfl, _⟩ := h
    rfl
  · obtain ⟨a1, a2, c, u, rfl, h1, hc, h2, hu, q⟩ := h
    refine ⟨_, pss_cons (ps_asg (pv 0) (pg_tup rfl (pgs_cons (pg_name (i := 2) scSpot.nd rfl (.inl rfl)) (pgs_cons (pg_name (i := 3) scSpot.nd rfl (.inl rfl)) (pgs_cons (pg_name (i := 4) scSpot.nd rfl (.inl rfl)) (pgs_cons (pg_name (i := 5) scSpot.nd rfl (.inl rfl)) pgs_nil))))))
      (pss_one (ps_ret (pe_tup (pa_cons (pe_call GL hr (by rfl) T.tLow.m T.tLow.F.kp T.tLow.b .nil pass0 (pa_cons (pe_op op_add (pe_op op_mul (pe_ix ix_tup (pv 1) pe_int (fun _ _ => rfl)) (pv 2)) (pv 4)) (pa_cons (pv 3) pa_nil)))
        (pa_cons (pe_call GL hr (by rfl) T.tLow.m T.tLow.F.kp T.tLow.b .nil pass0 (pa_cons (pe_op op_add (pe_op op_mul (pe_ix ix_tup (pv 1) pe_int (fun _ _ => rfl)) (pv 2)) (pv 5)) (pa_cons (pv 3) pa_nil))) pa_nil))))), ?_⟩
    have hb : 0 < c.B := by have := hc.2.1.1; omega
    have hb2 : c.B.natAbs < 2 ^ 70 := by have := hc.2.1.2; omega
    obtain ⟨u1, u2, u3, u4⟩ := hu
    refine ⟨_, rfl, a1, _, rfl, SqT.of h1, rfl, _, _, rfl, _, _, rfl, _, _, rfl, _, _, rfl, rfl, ?_⟩
    refine ⟨_, rfl, a2, _, 0, .int u.1, rfl, rfl, SqT.of h2, rfl, _, rfl, _, _, rfl, rfl, .inl (by omega), _, rfl, _, _, rfl, rfl, _, rfl, _, _, 70, rfl, hb, hb2, by decide, fun H1 r1 m1 g1 => ?_⟩
    refine ⟨_, rfl, a2, _, 1, .int u.2, rfl, rfl, SqT.of (m1 _ _ h2), rfl, _, rfl, _, _, rfl, rfl, .inl (by omega), _, rfl, _, _, rfl, rfl, _, rfl, _, _, 70, rfl, hb, hb2, by decide, fun H2 r2 m2 g2 => ?_⟩
    refine ⟨(by show 2 ≤ sizeLine; decide), fun p hp => ?_⟩
    have m3 := same_new (o := .tup [.ref r1, .ref r2]) hp
    exact q _ _ ((m1.trans m2).trans m3) ⟨r1, r2, upd_same, (g1.same m2).same m3, g2.same m3⟩
theorem ok_turn (T : Txt K mg) : FnOk P w K mg base CX0 1 T.fTurn T.dTurn ["_law_one", "_law_two", "_law_three"] spTurn := by
  refine T.tTurn.F.ok scTurn (fun vs H Q E h => ?_) (fun cdv A outer s H vs Q E hr h => ?_)
  · obtain ⟨a1, a2, a3, p, q, r, rfl, _⟩ := h
    rfl
  · obtain ⟨a1, a2, a3, x, y, z, rfl, h1, h2, h3, g1, g2, g3, q⟩ := h
    refine ⟨_, pss_cons (ps_set (i := 3) scTurn.nd rfl (.inl rfl) (pe_tup (pa_cons (pe_op op_sub (pe_ix ix_tup (pv 1) pe_int (fun _ _ => rfl)) (pe_ix ix_tup (pv 0) pe_int (fun _ _ => rfl))) (pa_cons (pe_op op_sub (pe_ix ix_tup (pv 1) pe_int (fun _ _ => rfl)) (pe_ix ix_tup (pv 0) pe_int (fun _ _ => rfl))) pa_nil))))
      (pss_cons (ps_set (i := 4) scTurn.nd rfl (.inl rfl) (pe_tup (pa_cons (pe_op op_sub (pe_ix ix_tup (pv 2) pe_int (fun _ _ => rfl)) (pe_ix ix_tup (pv 0) pe_int (fun _ _ => rfl))) (pa_cons (pe_op op_sub (pe_ix ix_tup (pv 2) pe_int (fun _ _ => rfl)) (pe_ix ix_tup (pv 0) pe_int (fun _ _ => rfl))) pa_nil))))
      (pss_cons (ps_set (i := 5) scTurn.nd rfl (.inl rfl) (pe_op op_sub (pe_op op_mul (pe_ix ix_tup (pv 3) pe_int (fun _ _ => rfl)) (pe_ix ix_tup (pv 4) pe_int (fun _ _ => rfl))) (pe_op op_mul (pe_ix ix_tup (pv 3) pe_int (fun _ _ => rfl)) (pe_ix ix_tup (pv 4) pe_int (fun _ _ => rfl)))))
      (pss_one (ps_ret (pe_op op_sub (pe_callTy call_int1 (by rfl) T.m_int (by decide +kernel) (pa_cons (pe_cmpR op_gt (pv 5) pe_int (nomark _)) pa_nil))
        (pe_callTy call_int1 (by rfl) T.m_int (by decide +kernel) (pa_cons (pe_cmpR op_lt (pv 5) pe_int (nomark _)) pa_nil))))))), ?_⟩
    obtain ⟨x1, x2, x3, x4⟩ := g1
    obtain ⟨y1, y2, y3, y4⟩ := g2
    obtain ⟨z1, z2, z3, z4⟩ := g3
    refine ⟨_, rfl, a2, _, 0, .int y.1, rfl, rfl, SqT.of h2, rfl, _, rfl, a1, _, 0, .int x.1, rfl, rfl, SqT.of h1, rfl, _, _, rfl, rfl, _, rfl, a2, _, 1, .int y.2, rfl, rfl, SqT.of h2, rfl, _, rfl, a1, _, 1, .int x.2, rfl, rfl, SqT.of h1, rfl, _, _, rfl, rfl, (by show 2 ≤ sizeLine; decide), fun p hp => ?_⟩
    have m1 := same_new (o := .tup [.int (y.1 - x.1), .int (y.2 - x.2)]) hp
    have e1 : (upd H p (.tup [.int (y.1 - x.1), .int (y.2 - x.2)])) p = some (.tup [.int (y.1 - x.1), .int (y.2 - x.2)]) := upd_same
    generalize upd H p (.tup [.int (y.1 - x.1), .int (y.2 - x.2)]) = H1 at m1 e1 ⊢
    refine ⟨_, rfl, a3, _, 0, .int z.1, rfl, rfl, SqT.of (m1 _ _ h3), rfl, _, rfl, a1, _, 0, .int x.1, rfl, rfl, SqT.of (m1 _ _ h1), rfl, _, _, rfl, rfl, _, rfl, a3, _, 1, .int z.2, rfl, rfl, SqT.of (m1 _ _ h3), rfl, _, rfl, a1, _, 1, .int x.2, rfl, rfl, SqT.of (m1 _ _ h1), rfl, _, _, rfl, rfl, (by show 2 ≤ sizeLine; decide), fun p2 hp2 => ?_⟩
    have m2 := same_new (o := .tup [.int (z.1 - x.1), .int (z.2 - x.2)]) hp2
    have e2 : (upd H1 p2 (.tup [.int (z.1 - x.1), .int (z.2 - x.2)])) p2 = some (.tup [.int (z.1 - x.1), .int (z.2 - x.2)]) := upd_same
    generalize upd H1 p2 (.tup [.int (z.1 - x.1), .int (z.2 - x.2)]) = H2 at m2 e2 ⊢
    have e1' := m2 _ _ e1
    refine ⟨_, rfl, p, _, 0, .int (y.1 - x.1), rfl, rfl, SqT.of e1', rfl, _, rfl, p2, _, 1, .int (z.2 - x.2), rfl, rfl, SqT.of e2, rfl, _, _, rfl, rfl, .inl (by omega), _, rfl, p, _, 1, .int (y.2 - x.2), rfl, rfl, SqT.of e1', rfl, _, rfl, p2, _, 0, .int (z.1 - x.1), rfl, rfl, SqT.of e2, rfl, _, _, rfl, rfl, .inl (by omega), _, _, rfl, rfl, ?_⟩
    refine ⟨_, rfl, _, _, rfl, rfl, .inr ⟨_, rfl, _, rfl, _, _, rfl, rfl, .inr ⟨_, rfl, _, _, rfl, rfl, ?_⟩⟩⟩
    show Q (V.int ((if decide (0 < turnU x y z) = true then 1 else 0) - (if decide (turnU x y z < 0) = true then 1 else 0))) H2
    rw [sgn_dec]
    exact q _ (m1.trans m2)
theorem lex_le (p q : Pt) : Ob.lexAt (fun j => decide (([p.1, p.2] : List Int).getD j 0 = ([q.1, q.2] : List Int).getD j 0)) (fun j => decide (([p.1, p.2] : List Int).getD j 0 ≤ ([q.1, q.2] : List Int).getD j 0)) (decide (([p.1, p.2] : List Int).length ≤ ([q.1, q.2] : List Int).length)) 0 (min ([p.1, p.2] : List Int).length ([q.1, q.2] : List Int).length) = leU p q := by
  obtain ⟨a, b⟩ := p
  obtain ⟨c, d⟩ := q
  show (if decide (a = c) = true then (if decide (b = d) = true then true else decide (b ≤ d)) else decide (a ≤ c)) = leU (a, b) (c, d)
  unfold leU
  by_cases h : a = c
  · rw [if_pos (decide_eq_true h), if_pos h]
    by_cases h2 : b = d
    · rw [if_pos (decide_eq_true h2)]
      exact (decide_eq_true (by show b ≤ d; omega)).symm
    · rw [if_neg (by rw [decide_eq_false h2]; exact Bool.false_ne_true)]
  · rw [if_neg (by rw [decide_eq_false h]; exact Bool.false_ne_true), if_neg h]
theorem ok_on (T : Txt K mg) : FnOk P w K mg base CX0 2 T.fOn T.dOn ["_law_shut", "_law_spot_here"] spOn := by
  have GT : FnOk P w K mg base CX0 1 T.fTurn T.dTurn ["_law_one", "_law_two", "_law_three"] spTurn := ok_turn T
  refine T.tOn.F.ok scOn (fun vs H Q E h => ?_) (fun cdv A outer s H vs Q E hr h => ?_)
  · obtain ⟨a1, a2, w, s, rfl, _⟩ := h
    rfl
  · obtain ⟨a1, a2, w, t, rfl, h1, h2, g1, g2, g3, q⟩ := h
    refine ⟨_, pss_one (ps_ret (pe_and (pe_chain (op_leT hr.units0) (op_leT hr.units0) (pe_ix ix_tup (pv 0) pe_int (fun _ _ => rfl)) (pv 1) (pe_ix ix_tup (pv 0) pe_int (fun _ _ => rfl)))
      (pe_one (pe_cmpR op_eq (pe_call GT hr (by rfl) T.tTurn.m T.tTurn.F.kp T.tTurn.b .nil pass0 (pa_cons (pe_ix ix_tup (pv 0) pe_int (fun _ _ => rfl)) (pa_cons (pe_ix ix_tup (pv 0) pe_int (fun _ _ => rfl)) (pa_cons (pv 1) pa_nil)))) pe_int (nomark _))))), ?_⟩
    obtain ⟨p1, p2, e0, k1, k2⟩ := h1
    unfold onU at q
    refine ⟨_, rfl, a1, _, 0, .ref p1, rfl, rfl, SqT.of e0, rfl, _, rfl, p1, a2, [w.1.1, w.1.2], [t.1, t.2], rfl, rfl, SqT.of k1, SqT.of h2, _, rfl, ?_⟩
    rw [lex_le]
    cases c1 : leU w.1 t with
    | false =>
      rw [c1] at q
      exact iteF ⟨_, rfl, iteF (q _ (Same.refl H))⟩
    | true =>
      rw [c1] at q
      refine iteT ?_
      refine ⟨_, rfl, a1, _, 1, .ref p2, rfl, rfl, SqT.of e0, rfl, a2, p2, [t.1, t.2], [w.2.1, w.2.2], rfl, rfl, SqT.of h2, SqT.of k2, _, rfl, ?_⟩
      rw [lex_le]
      cases c2 : leU t w.2 with
      | false =>
        rw [c2] at q
        exact iteF (q _ (Same.refl H))
      | true =>
        rw [c2] at q
        refine iteT ?_
        refine ⟨_, rfl, a1, _, 0, .ref p1, rfl, rfl, SqT.of e0, rfl, _, rfl, a1, _, 1, .ref p2, rfl, rfl, SqT.of e0, rfl, _, rfl, p1, p2, a2, w.1, w.2, t, rfl, k1, k2, h2, g1, g2, g3, fun H' m => ?_⟩
        refine ⟨rfl, ?_⟩
        rw [dec_v]
        exact q _ m
end
end K16

namespace K16
open PySem PySem.Spec PyProof.Rows L2
/-! x not in a tuple of data -/
def rOutT (K : PySem.W.Frag) : R2 := fun x y H Q => ∃ d ds, Dp K H x d ∧ Dp K H y (.tuple ds) ∧ SeqAt.shaped d = true ∧ SeqAt.shaped (.tuple ds) = true ∧ Q (.bl (!ds.any fun z => PyData.eqv z d)) H
theorem op_outT {X : Cx} (hu : X.A.units + 65 < cLine) : OpR X (compareOp .NotIn) (rOutT X.K) := by
  intro pins s σ H x y vx vy Q I rx ry h
  obtain ⟨d, ds, hd, he, sd, se, q⟩ := h
  obtain ⟨as, r1⟩ := Dp.reads I d x vx hd rx
  obtain ⟨bs, r2⟩ := Dp.reads I (.tuple ds) y vy he ry
  exact SeqAt.notIn_tuple_reads r2 r1 (SeqAt.canLay_of_shaped se) (SeqAt.canLay_of_shaped sd) (room_in_shaped sd hu) ⟨.bl _, H, I, rfl, q⟩
/-! min, max of two pairs of ints -/
theorem dataLt_fr (p q : Int × Int) : PySem.W.dataLt (frD p) (frD q) = aheadU p q := by
  unfold frD
  rw [PySem.W.dataLt_ii]
  unfold aheadU
  split <;> (apply decide_eq_decide.mpr; omega)
theorem alike_fr (p q : Int × Int) : PySem.W.AlikeAll [frD p, frD q] := by
  refine ⟨fun x hx y hy => ?_, fun x hx => ?_⟩
  · simp only [List.mem_cons, List.not_mem_nil, or_false] at hx hy
    rcases hx with rfl | rfl <;> rcases hy with rfl | rfl <;> rfl
  · simp only [List.mem_cons, List.not_mem_nil, or_false] at hx
    rcases hx with rfl | rfl <;> (intro z; cases z)
section
variable {prog : Program} {w : World} {A : Around} {E : Value → Shared → Prop} {s0 : Shared}
theorem min_pairs {a b : Addr} {p q : Int × Int} {as bs : List Addr} {Q : Value → Shared → Prop} (hh : A.handled = none) (hu : A.units + 10 < cLine)
    (ra : Reads s0.heap (.ref a) (frD p) as) (rb : Reads s0.heap (.ref b) (frD q) bs)
    (h : ∀ h' tk, (∀ c o, s0.heap.get? c = some o → h'.get? c = some o) → Q (if aheadU q p then .ref b else .ref a) { s0 with heap := h', toks := tk }) :
    wpAny (model prog w) A (call (.builtin "min") [.ref a, .ref b]) Q E s0 := by
  have hT : (s0.heap.push { cls := .type "tuple", data := .seq #[.ref a, .ref b] }).IsTuple s0.heap.objs.size #[.ref a, .ref b] := ⟨_, Heap.get?_push_size _ rfl, rfl, 0, rfl⟩
  have nm : (toString "min" ++ toString ".loop" : String) = "min.loop" := by decide
  refine call_function_tree F.kind_min F.plain_min F.entry_min (F.args_min2 _ _) ?_
  refine wpAny_bind (wpAny_of_eq (show Builtin.Builtins.bindParams "min" ["key", "default"] 0 ⟨[], []⟩ = pure [none, none] from rfl) ?_)
  refine wpAny_bind (wpAny_newObj_type ?_)
  refine wpAny_bind (PySem.W.iter_tupleW (A := A.in1) hh hT fun s2 e W st hfp hw hk => ?_)
  refine wpAny_bind (wpAny_newObj_type ?_)
  have keep : ∀ c o, s0.heap.get? c = some o → s2.heap.get? c = some o := fun c o q => hk c o (Heap.get?_push_of_some _ q)
  have hSf := fun hm => Nat.lt_irrefl _ (hfp s2.heap.objs.size hm)
  rw [nm]
  have rs : ReadsAll s0.heap (#[Value.ref a, Value.ref b] : Array Value).toList [frD p, frD q] (_ ++ (_ ++ [])) := .cons ra (.cons rb .nil)
  have hcmp := PySem.W.cmpIn_lt (prog := prog) (w := w) (A := A.in1) rs (alike_fr p q) (by show A.units + 1 + PyData.depthAll [frD p, frD q] < _; simp [PyData.depthAll, frD, PyData.depth]; omega)
  refine wpAny_pure ⟨plainId_quiet F.plain_min_loop _, codeAny_min_loop_firstH W s0.heap (fun c o q => hw c o (Heap.get?_push_of_some _ q)) _ hcmp s2.heap.objs.size hSf (fresh_in keep) _ (by show 0 < 2; decide)
    (fun c o q => Heap.get?_push_of_some _ (keep c o q)) (W.frame 0 s2 _ s2.toks st (Nat.le_refl _) fun c _ o q => Heap.get?_push_of_some _ q) (Heap.get?_push_size _ rfl) fun v s' hP hm => ?_⟩
  obtain ⟨h', tk, rfl, hk'⟩ := PySem.W.moved_old e rfl (Moved.drop_new (tk := s2.toks) hm (Nat.le_refl _))
  have g := h h' tk fun c o q => hk' c o (Heap.get?_push_of_some _ q)
  have ev : v = if aheadU q p then .ref b else .ref a := by
    have e2 : PySem.W.dataLt (([frD p, frD q] : List PyData).getD 1 .none) (([frD p, frD q] : List PyData).getD 0 .none) = aheadU q p := dataLt_fr q p
    have hP' : (#[Value.ref a, Value.ref b] : Array Value)[argBest (fun i j => PySem.W.dataLt (([frD p, frD q] : List PyData).getD i .none) (([frD p, frD q] : List PyData).getD j .none)) 1]? = some v := hP
    unfold argBest at hP'
    unfold argBest at hP'
    rw [e2] at hP'
    cases c : aheadU q p with
    | true =>
      rw [c, if_pos rfl] at hP'
      exact (Option.some.inj hP').symm
    | false =>
      rw [c, if_neg Bool.false_ne_true] at hP'
      exact (Option.some.inj hP').symm
  rw [ev]
  exact g
theorem max_pairs {a b : Addr} {p q : Int × Int} {as bs : List Addr} {Q : Value → Shared → Prop} (hh : A.handled = none) (hu : A.units + 10 < cLine)
    (ra : Reads s0.heap (.ref a) (frD p) as) (rb : Reads s0.heap (.ref b) (frD q) bs)
    (h : ∀ h' tk, (∀ c o, s0.heap.get? c = some o → h'.get? c = some o) → Q (if aheadU p q then .ref b else .ref a) { s0 with heap := h', toks := tk }) :
    wpAny (model prog w) A (call (.builtin "max") [.ref a, .ref b]) Q E s0 := by
  have hT : (s0.heap.push { cls := .type "tuple", data := .seq #[.ref a, .ref b] }).IsTuple s0.heap.objs.size #[.ref a, .ref b] := ⟨_, Heap.get?_push_size _ rfl, rfl, 0, rfl⟩
  have nm : (toString "max" ++ toString ".loop" : String) = "max.loop" := by decide
  refine call_function_tree F.kind_max F.plain_max F.entry_max (F.args_max2 _ _) ?_
  refine wpAny_bind (wpAny_of_eq (show Builtin.Builtins.bindParams "max" ["key", "default"] 0 ⟨[], []⟩ = pure [none, none] from rfl) ?_)
  refine wpAny_bind (wpAny_newObj_type ?_)
  refine wpAny_bind (PySem.W.iter_tupleW (A := A.in1) hh hT fun s2 e W st hfp hw hk => ?_)
  refine wpAny_bind (wpAny_newObj_type ?_)
  have keep : ∀ c o, s0.heap.get? c = some o → s2.heap.get? c = some o := fun c o q => hk c o (Heap.get?_push_of_some _ q)
  have hSf := fun hm => Nat.lt_irrefl _ (hfp s2.heap.objs.size hm)
  rw [nm]
  have rs : ReadsAll s0.heap (#[Value.ref a, Value.ref b] : Array Value).toList [frD p, frD q] (_ ++ (_ ++ [])) := .cons ra (.cons rb .nil)
  have hcmp := PySem.W.cmpIn_gt (prog := prog) (w := w) (A := A.in1) rs (alike_fr p q) (by show A.units + 1 + PyData.depthAll [frD p, frD q] < _; simp [PyData.depthAll, frD, PyData.depth]; omega)
  refine wpAny_pure ⟨plainId_quiet F.plain_max_loop _, codeAny_max_loop_firstH W s0.heap (fun c o q => hw c o (Heap.get?_push_of_some _ q)) _ hcmp s2.heap.objs.size hSf (fresh_in keep) _ (by show 0 < 2; decide)
    (fun c o q => Heap.get?_push_of_some _ (keep c o q)) (W.frame 0 s2 _ s2.toks st (Nat.le_refl _) fun c _ o q => Heap.get?_push_of_some _ q) (Heap.get?_push_size _ rfl) fun v s' hP hm => ?_⟩
  obtain ⟨h', tk, rfl, hk'⟩ := PySem.W.moved_old e rfl (Moved.drop_new (tk := s2.toks) hm (Nat.le_refl _))
  have g := h h' tk fun c o q => hk' c o (Heap.get?_push_of_some _ q)
  have ev : v = if aheadU p q then .ref b else .ref a := by
    have e2 : PySem.W.dataLt (([frD p, frD q] : List PyData).getD 0 .none) (([frD p, frD q] : List PyData).getD 1 .none) = aheadU p q := dataLt_fr p q
    have hP' : (#[Value.ref a, Value.ref b] : Array Value)[argBest (fun i j => PySem.W.dataLt (([frD p, frD q] : List PyData).getD j .none) (([frD p, frD q] : List PyData).getD i .none)) 1]? = some v := hP
    unfold argBest at hP'
    unfold argBest at hP'
    rw [e2] at hP'
    cases c : aheadU p q with
    | true =>
      rw [c, if_pos rfl] at hP'
      exact (Option.some.inj hP').symm
    | false =>
      rw [c, if_neg Bool.false_ne_true] at hP'
      exact (Option.some.inj hP').symm
  rw [ev]
  exact g
end
section
variable {X : Cx}
theorem vals_two {xs : List V} {us : List Value} {a b : V} (r : Vals xs us) (e : xs = [a, b]) : ∃ u v, us = [u, v] ∧ RelV a u ∧ RelV b v := by
  subst e
  cases r with
  | cons r1 r2 =>
    cases r2 with
    | cons r3 r4 =>
      cases r4
      exact ⟨_, _, rfl, r1, r3⟩
theorem call_minP (hc : X.calm = true) (hu : X.A.units + 10 < cLine) : CallR X (.builtin "min") (fun xs H Q => ∃ a b p q, xs = [.ref a, .ref b] ∧ FrA H a p ∧ FrA H b q ∧ Q (.ref (if aheadU q p then b else a)) H) := by
  intro pins s σ H xs us Q I r h
  obtain ⟨a, b, p, q, ex, ha, hb, g⟩ := h
  obtain ⟨u, v, rfl, r1, r2⟩ := vals_two r ex
  obtain ⟨as, d1⟩ := Dp.reads I (frD p) (.ref a) u ha.dp r1
  obtain ⟨bs, d2⟩ := Dp.reads I (frD q) (.ref b) v hb.dp r2
  cases (show u = Value.ref a from r1)
  cases (show v = Value.ref b from r2)
  refine min_pairs (I.ok.hd hc) hu d1 d2 fun h' tk k => ⟨_, H, I.kept k, ?_, g⟩
  cases aheadU q p <;> rfl
theorem call_maxP (hc : X.calm = true) (hu : X.A.units + 10 < cLine) : CallR X (.builtin "max") (fun xs H Q => ∃ a b p q, xs = [.ref a, .ref b] ∧ FrA H a p ∧ FrA H b q ∧ Q (.ref (if aheadU p q then b else a)) H) := by
  intro pins s σ H xs us Q I r h
  obtain ⟨a, b, p, q, ex, ha, hb, g⟩ := h
  obtain ⟨u, v, rfl, r1, r2⟩ := vals_two r ex
  obtain ⟨as, d1⟩ := Dp.reads I (frD p) (.ref a) u ha.dp r1
  obtain ⟨bs, d2⟩ := Dp.reads I (frD q) (.ref b) v hb.dp r2
  cases (show u = Value.ref a from r1)
  cases (show v = Value.ref b from r2)
  refine max_pairs (I.ok.hd hc) hu d1 d2 fun h' tk k => ⟨_, H, I.kept k, ?_, g⟩
  cases aheadU p q <;> rfl
end
end K16

namespace K16
open PySem PySem.Spec PyProof.Rows L2
def spTk : Sp := fun vs H Q _ => ∃ (r : Addr) (a n b : Int), vs = [.ref r, .int b] ∧ H r = some (.lst [.int a, .int n]) ∧ 0 ≤ n ∧ n < 2 ^ 60 ∧ 0 < b ∧ b < 1073741824 ∧
  ∀ (H' : Hp) (a' d : Int), SameBut r H H' → H' r = some (.lst [.int a', .int (n + 1)]) → 0 ≤ d → d < b → Q (.int d) H'
def spFair : Sp := fun vs H Q _ => ∃ (a1 a2 : Addr) (u v : Wl), vs = [.ref a1, .ref a2] ∧ WlA H a1 u ∧ WlA H a2 v ∧ (inG u.1 ∧ inG u.2) ∧ (inG v.1 ∧ inG v.2) ∧ ∀ H', Same H H' → Q (.bl (fairU u v)) H'
theorem WlA.dp {K : PySem.W.Frag} {H : Hp} {a : Addr} {w : Wl} (h : WlA H a w) : Dp K H (.ref a) (spD w) := by
  obtain ⟨a1, a2, h0, h1, h2⟩ := h
  exact .tup (SqT.of h0) (.cons h1.dp (.cons h2.dp .nil))
theorem same_mut {H H1 : Hp} {d : Addr} {o : HO} (s : Same H H1) (h : H d = none) : Same H (upd H1 d o) := fun b x e => by
  rw [upd_ne (ne_of_none e h)]
  exact s _ _ e
theorem sgn_bd (z : Int) : -1 ≤ sgn z ∧ sgn z ≤ 1 := by
  unfold sgn
  split <;> split <;> omega
section
variable {P : Program} {w : World} {K : PySem.W.Frag} {mg : Str → Option Value} {base : Heap}
theorem ok_tk (T : Txt K mg) : FnOk P w K mg base CX0 1 T.fTake T.dTake ["_law_row", "_law_base"] spTk :=
  (ok_take T).imp fun vs H Q E ⟨r, a, n, b, e, h, n0, n1, b0, b1, q⟩ => ⟨r, a, n, b, e, h, n0, n1, b0, b1, fun a' d d0 d1 => q _ a' d but_upd upd_same d0 d1⟩
theorem ok_scale (T : Txt K mg) : FnOk P w K mg base CX0 2 T.fScale T.dScale ["_law_row"] spScale := by
  have GT : FnOk P w K mg base CX0 1 T.fTake T.dTake ["_law_row", "_law_base"] spTk := ok_tk T
  refine T.tScale.F.ok scScale (fun vs H Q E h => ?_) (fun cdv A outer s H vs Q E hr h => ?_)
  · obtain ⟨r, a, n, rfl, _⟩ := h
    rfl
  · obtain ⟨r, a, n, rfl, hR, n0, n1, q⟩ := h
    refine ⟨_, pss_cons (ps_par (i := 1) (j := 2) rfl scScale.nd rfl rfl (by decide) rfl rfl
        (pa_cons (pe_op op_add pe_int (pe_call GT hr (by rfl) T.tTake.m T.tTake.F.kp T.tTake.b .nil pass0 (pa_cons (pv 0) (pa_cons pe_int pa_nil))))
          (pa_cons (pe_op op_add pe_int (pe_call GT hr (by rfl) T.tTake.m T.tTake.F.kp T.tTake.b .nil pass0 (pa_cons (pv 0) (pa_cons pe_int pa_nil)))) pa_nil)) (by rfl))
      (Evl.pss_cut (ps_if (pt_cmpR op_eq (pe_call GT hr (by rfl) T.tTake.m T.tTake.F.kp T.tTake.b .nil pass0 (pa_cons (pv 0) (pa_cons pe_int pa_nil))) pe_int (nomark _))
        (pss_one (ps_par (i := 1) (j := 2) rfl scScale.nd rfl rfl (by decide) rfl rfl
        (pa_cons (pe_op op_add pe_int (pe_call GT hr (by rfl) T.tTake.m T.tTake.F.kp T.tTake.b .nil pass0 (pa_cons (pv 0) (pa_cons (pe_op op_pow pe_int pe_int) pa_nil))))
          (pa_cons (pe_op op_add pe_int (pe_call GT hr (by rfl) T.tTake.m T.tTake.F.kp T.tTake.b .nil pass0 (pa_cons (pv 0) (pa_cons (pe_op op_pow pe_int pe_int) pa_nil)))) pa_nil)) (by rfl))) pss_nil)
      (pss_cons (ps_set (i := 3) scScale.nd rfl (.inl rfl) (pe_ix ix_list (pe_lst (pa_cons pe_int (pa_cons (pe_op op_pow pe_int pe_int) pa_nil)))
          (pe_callTy call_int1 (by rfl) T.m_int (by decide +kernel) (pa_cons (pe_cmpR op_eq (pe_call GT hr (by rfl) T.tTake.m T.tTake.F.kp T.tTake.b .nil pass0 (pa_cons (pv 0) (pa_cons pe_int pa_nil))) pe_int (nomark _)) pa_nil)) (fun _ _ => rfl)))
      (pss_one (ps_ret (pe_tup (pa_cons (pv 1) (pa_cons (pv 2)
        (pa_cons (pe_op op_mul (pv 3) (pe_op op_sub (pe_call GT hr (by rfl) T.tTake.m T.tTake.F.kp T.tTake.b .nil pass0 (pa_cons (pv 0) (pa_cons pe_int pa_nil))) pe_int))
        (pa_cons (pe_op op_mul (pv 3) (pe_op op_sub (pe_call GT hr (by rfl) T.tTake.m T.tTake.F.kp T.tTake.b .nil pass0 (pa_cons (pv 0) (pa_cons pe_int pa_nil))) pe_int)) pa_nil))))))))), ?_⟩
    have p9 : CPow 10 9 := ⟨by decide, by decide, by decide⟩
    refine ⟨_, rfl, r, a, n, 6, rfl, hR, n0, by omega, by decide, by decide, fun H1 a1 d1 s1 hR1 z1 l1 => ?_⟩
    refine ⟨_, _, rfl, rfl, _, rfl, r, a1, n + 1, 6, rfl, hR1, by omega, by omega, by decide, by decide, fun H2 a2 d2 s2 hR2 z2 l2 => ?_⟩
    refine ⟨_, _, rfl, rfl, _, _, rfl, ?_⟩
    refine ⟨fun σ H5 => ∃ t b a5 n5 : Int, σ = [some (.ref r), some (.int t), some (.int b), none] ∧ SameBut r H H5 ∧ H5 r = some (.lst [.int a5, .int n5]) ∧ (0 ≤ n5 ∧ n5 ≤ n + 6) ∧ (1 ≤ t ∧ t ≤ 1000000000) ∧ (1 ≤ b ∧ b ≤ 1000000000), ?_, ?_⟩
    · refine ⟨_, rfl, r, a2, n + 1 + 1, 4, rfl, hR2, by omega, by omega, by decide, by decide, fun H3 a3 d3 s3 hR3 z3 l3 => ?_⟩
      refine ⟨rfl, _, rfl, ite2 (fun c => ?_) (fun c => ?_)⟩
      · refine ⟨_, rfl, _, _, rfl, rfl, p9, r, a3, n + 1 + 1 + 1, (10 : Int) ^ (9 : Int).toNat, rfl, hR3, by omega, by omega, by decide, by decide, fun H4 a4 d4 s4 hR4 z4 l4 => ?_⟩
        refine ⟨_, _, rfl, rfl, _, rfl, _, _, rfl, rfl, p9, r, a4, n + 1 + 1 + 1 + 1, (10 : Int) ^ (9 : Int).toNat, rfl, hR4, by omega, by omega, by decide, by decide, fun H5 a5 d5 s5 hR5 z5 l5 => ?_⟩
        have l4' : d4 < 1000000000 := l4
        have l5' : d5 < 1000000000 := l5
        exact ⟨_, _, rfl, rfl, _, _, rfl, 1 + d4, 1 + d5, a5, _, rfl, (((s1.trans s2).trans s3).trans s4).trans s5, hR5, by omega, by omega, by omega⟩
      · exact ⟨1 + d1, 1 + d2, a3, _, rfl, (s1.trans s2).trans s3, hR3, by omega, by omega, by omega⟩
    · rintro σ H5 ⟨t, b, a5, n5, rfl, s5, hR5, hn5, ht, hb⟩
      have p15 : CPow 10 15 := ⟨by decide, by decide, by decide⟩
      refine ⟨_, _, rfl, rfl, p15, (by show 2 ≤ sizeLine; decide), fun l hl => ?_⟩
      have nlr : r ≠ l := ne_of_none hR5 hl
      have s6 : SameBut r H5 (upd H5 l (.lst [.int 1, .int ((10 : Int) ^ (15 : Int).toNat)])) := Same.but (same_new hl)
      have hR6 : (upd H5 l (.lst [.int 1, .int ((10 : Int) ^ (15 : Int).toNat)])) r = some (.lst [.int a5, .int n5]) := by rw [upd_ne nlr]; exact hR5
      have hl6 : (upd H5 l (.lst [.int 1, .int ((10 : Int) ^ (15 : Int).toNat)])) l = some (.lst [.int 1, .int ((10 : Int) ^ (15 : Int).toNat)]) := upd_same
      generalize upd H5 l (.lst [.int 1, .int ((10 : Int) ^ (15 : Int).toNat)]) = H6 at s6 hR6 hl6 ⊢
      refine ⟨_, rfl, r, a5, n5, 6, rfl, hR6, by omega, by omega, by decide, by decide, fun H7 a7 d7 s7 hR7 z7 l7 => ?_⟩
      have hl7 : H7 l = some (.lst [.int 1, .int ((10 : Int) ^ (15 : Int).toNat)]) := s7 _ _ nlr.symm hl6
      obtain ⟨f, hf, f0, f1⟩ : ∃ f : Int, atI ([V.int 1, V.int ((10 : Int) ^ (15 : Int).toNat)] : List V) (if decide (V.int d7 = V.int 0) = true then 1 else 0) = some (.int f) ∧ 1 ≤ f ∧ f ≤ 1000000000000000 := by
        cases decide (V.int d7 = V.int 0) with
        | true => exact ⟨1000000000000000, rfl, by decide, by decide⟩
        | false => exact ⟨1, rfl, by decide, by decide⟩
      refine ⟨rfl, .inr ⟨_, rfl, l, _, _, .int f, rfl, rfl, SqL.of hl7, hf, ?_⟩⟩
      refine ⟨_, rfl, _, rfl, _, rfl, _, rfl, r, a7, n5 + 1, 41, rfl, hR7, by omega, by omega, by decide, by decide, fun H8 a8 d8 s8 hR8 z8 l8 => ?_⟩
      refine ⟨_, _, rfl, rfl, _, _, rfl, rfl, .inl (by omega), ?_⟩
      refine ⟨_, rfl, _, rfl, r, a8, n5 + 1 + 1, 41, rfl, hR8, by omega, by omega, by decide, by decide, fun H9 a9 d9 s9 hR9 z9 l9 => ?_⟩
      refine ⟨_, _, rfl, rfl, _, _, rfl, rfl, .inl (by omega), (by show 4 ≤ sizeLine; decide), fun p hp => ?_⟩
      have npr : r ≠ p := ne_of_none hR9 hp
      have bd : ∀ d : Int, 0 ≤ d → d < 41 → -100000000000000000 ≤ f * (d - 20) ∧ f * (d - 20) ≤ 100000000000000000 := fun d h0 h1 => by
        have a1 : f * (d - 20) ≤ f * 20 := Int.mul_le_mul_of_nonneg_left (by omega) (by omega)
        have a2 : f * (-20) ≤ f * (d - 20) := Int.mul_le_mul_of_nonneg_left (by omega) (by omega)
        omega
      refine q _ p ⟨t, b, f * (d8 - 20), f * (d9 - 20)⟩ a9 (n5 + 1 + 1 + 1) (((((s5.trans s6).trans s7).trans s8).trans s9).trans (Same.but (same_new hp))) ?_ (by omega) (by omega) upd_same ⟨ht, hb, bd _ z8 l8, bd _ z9 l9⟩
      rw [upd_ne npr]
      exact hR9
end
end K16

namespace K16
open PySem PySem.Spec PyProof.Rows L2
theorem any_ends (x : Wl) (t : Pt) : (([frD x.1, frD x.2] : List PyData).any fun z => PyData.eqv z (frD t)) = (decide (x.1 = t) || decide (x.2 = t)) := by
  simp only [List.any_cons, List.any_nil, Bool.or_false, frD_eqv]
theorem tyes {σ : L2.St} {H : Hp} {A B : Hp → Prop} (h : A H) : tYes σ H (fun b H3 => if b = true then A H3 else B H3) := by
  show if true = true then A H else B H
  exact iteT h
theorem ixT {K : PySem.W.Frag} {X : Cx} (h : X.K = K) : IxR X (rIxT K) := h ▸ ix_tup
theorem ixL {K : PySem.W.Frag} {X : Cx} (h : X.K = K) : IxR X (rIxL K) := h ▸ ix_list
section
variable {P : Program} {w : World} {K : PySem.W.Frag} {mg : Str → Option Value} {base : Heap}
theorem ok_fair (T : Txt K mg) : FnOk P w K mg base CX0 3 T.fFair T.dFair ["_law_one", "_law_other"] spFair := by
  have GT : FnOk P w K mg base CX0 1 T.fTurn T.dTurn ["_law_one", "_law_two", "_law_three"] spTurn := ok_turn T
  have GO : FnOk P w K mg base CX0 2 T.fOn T.dOn ["_law_shut", "_law_spot_here"] spOn := ok_on T
  refine T.tFair.F.ok scFair (fun vs H Q E h => ?_) (fun cdv A outer s H vs Q E hr h => ?_)
  · obtain ⟨a1, a2, u, v, rfl, _⟩ := h
    rfl
  · obtain ⟨a1, a2, u, v, rfl, h1, h2, g1, g2, q⟩ := h
    have hr1 : Room 1 _ := hr.mono (by decide)
    have hu : (A.deeper (envOfC ("_law_fair" : Str) (defScope sFair) s.heap.objs.size T.fFair cdv)).units + 65 < cLine := by have := hr.un; omega
    refine ⟨_, pss_cons (ps_if (pt_cmpR (op_eqD hr.units) (pv 0) (pv 1) (nomark _)) (pss_one (ps_ret pe_bl)) pss_nil)
      (pss_cons (ps_for PassesOwn.never rfl (pi_tup (pe_tup (pa_cons (pe_tup (pa_cons (pv 0) (pa_cons (pv 1) pa_nil))) (pa_cons (pe_tup (pa_cons (pv 1) (pa_cons (pv 0) pa_nil))) pa_nil))))
          (pg_tup rfl (pgs_cons (pg_name (i := 2) scFair.nd rfl (.inl rfl)) (pgs_cons (pg_name (i := 3) scFair.nd rfl (.inl rfl)) pgs_nil)))
          (pss_one (ps_for PassesOwn.never rfl (pi_tup (pv 3)) (pg_name (i := 4) scFair.nd rfl (.inl rfl))
            (pss_one (ps_if (PW.pt (pw_and (pt_cmpR (op_outT hu) (pv 4) (pv 2) rfl) (pw_and1 (pt_val (pe_call GO hr (by rfl) T.tOn.m T.tOn.F.kp T.tOn.b .nil pass0 (pa_cons (pv 2) (pa_cons (pv 4) pa_nil)))))))
              (pss_one (ps_ret pe_bl)) pss_nil)))))
      (pss_cons (ps_setLc (i := 5) (own := [("_law_spot_here", 4)]) (g := gName 4) (tt := tYes) rfl scFair.nd rfl rfl (sw_true rfl rfl rfl (by decide +kernel)) (pi_tup (pv 1))
          (blkOk_by (own := [("_law_spot_here", 4)]) (N := ["_law_one", "_law_other", "_law_shut", "_law_beside", "_law_spot_here", "_law_sides", "_law_others"]) (sc := defScope sFair) (by decide +kernel))
          (fun _ _ _ _ _ => pg_name (i := 4) scFair.nd rfl (Or.inl rfl)) (fun _ _ _ _ _ => pts_nil)
          (fun _ _ _ _ _ => pe_call GT hr1 (by rfl) T.tTurn.m T.tTurn.F.kp T.tTurn.b .nil pass0 (pa_cons (pe_ix (ixT (K := K) rfl) (pv 0) pe_int (fun _ _ => rfl)) (pa_cons (pe_ix (ixT (K := K) rfl) (pv 0) pe_int (fun _ _ => rfl)) (pa_cons (pv 4) pa_nil)))))
      (pss_cons (ps_setLc (i := 6) (own := [("_law_spot_here", 4)]) (g := gName 4) (tt := tYes) rfl scFair.nd rfl rfl (sw_true rfl rfl rfl (by decide +kernel)) (pi_tup (pv 0))
          (blkOk_by (own := [("_law_spot_here", 4)]) (N := ["_law_one", "_law_other", "_law_shut", "_law_beside", "_law_spot_here", "_law_sides", "_law_others"]) (sc := defScope sFair) (by decide +kernel))
          (fun _ _ _ _ _ => pg_name (i := 4) scFair.nd rfl (Or.inl rfl)) (fun _ _ _ _ _ => pts_nil)
          (fun _ _ _ _ _ => pe_call GT hr1 (by rfl) T.tTurn.m T.tTurn.F.kp T.tTurn.b .nil pass0 (pa_cons (pe_ix (ixT (K := K) rfl) (pv 1) pe_int (fun _ _ => rfl)) (pa_cons (pe_ix (ixT (K := K) rfl) (pv 1) pe_int (fun _ _ => rfl)) (pa_cons (pv 4) pa_nil)))))
      (pss_one (ps_ret (pe_or (pe_cmpR op_ge (pe_op op_mul (pe_ix ix_list (pv 5) pe_int (fun _ _ => rfl)) (pe_ix ix_list (pv 5) pe_int (fun _ _ => rfl))) pe_int (nomark _))
        (pe_one (pe_cmpR op_ge (pe_op op_mul (pe_ix ix_list (pv 6) pe_int (fun _ _ => rfl)) (pe_ix ix_list (pv 6) pe_int (fun _ _ => rfl))) pe_int (nomark _))))))))), ?_⟩
    -- if one == other
    refine ⟨_, rfl, _, rfl, _, _, h1.dp, h2.dp, spD_shaped _, spD_shaped _, _, rfl, ?_⟩
    rw [show PyData.eqv (spD u) (spD v) = decide (u = v) from spD_eqv u v]
    by_cases c0 : u = v
    · rw [decide_eq_true c0]
      refine iteT ?_
      have e0 : fairU u v = false := by unfold fairU; rw [if_pos c0]
      rw [e0] at q
      exact q _ (Same.refl H)
    rw [decide_eq_false c0]
    refine iteF ?_
    have e1 : (badU u v.1 = true ∨ badU u v.2 = true ∨ badU v u.1 = true ∨ badU v u.2 = true) → fairU u v = false := fun z => by
      unfold fairU
      rw [if_neg c0, if_pos (by rcases z with z | z | z | z <;> simp [z])]
    -- the loop over both orders
    refine ⟨_, rfl, _, rfl, (by show 2 ≤ sizeLine; decide), fun t1 ht1 => ⟨_, rfl, _, rfl, (by show 2 ≤ sizeLine; decide), fun t2 ht2 => ⟨(by show 2 ≤ sizeLine; decide), fun t0 ht0 => ?_⟩⟩⟩
    have m1 := same_new (o := .tup [.ref a1, .ref a2]) ht1
    have f1 : (upd H t1 (.tup [.ref a1, .ref a2])) t1 = some (.tup [.ref a1, .ref a2]) := upd_same
    generalize upd H t1 (.tup [.ref a1, .ref a2]) = H1 at m1 f1 ht2 ht0 ⊢
    have m2 := same_new (o := .tup [.ref a2, .ref a1]) ht2
    have f2 : (upd H1 t2 (.tup [.ref a2, .ref a1])) t2 = some (.tup [.ref a2, .ref a1]) := upd_same
    generalize upd H1 t2 (.tup [.ref a2, .ref a1]) = H2 at m2 f2 ht0 ⊢
    have m3 := same_new (o := .tup [.ref t1, .ref t2]) ht0
    have f3 : (upd H2 t0 (.tup [.ref t1, .ref t2])) t0 = some (.tup [.ref t1, .ref t2]) := upd_same
    generalize upd H2 t0 (.tup [.ref t1, .ref t2]) = H3 at m3 f3 ⊢
    have m13 := m2.trans m3
    have s3 := (m1.trans m2).trans m3
    refine ⟨t0, rfl, ⟨_, SqT.of f3⟩, for_tup (K := K) (a := t0) (xs := [.ref t1, .ref t2]) (fun i σ H4 => ∃ y2 y3 y4, σ = [some (.ref a1), some (.ref a2), y2, y3, y4, none, none] ∧ Same H3 H4 ∧
        (1 ≤ i → badU u v.1 = false ∧ badU u v.2 = false) ∧ (2 ≤ i → badU v u.1 = false ∧ badU v u.2 = false))
      ⟨none, none, none, rfl, Same.refl _, fun z => by omega, fun z => by omega⟩ (fun i σ H4 _ ⟨_, _, _, _, m, _⟩ => SqT.of (m _ _ f3)) ?_ ?_⟩
    · rintro i x σ H4 hx ⟨y2, y3, y4, rfl, m4, k1, k2⟩
      -- a turn, told by its two walls
      obtain ⟨t, sh, be, x, y, rfl, ft, wx, wy, gx, gy, hbad, hnx⟩ : ∃ (t sh be : Addr) (X Y : Wl), x = .ref t ∧ H4 t = some (.tup [.ref sh, .ref be]) ∧ WlA H4 sh X ∧ WlA H4 be Y ∧ (inG X.1 ∧ inG X.2) ∧ (inG Y.1 ∧ inG Y.2) ∧
          ((badU X Y.1 = true ∨ badU X Y.2 = true) → fairU u v = false) ∧
          ((badU X Y.1 = false ∧ badU X Y.2 = false) → (1 ≤ i + 1 → badU u v.1 = false ∧ badU u v.2 = false) ∧ (2 ≤ i + 1 → badU v u.1 = false ∧ badU v u.2 = false)) := by
        match i, hx with
        | 0, hx =>
          exact ⟨t1, a1, a2, u, v, (Option.some.inj hx).symm, m4 _ _ (m13 _ _ f1), h1.same (s3.trans m4), h2.same (s3.trans m4), g1, g2, fun z => e1 (by rcases z with z | z; exact .inl z; exact .inr (.inl z)), fun z => ⟨fun _ => z, fun k => by omega⟩⟩
        | 1, hx =>
          exact ⟨t2, a2, a1, v, u, (Option.some.inj hx).symm, m4 _ _ (m3 _ _ f2), h2.same (s3.trans m4), h1.same (s3.trans m4), g2, g1, fun z => e1 (by rcases z with z | z; exact .inr (.inr (.inl z)); exact .inr (.inr (.inr z))), fun z => ⟨fun _ => k1 (by omega), fun _ => z⟩⟩
        | i + 2, hx => simp at hx
      refine ⟨t, _, rfl, SqT.of ft, rfl, _, _, rfl, _, _, rfl, rfl, ?_⟩
      obtain ⟨x1, x2, ex, fx1, fx2⟩ := id wx
      obtain ⟨y1, y2', ey, fy1, fy2⟩ := id wy
      refine ⟨_, rfl, be, rfl, ⟨_, SqT.of ey⟩, for_tup (K := K) (a := be) (xs := [.ref y1, .ref y2']) (fun j σ H5 => ∃ z4, σ = [some (.ref a1), some (.ref a2), some (.ref sh), some (.ref be), z4, none, none] ∧ Same H4 H5 ∧
        (1 ≤ j → badU x y.1 = false) ∧ (2 ≤ j → badU x y.2 = false))
        ⟨y4, rfl, Same.refl _, fun z => by omega, fun z => by omega⟩ (fun j σ H5 _ ⟨_, _, m, _⟩ => SqT.of (m _ _ ey)) ?_ ?_⟩
      · rintro j it σ H5 hj ⟨z4, rfl, m5, j1, j2⟩
        obtain ⟨pa, pt, rfl, fp, gp, hb, hn⟩ : ∃ (pa : Addr) (pt : Pt), it = .ref pa ∧ FrA H5 pa pt ∧ inG pt ∧ (badU x pt = true → fairU u v = false) ∧
            (badU x pt = false → (1 ≤ j + 1 → badU x y.1 = false) ∧ (2 ≤ j + 1 → badU x y.2 = false)) := by
          match j, hj with
          | 0, hj => exact ⟨y1, y.1, (Option.some.inj hj).symm, fy1.same m5, gy.1, fun z => hbad (.inl z), fun z => ⟨fun _ => z, fun k => by omega⟩⟩
          | 1, hj => exact ⟨y2', y.2, (Option.some.inj hj).symm, fy2.same m5, gy.2, fun z => hbad (.inr z), fun z => ⟨fun _ => j1 (by omega), fun _ => z⟩⟩
          | j + 2, hj => simp at hj
        have wx5 : WlA H5 sh x := wx.same m5
        obtain ⟨w1, w2, ew, fw1, fw2⟩ := id wx5
        refine ⟨_, rfl, _, rfl, frD pt, [frD x.1, frD x.2], fp.dp, .tup (SqT.of ew) (.cons fw1.dp (.cons fw2.dp .nil)), frD_shaped _, rfl, _, rfl, ?_⟩
        rw [any_ends]
        have done : ∀ H6, Same H5 H6 → badU x pt = false → ∃ z4, [some (V.ref a1), some (V.ref a2), some (V.ref sh), some (V.ref be), some (V.ref pa), none, none] = [some (V.ref a1), some (V.ref a2), some (V.ref sh), some (V.ref be), z4, none, none] ∧ Same H4 H6 ∧
            (1 ≤ j + 1 → badU x y.1 = false) ∧ (2 ≤ j + 1 → badU x y.2 = false) := fun H6 m6 z => ⟨_, rfl, m5.trans m6, hn z⟩
        cases c : (decide (x.1 = pt) || decide (x.2 = pt)) with
        | true =>
          refine iteF ?_
          exact done H5 (Same.refl _) (by unfold badU; rw [c]; rfl)
        | false =>
          refine iteT ?_
          refine ⟨_, rfl, _, rfl, sh, pa, x, pt, rfl, wx5, fp, gx.1, gx.2, gp, fun H6 m6 => ⟨_, rfl, ?_⟩⟩
          have eb : badU x pt = onU x pt := by unfold badU; rw [c]; rfl
          cases d : onU x pt with
          | true =>
            refine iteT ?_
            have e2 := hb (eb.trans d)
            rw [e2] at q
            exact q _ ((s3.trans m4).trans (m5.trans m6))
          | false =>
            refine iteF ?_
            exact done H6 m6 (eb.trans d)
      · rintro σ H5 ⟨z4, rfl, m5, j1, j2⟩
        exact ⟨_, _, _, rfl, m4.trans m5, hnx ⟨j1 (by show 1 ≤ 2; decide), j2 (by show 2 ≤ 2; decide)⟩⟩
    · rintro σ H4 ⟨y2, y3, y4, rfl, m4, k1, k2⟩
      have b12 := k1 (by show 1 ≤ 2; decide)
      have b34 := k2 (by show 2 ≤ 2; decide)
      have s4 := s3.trans m4
      have ef : fairU u v = (decide (0 ≤ sideU u v.1 * sideU u v.2) || decide (0 ≤ sideU v u.1 * sideU v u.2)) := by
        unfold fairU
        rw [if_neg c0, b12.1, b12.2, b34.1, b34.2]
        rfl
      rw [ef] at q
      -- sides
      have w1 : WlA H4 a1 u := h1.same s4
      have w2 : WlA H4 a2 v := h2.same s4
      obtain ⟨u1, u2, eu, fu1, fu2⟩ := id w1
      obtain ⟨v1, v2, ev, fv1, fv2⟩ := id w2
      refine ⟨_, rfl, a2, rfl, ⟨_, SqT.of ev⟩, fun D hD => ?_⟩
      refine lc_tup (K := K) (a := a2) (xs := [.ref v1, .ref v2]) (fun i H5 => Same H4 H5 ∧ H5 D = some (.lst (([sideU u v.1, sideU u v.2].take i).map V.int)))
        ⟨same_new hD, upd_same⟩ (fun i H5 _ h => SqT.of (h.1 _ _ ev)) ?_ ?_
      · rintro i x H5 hx ⟨m5, eD⟩
        obtain ⟨pa, pt, rfl, fp, gp, hnx⟩ : ∃ (pa : Addr) (pt : Pt), x = .ref pa ∧ FrA H5 pa pt ∧ inG pt ∧ ([sideU u v.1, sideU u v.2].take i).map V.int ++ [.int (sideU u pt)] = ([sideU u v.1, sideU u v.2].take (i + 1)).map V.int := by
          match i, hx with
          | 0, hx => exact ⟨v1, v.1, (Option.some.inj hx).symm, fv1.same m5, g2.1, rfl⟩
          | 1, hx => exact ⟨v2, v.2, (Option.some.inj hx).symm, fv2.same m5, g2.2, rfl⟩
          | i + 2, hx => simp at hx
        refine ⟨rfl, tyes ?_⟩
        refine ⟨_, rfl, a1, _, 0, .ref u1, rfl, rfl, SqT.of (m5 _ _ eu), rfl, _, rfl, a1, _, 1, .ref u2, rfl, rfl, SqT.of (m5 _ _ eu), rfl, _, rfl, u1, u2, pa, u.1, u.2, pt, rfl, fu1.same m5, fu2.same m5, fp, g1.1, g1.2, gp, fun H6 m6 => ?_⟩
        refine ⟨_, m6 _ _ eD, ?_, same_mut (m5.trans m6) hD, ?_⟩
        · rw [List.length_map, List.length_take]
          exact Nat.lt_of_le_of_lt (Nat.min_le_right _ _) (by show 2 < sizeLine; decide)
        · exact upd_same.trans (congrArg (fun l => some (HO.lst l)) hnx)
      · rintro H5 ⟨m5, eD⟩
        have eD : H5 D = some (.lst [.int (sideU u v.1), .int (sideU u v.2)]) := eD
        have s5 := s4.trans m5
        have w1 : WlA H5 a1 u := h1.same s5
        have w2 : WlA H5 a2 v := h2.same s5
        obtain ⟨u1, u2, eu, fu1, fu2⟩ := id w1
        obtain ⟨v1, v2, ev, fv1, fv2⟩ := id w2
        refine ⟨_, rfl, a1, rfl, ⟨_, SqT.of eu⟩, fun D2 hD2 => ?_⟩
        refine lc_tup (K := K) (a := a1) (xs := [.ref u1, .ref u2]) (fun i H6 => Same H5 H6 ∧ H6 D2 = some (.lst (([sideU v u.1, sideU v u.2].take i).map V.int)))
          ⟨same_new hD2, upd_same⟩ (fun i H6 _ h => SqT.of (h.1 _ _ eu)) ?_ ?_
        · rintro i x H6 hx ⟨m6, eD2⟩
          obtain ⟨pa, pt, rfl, fp, gp, hnx⟩ : ∃ (pa : Addr) (pt : Pt), x = .ref pa ∧ FrA H6 pa pt ∧ inG pt ∧ ([sideU v u.1, sideU v u.2].take i).map V.int ++ [.int (sideU v pt)] = ([sideU v u.1, sideU v u.2].take (i + 1)).map V.int := by
            match i, hx with
            | 0, hx => exact ⟨u1, u.1, (Option.some.inj hx).symm, fu1.same m6, g1.1, rfl⟩
            | 1, hx => exact ⟨u2, u.2, (Option.some.inj hx).symm, fu2.same m6, g1.2, rfl⟩
            | i + 2, hx => simp at hx
          refine ⟨rfl, tyes ?_⟩
          refine ⟨_, rfl, a2, _, 0, .ref v1, rfl, rfl, SqT.of (m6 _ _ ev), rfl, _, rfl, a2, _, 1, .ref v2, rfl, rfl, SqT.of (m6 _ _ ev), rfl, _, rfl, v1, v2, pa, v.1, v.2, pt, rfl, fv1.same m6, fv2.same m6, fp, g2.1, g2.2, gp, fun H7 m7 => ?_⟩
          refine ⟨_, m7 _ _ eD2, ?_, same_mut (m6.trans m7) hD2, ?_⟩
          · rw [List.length_map, List.length_take]
            exact Nat.lt_of_le_of_lt (Nat.min_le_right _ _) (by show 2 < sizeLine; decide)
          · exact upd_same.trans (congrArg (fun l => some (HO.lst l)) hnx)
        · rintro H6 ⟨m6, eD2⟩
          have eD2 : H6 D2 = some (.lst [.int (sideU v u.1), .int (sideU v u.2)]) := eD2
          have eD' := m6 _ _ eD
          have bs := sgn_bd (turnU u.1 u.2 v.1)
          have bo := sgn_bd (turnU v.1 v.2 u.1)
          have r1 : -(2 ^ 64) < sideU u v.1 ∧ sideU u v.1 < 2 ^ 64 := by unfold sideU; omega
          have r2 : -(2 ^ 64) < sideU v u.1 ∧ sideU v u.1 < 2 ^ 64 := by unfold sideU; omega
          refine ⟨_, rfl, D, _, 0, .int (sideU u v.1), rfl, rfl, SqL.of eD', rfl, _, rfl, D, _, 1, .int (sideU u v.2), rfl, rfl, SqL.of eD', rfl, _, _, rfl, rfl, .inl r1, _, _, rfl, rfl, _, rfl, ?_⟩
          cases c : decide (0 ≤ sideU u v.1 * sideU u v.2) with
          | true =>
            rw [c] at q
            exact iteT (q _ (s5.trans m6))
          | false =>
            rw [c] at q
            refine iteF ?_
            refine ⟨_, rfl, D2, _, 0, .int (sideU v u.1), rfl, rfl, SqL.of eD2, rfl, _, rfl, D2, _, 1, .int (sideU v u.2), rfl, rfl, SqL.of eD2, rfl, _, _, rfl, rfl, .inl r2, _, _, rfl, rfl, ?_⟩
            exact q _ (s5.trans m6)
end
end K16

namespace K16
open PySem PySem.Spec PyProof.Rows L2
/-- at the addresses as stand the walls ws -/
structure Walls (H : Hp) (as : List Addr) (ws : List Wl) : Prop where
  len : as.length = ws.length
  at_ : ∀ (j : Nat) (a : Addr) (w : Wl), as[j]? = some a → ws[j]? = some w → WlA H a w
section
variable {H H' : Hp} {a r : Addr} {xs : List V} {as : List Addr} {ws : List Wl}
theorem FrA.but {p : Int × Int} (h : FrA H a p) (s : SameBut r H H') (hr : H r = some (.lst xs)) : FrA H' a p := s _ _ (ne_of h hr (by intro z; cases z)) h
theorem WlA.but {w : Wl} (h : WlA H a w) (s : SameBut r H H') (hr : H r = some (.lst xs)) : WlA H' a w := by
  obtain ⟨a1, a2, h0, h1, h2⟩ := h
  exact ⟨a1, a2, s _ _ (ne_of h0 hr (by intro z; cases z)) h0, h1.but s hr, h2.but s hr⟩
theorem Walls.same (h : Walls H as ws) (s : Same H H') : Walls H' as ws := ⟨h.len, fun j a w h1 h2 => (h.at_ j a w h1 h2).same s⟩
theorem Walls.but (h : Walls H as ws) (s : SameBut r H H') (hr : H r = some (.lst xs)) : Walls H' as ws := ⟨h.len, fun j a w h1 h2 => (h.at_ j a w h1 h2).but s hr⟩
theorem Walls.snoc (h : Walls H as ws) {w : Wl} (hw : WlA H a w) : Walls H (as ++ [a]) (ws ++ [w]) := by
  have hl := h.len
  refine ⟨by simp [hl], fun j b u h1 h2 => ?_⟩
  by_cases hj : j < as.length
  · rw [List.getElem?_append_left hj] at h1
    rw [List.getElem?_append_left (by omega)] at h2
    exact h.at_ j b u h1 h2
  · rw [List.getElem?_append_right (by omega)] at h1
    rw [List.getElem?_append_right (by omega)] at h2
    have e : ws.length = as.length := hl.symm
    rw [e] at h2
    cases hk : j - as.length with
    | zero =>
      rw [hk] at h1 h2
      rw [← Option.some.inj h1, ← Option.some.inj h2]
      exact hw
    | succ k =>
      rw [hk] at h1
      simp at h1
theorem Walls.get (h : Walls H as ws) {j : Nat} (hj : j < ws.length) : ∃ a, as[j]? = some a ∧ WlA H a ws[j] := by
  have hl := h.len
  have h1 : as[j]? = some as[j] := List.getElem?_eq_getElem (by omega)
  exact ⟨_, h1, h.at_ j _ _ h1 (List.getElem?_eq_getElem hj)⟩
theorem Walls.dps {K : PySem.W.Frag} : ∀ {as : List Addr} {ws : List Wl}, Walls H as ws → DpAll K H (as.map V.ref) (ws.map spD)
  | [], [], _ => .nil
  | [], _ :: _, h => by have := h.len; simp at this
  | _ :: _, [], h => by have := h.len; simp at this
  | a :: as, w :: ws, h => .cons (h.at_ 0 a w rfl rfl).dp (Walls.dps ⟨by have := h.len; simp at this; exact this, fun j b u h1 h2 => h.at_ (j + 1) b u h1 h2⟩)
end
theorem wDs_lay : ∀ ws : List Wl, PyData.canLayAll0 (ws.map spD) = true
  | [] => rfl
  | w :: ws => by
    show (PyData.canLay0 (spD w) && PyData.canLayAll0 (ws.map spD)) = true
    rw [wDs_lay ws]
    rfl
theorem wDs_depth : ∀ ws : List Wl, PyData.depthAll (ws.map spD) ≤ 2
  | [] => by simp [PyData.depthAll]
  | w :: ws => by
    have h1 := wDs_depth ws
    have h2 : PyData.depth (spD w) = 2 := rfl
    simp only [List.map_cons, PyData.depthAll]
    omega
theorem wDs_shaped (ws : List Wl) : SeqAt.shaped (.list (ws.map spD)) = true := by
  have h1 := wDs_depth ws
  have h2 : PyData.depth (.list (ws.map spD)) ≤ 64 := by
    simp only [PyData.depth]
    omega
  show (PyData.canLay0 (.list (ws.map spD)) && decide (PyData.depth (.list (ws.map spD)) ≤ 64)) = true
  rw [decide_eq_true h2, Bool.and_true]
  exact wDs_lay ws
theorem wDs_nil : ∀ ws : List Wl, PyData.eqv (.list (ws.map spD)) (.list []) = decide (ws = [])
  | [] => rfl
  | w :: ws => by
    have e : PyData.eqv (.list ((w :: ws).map spD)) (.list []) = false := by simp only [List.map_cons, PyData.eqv, PyData.eqvAll]
    rw [e]
    exact (decide_eq_false (by simp)).symm
theorem lex_total {p q : Pt} (h : p ≠ q) : aheadU q p = false → aheadU p q = true := by
  unfold aheadU
  intro h1
  by_cases e : p.1 = q.1
  · rw [if_pos e]
    rw [if_pos e.symm] at h1
    have : ¬ q.2 < p.2 := of_decide_eq_false h1
    have n : p.2 ≠ q.2 := fun z => h (Prod.ext e z)
    exact decide_eq_true (by omega)
  · rw [if_neg e]
    rw [if_neg (fun z => e z.symm)] at h1
    have : ¬ q.1 < p.1 := of_decide_eq_false h1
    exact decide_eq_true (by omega)
theorem lex_asym {p q : Pt} (h : aheadU p q = true) : aheadU q p = false := by
  unfold aheadU at *
  by_cases e : p.1 = q.1
  · rw [if_pos e] at h
    rw [if_pos e.symm]
    have := of_decide_eq_true h
    exact decide_eq_false (by omega)
  · rw [if_neg e] at h
    rw [if_neg (fun z => e z.symm)]
    have := of_decide_eq_true h
    exact decide_eq_false (by omega)
/-- the plot in units -/
structure Plot (ws : List Wl) : Prop where
  wf : ∀ w ∈ ws, WF w
  fair : ws.Pairwise Fair
  most : ws.length ≤ 9
def spShuts : Sp := fun vs H Q _ => ∃ (r : Addr) (a n : Int), vs = [.ref r, .int 9, .int 5] ∧ H r = some (.lst [.int a, .int n]) ∧ 0 ≤ n ∧ n < 2 ^ 51 ∧
  ∀ (H' : Hp) (L : Addr) (as : List Addr) (ws : List Wl), SameBut r H H' → H' L = some (.lst (as.map V.ref)) → Walls H' as ws → Plot ws → Q (.ref L) H'
def spMade : Sp := fun vs H Q _ => ∃ (a1 L : Addr) (c : Sc) (as : List Addr) (ws : List Wl), vs = [.ref a1, .ref L] ∧ ScA H a1 c ∧ ScB c ∧ H L = some (.lst (as.map V.ref)) ∧ Walls H as ws ∧ Plot ws ∧
  ∀ (H' : Hp) (p : Addr) (bs : List Addr), Same H H' → H' p = some (.tup (bs.map V.ref)) → bs.length = ws.length → (∀ (j : Nat) (b : Addr) (w : Wl), bs[j]? = some b → ws[j]? = some w → WfA H' b (c.wall w)) → Q (.ref p) H'
section
variable {P : Program} {w : World} {K : PySem.W.Frag} {mg : Str → Option Value} {base : Heap}
theorem ok_made (T : Txt K mg) : FnOk P w K mg base CX0 3 T.fMade T.dMade ["_law_scale_here", "_law_shuts"] spMade := by
  have GS : FnOk P w K mg base CX0 2 T.fSpot T.dSpot ["_law_scale_here", "_law_unit"] spSpot := ok_spot T
  refine T.tMade.F.ok scMade (fun vs H Q E h => ?_) (fun cdv A outer s H vs Q E hr h => ?_)
  · obtain ⟨a1, L, c, as, ws, rfl, _⟩ := h
    rfl
  · obtain ⟨a1, L, c, as, ws, rfl, h1, hc, hL, hW, hP, q⟩ := h
    refine ⟨_, pss_one (ps_ret (pe_callTy call_tuple_of (by rfl) T.m_tuple (by decide +kernel) (pa_cons
      (pe_lc (own := [("_law_first", 2), ("_law_second", 3)]) (g := gTup K 2 (gCons (gName 2) (gCons (gName 3) gNil))) (tt := tYes) rfl scMade.nd (pi_list (pv 1))
        (blkOk_by (own := [("_law_first", 2), ("_law_second", 3)]) (N := ["_law_scale_here", "_law_shuts", "_law_first", "_law_second"]) (sc := defScope sMade) (by decide +kernel))
        (fun _ _ _ _ _ => pg_tup rfl (pgs_cons (pg_name (i := 2) scMade.nd rfl (.inl rfl)) (pgs_cons (pg_name (i := 3) scMade.nd rfl (.inl rfl)) pgs_nil))) (fun _ _ _ _ _ => pts_nil)
        (fun _ _ _ _ _ => pe_tup (pa_cons (pe_call GS hr (by rfl) T.tSpot.m T.tSpot.F.kp T.tSpot.b .nil pass0 (pa_cons (pv 0) (pa_cons (pv 2) pa_nil)))
          (pa_cons (pe_call GS hr (by rfl) T.tSpot.m T.tSpot.F.kp T.tSpot.b .nil pass0 (pa_cons (pv 0) (pa_cons (pv 3) pa_nil))) pa_nil)))) pa_nil))), ?_⟩
    refine ⟨_, rfl, L, rfl, ⟨_, SqL.of hL⟩, fun D hD => ?_⟩
    refine lc_list (K := K) (a := L) (xs := as.map V.ref) (fun i H1 => Same H H1 ∧ ∃ bs : List Addr, H1 D = some (.lst (bs.map V.ref)) ∧ bs.length = i ∧ ∀ (j : Nat) (b : Addr) (w : Wl), bs[j]? = some b → ws[j]? = some w → WfA H1 b (c.wall w))
      ⟨same_new hD, [], upd_same, rfl, fun j b w h => by simp at h⟩ (fun i H1 _ h => SqL.of (h.1 _ _ hL)) ?_ ?_
    · rintro i x H1 hx ⟨m1, bs, eD, hb, hbs⟩
      have hi : i < as.length := by
        have := (List.getElem?_eq_some_iff.mp hx).1
        simpa using this
      have hiw : i < ws.length := by have := hW.len; omega
      obtain ⟨a, ha, wa⟩ := hW.get hiw
      have ex : x = .ref a := by
        rw [List.getElem?_map, ha] at hx
        exact (Option.some.inj hx).symm
      subst ex
      have wf := hP.wf ws[i] (List.getElem_mem hiw)
      obtain ⟨a1', a2', e0, f1, f2⟩ := wa.same m1
      refine ⟨a, _, rfl, SqT.of e0, rfl, _, _, rfl, _, _, rfl, rfl, rfl, tyes ?_⟩
      refine ⟨_, rfl, _, rfl, a1, a1', c, ws[i].1, rfl, m1 _ _ h1, hc, f1, wf.1, fun H2 r2 m2 g2 => ?_⟩
      refine ⟨_, rfl, _, rfl, a1, a2', c, ws[i].2, rfl, m2 _ _ (m1 _ _ h1), hc, f2.same m2, wf.2.1, fun H3 r3 m3 g3 => ?_⟩
      refine ⟨(by show 2 ≤ sizeLine; decide), fun p hp => ?_⟩
      have m4 := same_new (o := .tup [.ref r2, .ref r3]) hp
      have m14 := (m2.trans m3).trans m4
      have eD4 : (upd H3 p (.tup [.ref r2, .ref r3])) D = some (.lst (bs.map V.ref)) := m14 _ _ eD
      have nDp : p ≠ D := fun z => by
        subst z
        rw [m3 _ _ (m2 _ _ eD)] at hp
        cases hp
      have wp : WfA (upd H3 p (.tup [.ref r2, .ref r3])) p (c.wall ws[i]) := ⟨r2, r3, upd_same, (g2.same m3).same m4, g3.same m4⟩
      refine ⟨_, eD4, ?_, same_mut (m1.trans m14) hD, bs ++ [p], ?_, by simp [hb], ?_⟩
      · rw [List.length_map, hb]
        exact small1000 (by have := hP.most; omega)
      · rw [upd_same, List.map_append]
        rfl
      · have mv : ∀ {b : Addr} {u : Wf}, WfA (upd H3 p (.tup [.ref r2, .ref r3])) b u → WfA (upd (upd H3 p (.tup [.ref r2, .ref r3])) D (.lst (bs.map V.ref ++ [.ref p]))) b u := by
          intro b u ⟨x1, x2, k0, ⟨y1, y2, k1, k2, k3⟩, ⟨z1, z2, k4, k5, k6⟩⟩
          have nn : ∀ {e : Addr} {xs : List V}, (upd H3 p (.tup [.ref r2, .ref r3])) e = some (.tup xs) → (upd (upd H3 p (.tup [.ref r2, .ref r3])) D (.lst (bs.map V.ref ++ [.ref p]))) e = some (.tup xs) := fun {e xs} h => by
            rw [upd_ne (ne_of h eD4 (by intro z; cases z))]
            exact h
          exact ⟨x1, x2, nn k0, ⟨y1, y2, nn k1, nn k2, nn k3⟩, ⟨z1, z2, nn k4, nn k5, nn k6⟩⟩
        intro j b u hj hu
        by_cases hlt : j < bs.length
        · rw [List.getElem?_append_left hlt] at hj
          exact mv ((hbs j b u hj hu).same m14)
        · rw [List.getElem?_append_right (by omega)] at hj
          have hji : j = i := by
            have := (List.getElem?_eq_some_iff.mp hj).1
            simp at this
            omega
          subst hji
          rw [hb, Nat.sub_self] at hj
          rw [List.getElem?_eq_getElem hiw] at hu
          rw [← Option.some.inj hj, ← Option.some.inj hu]
          exact mv wp
    · rintro H1 ⟨m1, bs, eD, hb, hbs⟩
      refine ⟨D, _, rfl, .inl ⟨SqL.of eD, fun l hl => ?_⟩⟩
      have m2 := same_new (o := .tup (bs.map V.ref)) hl
      exact q _ l bs (m1.trans m2) upd_same (by rw [hb, List.length_map]; exact hW.len) fun j b u hj hu => (hbs j b u hj hu).same m2
end
end K16

namespace K16
open PySem PySem.Spec PyProof.Rows L2
theorem call_allB {K : PySem.W.Frag} {X : Cx} (hc : X.calm = true) (h : X.K = K) : CallR X (.builtin "all") (rAll K) := h ▸ cr_all hc
/-- the lower end first -/
theorem low_high {p q : Pt} (hp : inG p) (hq : inG q) (hne : p ≠ q) : WF (if aheadU q p then q else p, if aheadU p q then q else p) := by
  cases c : aheadU q p with
  | true =>
    have d := lex_asym c
    rw [d]
    exact ⟨hq, hp, c⟩
  | false =>
    have d := lex_total hne c
    rw [d]
    exact ⟨hp, hq, d⟩
section
variable {P : Program} {w : World} {K : PySem.W.Frag} {mg : Str → Option Value} {base : Heap}
theorem ok_shuts (T : Txt K mg) : FnOk P w K mg base CX0 4 T.fShuts T.dShuts ["_law_row", "_law_most", "_law_size"] spShuts := by
  have GT : FnOk P w K mg base CX0 1 T.fTake T.dTake ["_law_row", "_law_base"] spTk := ok_tk T
  have GF : FnOk P w K mg base CX0 3 T.fFair T.dFair ["_law_one", "_law_other"] spFair := ok_fair T
  refine T.tShuts.F.ok scShuts (fun vs H Q E h => ?_) (fun cdv A outer s H vs Q E hr h => ?_)
  · obtain ⟨r, a, n, rfl, _⟩ := h
    rfl
  · obtain ⟨r, a, n, rfl, hR, n0, n1, q⟩ := h
    have hr1 : Room 1 _ := hr.mono (by decide)
    have hu : (A.deeper (envOfC ("_law_shuts_here" : Str) (defScope sShuts) s.heap.objs.size T.fShuts cdv)).units + 10 < cLine := by have := hr.un; omega
    refine ⟨_, pss_cons (ps_set (i := 3) scShuts.nd rfl (.inl rfl) (pe_lst pa_nil))
      (pss_cons (ps_for PassesOwn.never rfl (pi_range1 (by rfl) T.m_range (pa_cons (pe_call GT hr1 (by rfl) T.tTake.m T.tTake.F.kp T.tTake.b .nil pass0 (pa_cons (pv 0) (pa_cons (pe_op op_add (pv 1) pe_int) pa_nil))) pa_nil)) (pg_name (i := 4) scShuts.nd rfl (.inl rfl))
        (pss_cons (ps_set (i := 5) scShuts.nd rfl (.inl rfl) (pe_tup (pa_cons (pe_call GT hr1 (by rfl) T.tTake.m T.tTake.F.kp T.tTake.b .nil pass0 (pa_cons (pv 0) (pa_cons (pv 2) pa_nil))) (pa_cons (pe_call GT hr1 (by rfl) T.tTake.m T.tTake.F.kp T.tTake.b .nil pass0 (pa_cons (pv 0) (pa_cons (pv 2) pa_nil))) pa_nil))))
        (pss_cons (ps_set (i := 6) scShuts.nd rfl (.inl rfl) (pe_tup (pa_cons (pe_call GT hr1 (by rfl) T.tTake.m T.tTake.F.kp T.tTake.b .nil pass0 (pa_cons (pv 0) (pa_cons (pv 2) pa_nil))) (pa_cons (pe_call GT hr1 (by rfl) T.tTake.m T.tTake.F.kp T.tTake.b .nil pass0 (pa_cons (pv 0) (pa_cons (pv 2) pa_nil))) pa_nil))))
        (Evl.pss_cut (ps_if (PW.pt (pw_and (pt_cmpR (op_neD hr.units) (pv 3) (pe_lst pa_nil) (nomark _)) (pw_and1 (pt_cmpR op_gt (pe_call GT hr1 (by rfl) T.tTake.m T.tTake.F.kp T.tTake.b .nil pass0 (pa_cons (pv 0) (pa_cons pe_int pa_nil))) pe_int (nomark _)))))
            (pss_one (ps_set (i := 5) scShuts.nd rfl (.inl rfl) (pe_ix ix_tup (pe_ix ix_list (pv 3) (pe_call GT hr1 (by rfl) T.tTake.m T.tTake.F.kp T.tTake.b .nil pass0 (pa_cons (pv 0) (pa_cons (pe_callB call_len_seq (by rfl) T.m_len PySem.boot_len (pa_cons (pv 3) pa_nil)) pa_nil))) (fun _ _ => rfl))
              (pe_call GT hr1 (by rfl) T.tTake.m T.tTake.F.kp T.tTake.b .nil pass0 (pa_cons (pv 0) (pa_cons pe_int pa_nil))) (fun _ _ => rfl)))) pss_nil)
        (pss_cons (ps_set (i := 7) scShuts.nd rfl (.inr rfl) (pe_tup (pa_cons (pe_callB (call_minP rfl hu) (by rfl) T.m_min (by decide +kernel) (pa_cons (pv 5) (pa_cons (pv 6) pa_nil))) (pa_cons (pe_callB (call_maxP rfl hu) (by rfl) T.m_max (by decide +kernel) (pa_cons (pv 5) (pa_cons (pv 6) pa_nil))) pa_nil))))
        (pss_one (ps_if (PW.pt (pw_and (pt_cmpR (op_neD hr.units) (pv 5) (pv 6) (nomark _)) (pw_and1 (pt_val (pe_callB (cr_all rfl) (by rfl) T.m_all (by decide +kernel) (pa_cons
            (pe_lc (own := [("_law_beside", 8)]) (g := gName 8) (tt := tYes) rfl scShuts.nd (pi_list (pv 3))
              (blkOk_by (own := [("_law_beside", 8)]) (N := ["_law_row", "_law_most", "_law_size", "_law_shuts", "_law_turn_here", "_law_one", "_law_other", "_law_shut", "_law_beside"]) (sc := defScope sShuts) (by decide +kernel))
              (fun _ _ _ _ _ => pg_name (i := 8) scShuts.nd rfl (Or.inl rfl)) (fun _ _ _ _ _ => pts_nil)
              (fun _ _ _ _ _ => pe_call GF hr (by rfl) T.tFair.m T.tFair.F.kp T.tFair.b .nil pass0 (pa_cons (pv 7) (pa_cons (pv 8) pa_nil)))) pa_nil))))))
          (pss_one (ps_expr (pe_bm PySem.F.plainAttrs_list PySem.F.slot_list_append PySem.F.type_list_append mt_append (pv 3) (pa_cons (pv 7) pa_nil)))) pss_nil)))))))
      (pss_one (ps_ret (pv 3)))), ?_⟩
    -- shuts = []
    refine ⟨Nat.zero_le _, fun L hL => ?_⟩
    have nrL : r ≠ L := ne_of_none hR hL
    have eL0 : (upd H L (.lst [])) L = some (.lst []) := upd_same
    have hR0 : (upd H L (.lst [])) r = some (.lst [.int a, .int n]) := by rw [upd_ne nrL]; exact hR
    have s0 : SameBut r H (upd H L (.lst [])) := Same.but (same_new hL)
    have mu : ∀ {H1 : Hp} {o : HO}, SameBut r H H1 → SameBut r H (upd H1 L o) := fun {H1 o} z b x nb e => by
      rw [upd_ne (ne_of_none e hL)]
      exact z b x nb e
    generalize upd H L (.lst []) = H0 at eL0 hR0 s0 ⊢
    -- how many are tried
    refine ⟨_, rfl, _, rfl, _, _, rfl, rfl, r, a, n, 10, rfl, hR0, n0, by omega, by decide, by decide, fun H1 a1 d1 s1 hR1 z1 l1 => ?_⟩
    refine ⟨d1, rfl, by omega, by omega, for_range (lo := 0) (n := d1.toNat) (fun i σ H2 => ∃ (y4 y5 y6 y7 : Option V) (as : List Addr) (ws : List Wl) (a' n' : Int), σ = [some (.ref r), some (.int 9), some (.int 5), some (.ref L), y4, y5, y6, y7, none] ∧
        SameBut r H H2 ∧ H2 r = some (.lst [.int a', .int n']) ∧ (0 ≤ n' ∧ n' ≤ n + 1 + 7 * i) ∧ H2 L = some (.lst (as.map V.ref)) ∧ Walls H2 as ws ∧ (∀ w ∈ ws, WF w) ∧ ws.Pairwise Fair ∧ ws.length ≤ i)
      ⟨none, none, none, none, [], [], a1, n + 1, rfl, s0.trans s1, hR1, by omega, s1 _ _ nrL.symm eL0, ⟨rfl, fun j b u h => by simp at h⟩, fun w h => by simp at h, .nil, Nat.le_refl _⟩ ?_ ?_⟩
    · rintro i σ H2 hi ⟨y4, y5, y6, y7, as, ws, a2, n2, rfl, s2, hR2, b2, eL2, hW2, hF, hPw, hlen⟩
      have hi9 : i < 10 := by omega
      -- one = (.., ..)
      refine ⟨_, rfl, _, rfl, r, a2, n2, 5, rfl, hR2, by omega, by omega, by decide, by decide, fun H3 a3 d3 s3 hR3 z3 l3 => ?_⟩
      refine ⟨_, rfl, _, rfl, r, a3, n2 + 1, 5, rfl, hR3, by omega, by omega, by decide, by decide, fun H4 a4 d4 s4 hR4 z4 l4 => ⟨(by show 2 ≤ sizeLine; decide), fun o1 ho1 => ?_⟩⟩
      have s34 := s3.trans s4
      have W4 := hW2.but s34 hR2
      have eL4 := s34 _ _ nrL.symm eL2
      have m5 := same_new (o := .tup [.int d3, .int d4]) ho1
      have e5 : (upd H4 o1 (.tup [.int d3, .int d4])) o1 = some (.tup [.int d3, .int d4]) := upd_same
      have hR5 := m5 _ _ hR4
      generalize upd H4 o1 (.tup [.int d3, .int d4]) = H5 at m5 e5 hR5 ⊢
      have W5 := W4.same m5
      have eL5 := m5 _ _ eL4
      have s5 : SameBut r H H5 := (s2.trans s34).trans (Same.but m5)
      have f5 : FrA H5 o1 (d3, d4) := e5
      -- other = (.., ..)
      refine ⟨_, rfl, _, rfl, r, a4, n2 + 1 + 1, 5, rfl, hR5, by omega, by omega, by decide, by decide, fun H6 a6 d6 s6 hR6 z6 l6 => ?_⟩
      refine ⟨_, rfl, _, rfl, r, a6, n2 + 1 + 1 + 1, 5, rfl, hR6, by omega, by omega, by decide, by decide, fun H7 a7 d7 s7 hR7 z7 l7 => ⟨(by show 2 ≤ sizeLine; decide), fun o2 ho2 => ?_⟩⟩
      have s67 := s6.trans s7
      have m8 := same_new (o := .tup [.int d6, .int d7]) ho2
      have e8 : (upd H7 o2 (.tup [.int d6, .int d7])) o2 = some (.tup [.int d6, .int d7]) := upd_same
      have hR8 := m8 _ _ hR7
      generalize upd H7 o2 (.tup [.int d6, .int d7]) = H8 at m8 e8 hR8 ⊢
      have W8 := (W5.but s67 hR5).same m8
      have eL8 := m8 _ _ (s67 _ _ nrL.symm eL5)
      have s8 : SameBut r H H8 := (s5.trans s67).trans (Same.but m8)
      have f8 : FrA H8 o1 (d3, d4) := (f5.but s67 hR5).same m8
      have g8 : FrA H8 o2 (d6, d7) := e8
      -- the test, and what stands behind it
      refine ⟨fun σ H9 => ∃ (p1 : Addr) (pt : Pt) (a9 n9 : Int), σ = [some (.ref r), some (.int 9), some (.int 5), some (.ref L), some (.int (0 + i)), some (.ref p1), some (.ref o2), y7, none] ∧ FrA H9 p1 pt ∧ inG pt ∧ FrA H9 o2 (d6, d7) ∧
        SameBut r H H9 ∧ H9 r = some (.lst [.int a9, .int n9]) ∧ (0 ≤ n9 ∧ n9 ≤ n2 + 7) ∧ H9 L = some (.lst (as.map V.ref)) ∧ Walls H9 as ws, ?_, ?_⟩
      · refine ⟨_, rfl, Nat.zero_le _, fun e he => ?_⟩
        have m9 := same_new (o := .lst []) he
        have e9 : (upd H8 e (.lst [])) e = some (.lst []) := upd_same
        generalize upd H8 e (.lst []) = H9 at m9 e9 ⊢
        have W9 := W8.same m9
        have eL9 := m9 _ _ eL8
        have hR9 := m9 _ _ hR8
        have s9 : SameBut r H H9 := s8.trans (Same.but m9)
        refine ⟨.list (ws.map spD), .list [], .lst (SqL.of eL9) W9.dps, .lst (SqL.of e9) .nil, wDs_shaped ws, rfl, _, rfl, ?_⟩
        rw [wDs_nil]
        by_cases c0 : ws = []
        · rw [decide_eq_true c0]
          refine iteF ?_
          exact ⟨o1, (d3, d4), a7, n2 + 1 + 1 + 1 + 1, rfl, f8.same m9, ⟨by show 0 ≤ d3; omega, by show d3 ≤ 4; omega, by show 0 ≤ d4; omega, by show d4 ≤ 4; omega⟩, g8.same m9, s9, hR9, by omega, eL9, W9⟩
        · rw [decide_eq_false c0]
          refine iteT ?_
          refine ⟨_, rfl, r, a7, n2 + 1 + 1 + 1 + 1, 3, rfl, hR9, by omega, by omega, by decide, by decide, fun H10 a10 d10 s10 hR10 z10 l10 => ?_⟩
          have W10 := W9.but s10 hR9
          have eL10 := s10 _ _ nrL.symm eL9
          refine ⟨_, _, rfl, rfl, _, rfl, ?_⟩
          by_cases c1 : 0 < d10
          · rw [decide_eq_true c1]
            refine iteT ?_
            have hws : 0 < ws.length := List.length_pos_iff.mpr c0
            have hlen2 := hW2.len
            refine ⟨_, rfl, _, rfl, _, rfl, L, _, rfl, .inl (SqL.of eL10), r, a10, n2 + 1 + 1 + 1 + 1 + 1, ((as.map V.ref).length : Int), rfl, hR10, by omega, by omega, by rw [List.length_map]; omega, by rw [List.length_map]; omega, fun H11 a11 d11 s11 hR11 z11 l11 => ?_⟩
            have W11 := W10.but s11 hR10
            have eL11 := s11 _ _ nrL.symm eL10
            rw [List.length_map] at l11
            obtain ⟨j, rfl⟩ := Int.eq_ofNat_of_zero_le z11
            have hj : j < ws.length := by omega
            obtain ⟨wa, hwa, hwl⟩ := W11.get hj
            refine ⟨L, as.map V.ref, _, .ref wa, rfl, rfl, SqL.of eL11, atI_nat (j := j) (by rw [List.getElem?_map, hwa]; rfl), ?_⟩
            refine ⟨_, rfl, r, a11, n2 + 1 + 1 + 1 + 1 + 1 + 1, 2, rfl, hR11, by omega, by omega, by decide, by decide, fun H12 a12 d12 s12 hR12 z12 l12 => ?_⟩
            have W12 := W11.but s12 hR11
            have eL12 := s12 _ _ nrL.symm eL11
            obtain ⟨w1, w2, ew, fw1, fw2⟩ := hwl.but s12 hR11
            have gw := hF ws[j] (List.getElem_mem hj)
            have fin : FrA H12 o2 (d6, d7) ∧ SameBut r H H12 := ⟨(((g8.same m9).but s10 hR9).but s11 hR10).but s12 hR11, ((s9.trans s10).trans s11).trans s12⟩
            rcases (by omega : d12 = 0 ∨ d12 = 1) with rfl | rfl
            · refine ⟨wa, _, 0, .ref w1, rfl, rfl, SqT.of ew, rfl, ?_⟩
              exact ⟨w1, _, a12, _, rfl, fw1, gw.1, fin.1, fin.2, hR12, by omega, eL12, W12⟩
            · refine ⟨wa, _, 1, .ref w2, rfl, rfl, SqT.of ew, rfl, ?_⟩
              exact ⟨w2, _, a12, _, rfl, fw2, gw.2.1, fin.1, fin.2, hR12, by omega, eL12, W12⟩
          · rw [decide_eq_false c1]
            refine iteF ?_
            exact ⟨o1, (d3, d4), a10, n2 + 1 + 1 + 1 + 1 + 1, rfl, (f8.same m9).but s10 hR9, ⟨by show 0 ≤ d3; omega, by show d3 ≤ 4; omega, by show 0 ≤ d4; omega, by show d4 ≤ 4; omega⟩, (g8.same m9).but s10 hR9, s9.trans s10, hR10, by omega, eL10, W10⟩
      · rintro σ H9 ⟨p1, pt, a9, n9, rfl, fp, gp, fo, s9, hR9, b9, eL9, W9⟩
        have go : inG (d6, d7) := ⟨by show 0 ≤ d6; omega, by show d6 ≤ 4; omega, by show 0 ≤ d7; omega, by show d7 ≤ 4; omega⟩
        -- shut = (min, max)
        refine ⟨_, rfl, _, rfl, p1, o2, pt, (d6, d7), rfl, fp, fo, _, rfl, _, rfl, p1, o2, pt, (d6, d7), rfl, fp, fo, (by show 2 ≤ sizeLine; decide), fun sh hsh => ?_⟩
        generalize hlo : (if aheadU (d6, d7) pt = true then o2 else p1) = lo
        generalize hhi : (if aheadU pt (d6, d7) = true then o2 else p1) = hi'
        have flo : FrA H9 lo (if aheadU (d6, d7) pt = true then (d6, d7) else pt) := by
          rw [← hlo]
          split
          · exact fo
          · exact fp
        have fhi : FrA H9 hi' (if aheadU pt (d6, d7) = true then (d6, d7) else pt) := by
          rw [← hhi]
          split
          · exact fo
          · exact fp
        have m10 := same_new (o := .tup [.ref lo, .ref hi']) hsh
        have e10 : (upd H9 sh (.tup [.ref lo, .ref hi'])) sh = some (.tup [.ref lo, .ref hi']) := upd_same
        generalize upd H9 sh (.tup [.ref lo, .ref hi']) = H10 at m10 e10 ⊢
        have W10 := W9.same m10
        have eL10 := m10 _ _ eL9
        have hR10 := m10 _ _ hR9
        have s10 : SameBut r H H10 := s9.trans (Same.but m10)
        have wsh : WlA H10 sh (if aheadU (d6, d7) pt = true then (d6, d7) else pt, if aheadU pt (d6, d7) = true then (d6, d7) else pt) := ⟨lo, hi', e10, flo.same m10, fhi.same m10⟩
        have stay : ∀ H11, Same H10 H11 → ∃ (y4' y5' y6' y7' : Option V) (as : List Addr) (ws : List Wl) (a' n' : Int),
            [some (V.ref r), some (V.int 9), some (V.int 5), some (V.ref L), some (V.int (0 + i)), some (V.ref p1), some (V.ref o2), some (V.ref sh), none] = [some (V.ref r), some (V.int 9), some (V.int 5), some (V.ref L), y4', y5', y6', y7', none] ∧
            SameBut r H H11 ∧ H11 r = some (.lst [.int a', .int n']) ∧ (0 ≤ n' ∧ n' ≤ n + 1 + 7 * ((i + 1 : Nat) : Int)) ∧ H11 L = some (.lst (as.map V.ref)) ∧ Walls H11 as ws ∧ (∀ w ∈ ws, WF w) ∧ ws.Pairwise Fair ∧ ws.length ≤ i + 1 :=
          fun H11 m11 => ⟨_, _, _, _, as, ws, a9, n9, rfl, s10.trans (Same.but m11), m11 _ _ hR10, by omega, m11 _ _ eL10, W10.same m11, hF, hPw, by omega⟩
        refine ⟨_, rfl, _, rfl, frD pt, frD (d6, d7), (fp.same m10).dp, (fo.same m10).dp, frD_shaped _, frD_shaped _, _, rfl, ?_⟩
        rw [frD_eqv]
        by_cases c0 : pt = (d6, d7)
        · rw [decide_eq_true c0]
          exact iteF (stay H10 (Same.refl _))
        rw [decide_eq_false c0]
        refine iteT ?_
        have wf := low_high gp go c0
        generalize hww : ((if aheadU (d6, d7) pt = true then (d6, d7) else pt, if aheadU pt (d6, d7) = true then (d6, d7) else pt) : Wl) = ww at wsh wf
        refine ⟨_, rfl, L, rfl, ⟨_, SqL.of eL10⟩, fun D hD => ?_⟩
        refine lc_list (K := K) (a := L) (xs := as.map V.ref) (fun j H11 => Same H10 H11 ∧ H11 D = some (.lst (((ws.take j).map (fairU ww)).map V.bl)))
          ⟨same_new hD, upd_same⟩ (fun j H11 _ h => SqL.of (h.1 _ _ eL10)) ?_ ?_
        · rintro j x H11 hx ⟨m11, eD⟩
          have hj : j < as.length := by
            have := (List.getElem?_eq_some_iff.mp hx).1
            simpa using this
          have hjw : j < ws.length := by have := W10.len; omega
          obtain ⟨ab, hab, wab⟩ := W10.get hjw
          have ex : x = .ref ab := by
            rw [List.getElem?_map, hab] at hx
            exact (Option.some.inj hx).symm
          subst ex
          have gb := hF ws[j] (List.getElem_mem hjw)
          refine ⟨rfl, tyes ?_⟩
          refine ⟨_, rfl, _, rfl, sh, ab, ww, ws[j], rfl, wsh.same m11, wab.same m11, ⟨wf.1, wf.2.1⟩, ⟨gb.1, gb.2.1⟩, fun H12 m12 => ?_⟩
          refine ⟨_, m12 _ _ eD, ?_, same_mut (m11.trans m12) hD, ?_⟩
          · rw [List.length_map, List.length_map, List.length_take]
            exact Nat.lt_of_le_of_lt (Nat.min_le_right _ _) (small1000 (by omega))
          · rw [upd_same, List.take_add_one, List.getElem?_eq_getElem hjw, List.map_append, List.map_append]
            rfl
        · rintro H11 ⟨m11, eD⟩
          have et : ws.take (as.map V.ref).length = ws := List.take_of_length_le (by rw [List.length_map]; have := W10.len; omega)
          rw [et] at eD
          refine ⟨D, ws.map (fairU ww), rfl, SqL.of eD, _, rfl, ?_⟩
          cases c1 : (ws.map (fairU ww)).all id with
          | false => exact iteF (stay H11 m11)
          | true =>
            refine iteT ?_
            have eL11 := m11 _ _ eL10
            have hlen2 := W10.len
            refine ⟨_, rfl, .inl ⟨rfl, _, SqL.of eL11⟩, _, rfl, L, _, _, rfl, rfl, eL11, by rw [List.length_map]; exact small1000 (by omega), ?_⟩
            have hR11 := m11 _ _ hR10
            have bL : SameBut L H11 (upd H11 L (.lst (as.map V.ref ++ [.ref sh]))) := but_upd
            refine ⟨_, _, _, _, as ++ [sh], ws ++ [ww], a9, n9, rfl, mu (s10.trans (Same.but m11)), by rw [upd_ne nrL]; exact hR11, by omega, ?_, ?_, ?_, ?_, by simp; omega⟩
            · rw [upd_same, List.map_append]
              rfl
            · exact ((W10.same m11).but bL eL11).snoc ((wsh.same m11).but bL eL11)
            · intro u hu
              rcases List.mem_append.mp hu with hu | hu
              · exact hF u hu
              · rw [List.mem_singleton.mp hu]; exact wf
            · refine List.pairwise_append.mpr ⟨hPw, List.pairwise_singleton _ _, fun u hu z hz => ?_⟩
              rw [List.mem_singleton.mp hz]
              have all := List.all_eq_true.mp c1 (fairU ww u) (List.mem_map.mpr ⟨u, hu, rfl⟩)
              exact (fair_of all).symm
    · rintro σ H2 ⟨y4, y5, y6, y7, as, ws, a2, n2, rfl, s2, hR2, b2, eL2, hW2, hF, hPw, hlen⟩
      exact ⟨_, rfl, q H2 L as ws s2 eL2 hW2 ⟨hF, hPw, by omega⟩⟩
end
end K16

namespace K16
open PySem PySem.Spec PyProof.Rows L2
theorem piT {K : PySem.W.Frag} {X : Cx} {tg l : Expr} {tl : TE} (h : X.K = K) (hl : PE X l tl) : PI X tg l (iTup K tl) := h ▸ pi_tup hl
theorem piL {K : PySem.W.Frag} {X : Cx} {tg l : Expr} {tl : TE} (h : X.K = K) (hl : PE X l tl) : PI X tg l (iList K tl) := h ▸ pi_list hl
theorem neD {K : PySem.W.Frag} {X : Cx} (h : X.K = K) (hu : X.A.units + 64 < cLine) : OpR X (compareOp .NotEq) (rNeD K) := h ▸ op_neD hu
theorem eqD {K : PySem.W.Frag} {X : Cx} (h : X.K = K) (hu : X.A.units + 64 < cLine) : OpR X (compareOp .Eq) (rEqD K) := h ▸ op_eqD hu
theorem outD {K : PySem.W.Frag} {X : Cx} (h : X.K = K) (hu : X.A.units + 65 < cLine) : OpR X (compareOp .NotIn) (rNotInD K) := h ▸ op_notInD hu
/-- the plot as it stands in the heap -/
structure PlotA (H : Hp) (bs : List Addr) (ws : List Wl) (c : Sc) : Prop where
  len : bs.length = ws.length
  at_ : ∀ (j : Nat) (b : Addr) (w : Wl), bs[j]? = some b → ws[j]? = some w → WfA H b (c.wall w)
theorem PlotA.same {H H' : Hp} {bs : List Addr} {ws : List Wl} {c : Sc} (h : PlotA H bs ws c) (s : Same H H') : PlotA H' bs ws c := ⟨h.len, fun j b w h1 h2 => (h.at_ j b w h1 h2).same s⟩
theorem PlotA.get {H : Hp} {bs : List Addr} {ws : List Wl} {c : Sc} (h : PlotA H bs ws c) {j : Nat} (hj : j < ws.length) : ∃ b, bs[j]? = some b ∧ WfA H b (c.wall ws[j]) := by
  have hl := h.len
  have h1 : bs[j]? = some bs[j] := List.getElem?_eq_getElem (by omega)
  exact ⟨_, h1, h.at_ j _ _ h1 (List.getElem?_eq_getElem hj)⟩
theorem wall_WB {c : Sc} {w : Wl} (hc : ScB c) (h : WF w) : WB 70 (c.wall w) := ⟨spot_SB hc h.1, spot_SB hc h.2.1⟩
/-- the table tells what lies above what -/
def TabOk (kvs : List (List Key × V)) (ws : List Wl) : Prop := ∀ (i j : Nat) (hi : i < ws.length) (hj : j < ws.length), (valV kvs [Sum.inl (i : Int), Sum.inl (j : Int)]).isSome = abv ws[i] ws[j]
theorem plot_two {ws : List Wl} (h : Plot ws) {i j : Nat} (hi : i < ws.length) (hj : j < ws.length) : Two ws[i] ws[j] := by
  refine ⟨h.wf _ (List.getElem_mem hi), h.wf _ (List.getElem_mem hj), ?_⟩
  have p := List.pairwise_iff_getElem.mp h.fair
  rcases Nat.lt_trichotomy i j with l | e | l
  · exact .inr (p i j hi hj l)
  · subst e; exact .inl rfl
  · exact .inr (p j i hj hi l).symm
/-- no spot is spanned by three that part the rule -/
theorem three {ws : List Wl} (h : Plot ws) {i j k : Nat} (hi : i < ws.length) (hj : j < ws.length) (hk : k < ws.length) (h1 : abv ws[i] ws[j] = true) (h2 : abv ws[j] ws[k] = true) (h3 : abv ws[i] ws[k] = false)
    {e : Pt} (he : inG e) : ([spn ws[i] e, spn ws[j] e, spn ws[k] e] : List Bool).all id = false := by
  cases c : ([spn ws[i] e, spn ws[j] e, spn ws[k] e] : List Bool).all id with
  | false => rfl
  | true =>
    simp only [List.all_cons, List.all_nil, id, Bool.and_true, Bool.and_eq_true] at c
    have t := abv_trans (plot_two h hi hj) (plot_two h hj hk) (plot_two h hi hk) h1 h2 he c.1 c.2.1 c.2.2
    rw [h3] at t
    cases t
def spRow3 : Sp := fun vs H Q _ => ∃ (p t : Addr) (bs : List Addr) (ws : List Wl) (c : Sc) (kvs : List (List Key × V)), vs = [.ref p, .ref t] ∧ H p = some (.tup (bs.map V.ref)) ∧ PlotA H bs ws c ∧ ScB c ∧ Plot ws ∧ H t = some (.dT kvs) ∧ TabOk kvs ws ∧
  ∀ H', Same H H' → Q (.bl true) H'
/-! the scopes of comprehensions, read off the text by places -/
def inS (s : Stmt) (j : Nat) : Stmt := match s with
  | .For _ _ b _ _ => b.getD j s
  | .While _ b _ _ => b.getD j s
  | .If _ b _ _ => b.getD j s
  | .FunctionDef _ _ b _ _ _ _ _ _ _ => b.getD j s
  | _ => s
def exS (s : Stmt) : Expr := match s with
  | .If t _ _ _ => t
  | .Assign _ v _ => v
  | _ => .Name "" ⟨0, 0, 0, 0⟩
def lcS : Expr → Scope
  | .ListComp _ _ sc _ => sc
  | .Compare l _ _ _ => lcS l
  | _ => defScope (.Pass ⟨0, 0, 0, 0⟩)
abbrev scEnds : Scope := lcS (exS (inS (inS (inS (inS (inS sRow3 0) 0) 0) 1) 1))
section
variable {P : Program} {w : World} {K : PySem.W.Frag} {mg : Str → Option Value} {base : Heap}
theorem ok_row3 (T : Txt K mg) : FnOk P w K mg base CX0 4 T.fRow3 T.dRow3 ["_law_plot", "_law_table"] spRow3 := by
  have GS : FnOk P w K mg base CX0 3 T.fSpans T.dSpans ["wall", "spot"] spSpans := ok_spans T
  refine T.tRow3.F.ok scRow3 (fun vs H Q E h => ?_) (fun cdv A outer s H vs Q E hr h => ?_)
  · obtain ⟨p, t, bs, ws, c, kvs, rfl, _⟩ := h
    rfl
  · obtain ⟨p, t, bs, ws, c, kvs, rfl, hp, hA, hc, hP, ht, hT, q⟩ := h
    have hu := hu_of hr
    refine ⟨_, pss_cons (ps_for PassesOwn.never rfl (pi_range1 (by rfl) T.m_range (pa_cons (pe_callB call_len_seq (by rfl) T.m_len PySem.boot_len (pa_cons (pv 0) pa_nil)) pa_nil)) (pg_name (i := 2) scRow3.nd rfl (.inr rfl))
      (pss_one (ps_for PassesOwn.never rfl (pi_range1 (by rfl) T.m_range (pa_cons (pe_callB call_len_seq (by rfl) T.m_len PySem.boot_len (pa_cons (pv 0) pa_nil)) pa_nil)) (pg_name (i := 3) scRow3.nd rfl (.inr rfl))
      (pss_one (ps_for PassesOwn.never rfl (pi_range1 (by rfl) T.m_range (pa_cons (pe_callB call_len_seq (by rfl) T.m_len PySem.boot_len (pa_cons (pv 0) pa_nil)) pa_nil)) (pg_name (i := 4) scRow3.nd rfl (.inr rfl))
        (pss_cons (ps_set (i := 5) scRow3.nd rfl (.inl rfl) (pe_and (pe_cmp (pc_din hu (pe_tup (pa_cons (pv 2) (pa_cons (pv 3) pa_nil))) (pv 1)) rfl) (pe_one (pe_cmp (pc_din hu (pe_tup (pa_cons (pv 3) (pa_cons (pv 4) pa_nil))) (pv 1)) rfl))))
        (pss_one (ps_if (PW.pt (pw_and (pt_val (pv 5)) (pw_and1 (pt_cmp (pc_dnotin hu (pe_tup (pa_cons (pv 2) (pa_cons (pv 4) pa_nil))) (pv 1)) rfl))))
          (pss_cons (ps_setLc (i := 6) (own := [("_law_shut", 7)]) (g := gName 7) (tt := tYes) rfl scRow3.nd rfl rfl (sw_true rfl rfl rfl (by decide +kernel))
              (pi_tup (pe_tup (pa_cons (pe_ix ix_tup (pv 0) (pv 2) (fun _ _ => rfl)) (pa_cons (pe_ix ix_tup (pv 0) (pv 3) (fun _ _ => rfl)) (pa_cons (pe_ix ix_tup (pv 0) (pv 4) (fun _ _ => rfl)) pa_nil)))))
              (blkOk_by (own := [("_law_shut", 7)]) (N := ["_law_plot", "_law_table", "_law_one", "_law_two", "_law_three", "_law_both", "_law_ends", "_law_shut", "_law_end", "_law_w"]) (sc := defScope sRow3) (by decide +kernel))
              (fun _ _ _ _ _ => pg_name (i := 7) scRow3.nd rfl (Or.inl rfl)) (fun _ _ _ _ _ => pts_nil)
              (fun _ _ _ _ _ => pe_ix (ixT (K := K) rfl) (pv 7) pe_int (fun _ _ => rfl)))
          (pss_one (ps_if (pt_cmpR (op_neD hr.units)
              (pe_lc (own := [("_law_end", 8)]) (g := gName 8) rfl scRow3.nd (pi_list (pv 6))
                (blkOk_by (own := [("_law_end", 8)]) (N := ["_law_plot", "_law_table", "_law_one", "_law_two", "_law_three", "_law_both", "_law_ends", "_law_shut", "_law_end", "_law_w"]) (sc := defScope sRow3) (by decide +kernel))
                (fun _ _ _ _ _ => pg_name (i := 8) scRow3.nd rfl (Or.inr rfl))
                (fun _ _ _ _ _ => pts_one (pt_val (pe_callB (call_allB (K := K) rfl rfl) (by rfl) T.m_all (by decide +kernel) (pa_cons
                  (pe_lc (own := [("_law_w", 9)]) (g := gName 9) (tt := tYes) rfl scRow3.nd (piT (K := K) rfl (pe_tup (pa_cons (pv 2) (pa_cons (pv 3) (pa_cons (pv 4) pa_nil)))))
                    (blkOk_by (own := [("_law_w", 9)]) (N := ["_law_plot", "_law_table", "_law_one", "_law_two", "_law_three", "_law_both", "_law_ends", "_law_shut", "_law_end", "_law_w"]) (sc := relS scEnds (defScope sRow3)) (by decide +kernel))
                    (fun _ _ _ _ _ => pg_name (i := 9) scRow3.nd rfl (Or.inl rfl)) (fun _ _ _ _ _ => pts_nil)
                    (fun _ _ _ _ _ => pe_call GS hr (by rfl) T.tSpans.m T.tSpans.F.kp T.tSpans.b .nil pass0 (pa_cons (pe_ix (ixT (K := K) rfl) (pv 0) (pv 9) (fun _ _ => rfl)) (pa_cons (pv 8) pa_nil)))) pa_nil))))
                (fun _ _ _ _ _ => pv 8))
              (pe_lst pa_nil) (nomark _))
            (pss_one (ps_ret pe_bl)) pss_nil))) pss_nil))))))))
      (pss_one (ps_ret pe_bl)), ?_⟩
    have hbl : (((bs.map V.ref).length : Int)).toNat = ws.length := by rw [List.length_map, hA.len]; omega
    have h9 := hP.most
    have hb1 : -(2 ^ 62) ≤ ((bs.map V.ref).length : Int) := by omega
    have hb2 : ((bs.map V.ref).length : Int) < 2 ^ 62 := by rw [List.length_map, hA.len]; omega
    -- for one
    refine ⟨_, rfl, p, _, rfl, .inr (SqT.of hp), _, rfl, hb1, hb2, ?_⟩
    rw [hbl]
    refine for_range (lo := 0) (n := ws.length) (fun _ σ H1 => ∃ (y2 y3 y4 y5 y6 : Option V), σ = [some (.ref p), some (.ref t), y2, y3, y4, y5, y6, none, none, none] ∧ Same H H1)
      ⟨none, none, none, none, none, rfl, Same.refl H⟩ ?_ (fun σ H1 ⟨_, _, _, _, _, _, m⟩ => q H1 m)
    rintro i σ H1 hi ⟨y2, y3, y4, y5, y6, rfl, m1⟩
    rw [Int.zero_add]
    -- for two
    refine ⟨_, rfl, p, _, rfl, .inr (SqT.of (m1 _ _ hp)), _, rfl, hb1, hb2, ?_⟩
    rw [hbl]
    refine for_range (lo := 0) (n := ws.length) (fun _ σ H2 => ∃ (y3 y4 y5 y6 : Option V), σ = [some (.ref p), some (.ref t), some (.int i), y3, y4, y5, y6, none, none, none] ∧ Same H H2)
      ⟨y3, y4, y5, y6, rfl, m1⟩ ?_ (fun σ H2 ⟨z3, z4, z5, z6, e, m⟩ => ⟨_, z3, z4, z5, z6, e, m⟩)
    rintro j σ H2 hj ⟨y3, y4, y5, y6, rfl, m2⟩
    rw [Int.zero_add]
    -- for three
    refine ⟨_, rfl, p, _, rfl, .inr (SqT.of (m2 _ _ hp)), _, rfl, hb1, hb2, ?_⟩
    rw [hbl]
    refine for_range (lo := 0) (n := ws.length) (fun _ σ H3 => ∃ (y4 y5 y6 : Option V), σ = [some (.ref p), some (.ref t), some (.int i), some (.int j), y4, y5, y6, none, none, none] ∧ Same H H3)
      ⟨y4, y5, y6, rfl, m2⟩ ?_ (fun σ H3 ⟨z4, z5, z6, e, m⟩ => ⟨_, z4, z5, z6, e, m⟩)
    rintro k σ H3 hk ⟨y4, y5, y6, rfl, m3⟩
    rw [Int.zero_add]
    -- both
    refine ⟨_, rfl, _, rfl, (by show 2 ≤ sizeLine; decide), fun k1 hk1 => ?_⟩
    have m4 := m3.trans (same_new (o := .tup [.int i, .int j]) hk1)
    have e4 : (upd H3 k1 (.tup [.int i, .int j])) k1 = some (.tup [.int i, .int j]) := upd_same
    generalize upd H3 k1 (.tup [.int i, .int j]) = H4 at m4 e4 ⊢
    refine ⟨_, rfl, t, _, rfl, DGet.t (k := [.inl (i : Int), .inl (j : Int)]) (m4 _ _ ht) e4, _, rfl, ?_⟩
    rw [hT i j hi hj]
    -- what stands behind the test
    have next : ∀ (y5 y6 : Option V) (H5 : Hp), Same H H5 → ∃ (y4' y5' y6' : Option V), [some (V.ref p), some (V.ref t), some (V.int i), some (V.int j), some (V.int k), y5, y6, none, none, none] = [some (V.ref p), some (V.ref t), some (V.int i), some (V.int j), y4', y5', y6', none, none, none] ∧ Same H H5 :=
      fun y5 y6 H5 m => ⟨_, _, _, rfl, m⟩
    cases c1 : abv ws[i] ws[j] with
    | false =>
      refine iteF ?_
      exact ⟨_, rfl, _, rfl, iteF (next _ _ _ m4)⟩
    | true =>
    refine iteT ?_
    refine ⟨_, rfl, _, rfl, (by show 2 ≤ sizeLine; decide), fun k2 hk2 => ?_⟩
    have m5 := m4.trans (same_new (o := .tup [.int j, .int k]) hk2)
    have e5 : (upd H4 k2 (.tup [.int j, .int k])) k2 = some (.tup [.int j, .int k]) := upd_same
    generalize upd H4 k2 (.tup [.int j, .int k]) = H5 at m5 e5 ⊢
    refine ⟨_, rfl, t, _, rfl, DGet.t (k := [.inl (j : Int), .inl (k : Int)]) (m5 _ _ ht) e5, ?_⟩
    rw [hT j k hj hk]
    refine ⟨_, rfl, _, rfl, ?_⟩
    cases c2 : abv ws[j] ws[k] with
    | false =>
      refine iteF ?_
      exact next _ _ _ m5
    | true =>
    refine iteT ?_
    refine ⟨_, rfl, _, rfl, (by show 2 ≤ sizeLine; decide), fun k3 hk3 => ?_⟩
    have m6 := m5.trans (same_new (o := .tup [.int i, .int k]) hk3)
    have e6 : (upd H5 k3 (.tup [.int i, .int k])) k3 = some (.tup [.int i, .int k]) := upd_same
    generalize upd H5 k3 (.tup [.int i, .int k]) = H6 at m6 e6 ⊢
    refine ⟨_, rfl, t, _, rfl, DGet.t (k := [.inl (i : Int), .inl (k : Int)]) (m6 _ _ ht) e6, _, rfl, ?_⟩
    rw [hT i k hi hk]
    cases c3 : abv ws[i] ws[k] with
    | true =>
      refine iteF ?_
      exact next _ _ _ m6
    | false =>
    refine iteT ?_
    -- ends
    have A6 := hA.same m6
    have hp6 := m6 _ _ hp
    obtain ⟨bi, hbi, wi⟩ := A6.get hi
    obtain ⟨bj, hbj, wj⟩ := A6.get hj
    obtain ⟨bk, hbk, wk⟩ := A6.get hk
    have mi : (bs.map V.ref)[i]? = some (.ref bi) := by rw [List.getElem?_map, hbi]; rfl
    have mj : (bs.map V.ref)[j]? = some (.ref bj) := by rw [List.getElem?_map, hbj]; rfl
    have mk : (bs.map V.ref)[k]? = some (.ref bk) := by rw [List.getElem?_map, hbk]; rfl
    refine ⟨_, rfl, _, rfl, p, _, i, .ref bi, rfl, rfl, SqT.of hp6, atI_nat (j := i) mi, _, rfl, _, rfl, p, _, j, .ref bj, rfl, rfl, SqT.of hp6, atI_nat (j := j) mj, _, rfl, _, rfl, p, _, k, .ref bk, rfl, rfl, SqT.of hp6, atI_nat (j := k) mk, (by show 3 ≤ sizeLine; decide), fun tt htt => ?_⟩
    have m67 := same_new (o := .tup [.ref bi, .ref bj, .ref bk]) htt
    have m7 := m6.trans m67
    have e7 : (upd H6 tt (.tup [.ref bi, .ref bj, .ref bk])) tt = some (.tup [.ref bi, .ref bj, .ref bk]) := upd_same
    generalize upd H6 tt (.tup [.ref bi, .ref bj, .ref bk]) = H7 at m67 m7 e7 ⊢
    obtain ⟨i1, i2, ei, fi1, fi2⟩ := wi.same m67
    obtain ⟨j1, j2, ej, fj1, fj2⟩ := wj.same m67
    obtain ⟨l1, l2, ek, fk1, fk2⟩ := wk.same m67
    refine ⟨tt, rfl, ⟨_, SqT.of e7⟩, fun D hD => ?_⟩
    refine lc_tup (K := K) (a := tt) (xs := [.ref bi, .ref bj, .ref bk]) (fun n H8 => Same H7 H8 ∧ H8 D = some (.lst (([i1, j1, l1].take n).map V.ref)))
      ⟨same_new hD, upd_same⟩ (fun n H8 _ h => SqT.of (h.1 _ _ e7)) ?_ ?_
    · rintro n x H8 hx ⟨m8, eD⟩
      obtain ⟨b, b1, b2, rfl, eb, hn⟩ : ∃ (b b1 b2 : Addr), x = .ref b ∧ H8 b = some (.tup [.ref b1, .ref b2]) ∧ ([i1, j1, l1].take n).map V.ref ++ [.ref b1] = ([i1, j1, l1].take (n + 1)).map V.ref := by
        match n, hx with
        | 0, hx => exact ⟨bi, i1, i2, (Option.some.inj hx).symm, m8 _ _ ei, rfl⟩
        | 1, hx => exact ⟨bj, j1, j2, (Option.some.inj hx).symm, m8 _ _ ej, rfl⟩
        | 2, hx => exact ⟨bk, l1, l2, (Option.some.inj hx).symm, m8 _ _ ek, rfl⟩
        | n + 3, hx => simp at hx
      refine ⟨rfl, tyes ?_⟩
      refine ⟨_, rfl, b, _, 0, .ref b1, rfl, rfl, SqT.of eb, rfl, _, eD, ?_, same_mut m8 hD, ?_⟩
      · rw [List.length_map, List.length_take]
        exact Nat.lt_of_le_of_lt (Nat.min_le_right _ _) (by show 3 < sizeLine; decide)
      · exact upd_same.trans (congrArg (fun l => some (HO.lst l)) hn)
    · rintro H8 ⟨m8, eD⟩
      have eD : H8 D = some (.lst [.ref i1, .ref j1, .ref l1]) := eD
      have s8 := m7.trans m8
      -- no end is spanned by all three
      refine ⟨_, rfl, D, rfl, ⟨_, SqL.of eD⟩, fun D2 hD2 => ?_⟩
      refine lc_list (K := K) (a := D) (xs := [.ref i1, .ref j1, .ref l1]) (fun n H9 => Same H8 H9 ∧ H9 D2 = some (.lst []))
        ⟨same_new hD2, upd_same⟩ (fun n H9 _ h => SqL.of (h.1 _ _ eD)) ?_ ?_
      · rintro n x H9 hx ⟨m9, eD2⟩
        have s9 := s8.trans m9
        obtain ⟨b, e, rfl, fb, ge⟩ : ∃ (b : Addr) (e : Pt), x = .ref b ∧ SpA H9 b (c.spot e) ∧ inG e := by
          match n, hx with
          | 0, hx => exact ⟨i1, ws[i].1, (Option.some.inj hx).symm, (fi1.same m8).same m9, (hP.wf _ (List.getElem_mem hi)).1⟩
          | 1, hx => exact ⟨j1, ws[j].1, (Option.some.inj hx).symm, (fj1.same m8).same m9, (hP.wf _ (List.getElem_mem hj)).1⟩
          | 2, hx => exact ⟨l1, ws[k].1, (Option.some.inj hx).symm, (fk1.same m8).same m9, (hP.wf _ (List.getElem_mem hk)).1⟩
          | n + 3, hx => simp at hx
        refine ⟨rfl, ?_⟩
        -- all([spans(plot[w], end) for w in (one, two, three)])
        refine ⟨_, rfl, _, rfl, _, rfl, (by show 3 ≤ sizeLine; decide), fun t2 ht2 => ?_⟩
        have m10 := same_new (o := .tup [.int i, .int j, .int k]) ht2
        have e10 : (upd H9 t2 (.tup [.int i, .int j, .int k])) t2 = some (.tup [.int i, .int j, .int k]) := upd_same
        have n10 : ∀ {o : HO}, Same H8 (upd H9 t2 o) := fun {o} => m9.trans (same_new ht2)
        generalize upd H9 t2 (.tup [.int i, .int j, .int k]) = H10 at m10 e10 ⊢
        have s10 := s9.trans m10
        refine ⟨t2, rfl, ⟨_, SqT.of e10⟩, fun D3 hD3 => ?_⟩
        refine lc_tup (K := K) (a := t2) (xs := [.int i, .int j, .int k]) (fun n H11 => Same H10 H11 ∧ H11 D3 = some (.lst (([spn ws[i] e, spn ws[j] e, spn ws[k] e].take n).map V.bl)))
          ⟨same_new hD3, upd_same⟩ (fun n H11 _ h => SqT.of (h.1 _ _ e10)) ?_ ?_
        · rintro n2 x2 H11 hx2 ⟨m11, eD3⟩
          have s11 := s10.trans m11
          obtain ⟨z, hz, rfl, hn⟩ : ∃ (z : Nat) (hz : z < ws.length), x2 = .int z ∧ ([spn ws[i] e, spn ws[j] e, spn ws[k] e].take n2).map V.bl ++ [V.bl (spn (ws[z]'hz) e)] = ([spn ws[i] e, spn ws[j] e, spn ws[k] e].take (n2 + 1)).map V.bl := by
            match n2, hx2 with
            | 0, hx2 => exact ⟨i, hi, (Option.some.inj hx2).symm, rfl⟩
            | 1, hx2 => exact ⟨j, hj, (Option.some.inj hx2).symm, rfl⟩
            | 2, hx2 => exact ⟨k, hk, (Option.some.inj hx2).symm, rfl⟩
            | n2 + 3, hx2 => simp at hx2
          obtain ⟨bz, hbz, wz⟩ := (hA.same s11).get hz
          have mz : (bs.map V.ref)[z]? = some (.ref bz) := by rw [List.getElem?_map, hbz]; rfl
          have wf := hP.wf _ (List.getElem_mem hz)
          refine ⟨rfl, tyes ?_⟩
          refine ⟨_, rfl, _, rfl, p, _, z, .ref bz, rfl, rfl, SqT.of (s11 _ _ hp), atI_nat (j := z) mz, _, rfl, bz, b, c.wall ws[z], c.spot e, 70, rfl, wz, (fb.same m10).same m11, wall_WB hc wf, spot_SB hc ge, by decide, ?_⟩
          rw [spans_eq hc.ok]
          refine ⟨_, eD3, ?_, same_mut m11 hD3, ?_⟩
          · rw [List.length_map, List.length_take]
            exact Nat.lt_of_le_of_lt (Nat.min_le_right _ _) (by show 3 < sizeLine; decide)
          · exact upd_same.trans (congrArg (fun l => some (HO.lst l)) hn)
        · rintro H11 ⟨m11, eD3⟩
          have eD3 : H11 D3 = some (.lst ([spn ws[i] e, spn ws[j] e, spn ws[k] e].map V.bl)) := eD3
          refine ⟨D3, _, rfl, SqL.of eD3, _, rfl, ?_⟩
          rw [three hP hi hj hk c1 c2 c3 ge]
          refine iteF ?_
          exact ⟨(m9.trans m10).trans m11, m11 _ _ (m10 _ _ eD2)⟩
      · rintro H9 ⟨m9, eD2⟩
        refine ⟨Nat.zero_le _, fun e he => ?_⟩
        have m10 := same_new (o := .lst []) he
        have e10 : (upd H9 e (.lst [])) e = some (.lst []) := upd_same
        refine ⟨.list [], .list [], .lst (SqL.of (m10 _ _ eD2)) .nil, .lst (SqL.of e10) .nil, rfl, rfl, _, rfl, ?_⟩
        refine iteF ?_
        exact next _ _ _ ((s8.trans m9).trans m10)
end
end K16

namespace K16
open PySem PySem.Spec PyProof.Rows L2
theorem outSeq {K : PySem.W.Frag} {X : Cx} (h : X.K = K) : OpR X (compareOp .NotIn) (rIn K true) := h ▸ op_notIn_seq
/-! numbers in lists -/
def nV (n : Nat) : V := V.int (n : Int)
def nD (n : Nat) : PyData := .int (n : Int)
theorem nDp {K : PySem.W.Frag} {H : Hp} : ∀ xs : List Nat, DpAll K H (xs.map nV) (xs.map nD)
  | [] => .nil
  | x :: xs => .cons (.int _) (nDp xs)
theorem nDs_lay : ∀ xs : List Nat, PyData.canLayAll0 (xs.map nD) = true
  | [] => rfl
  | x :: xs => by
    show (PyData.canLay0 (nD x) && PyData.canLayAll0 (xs.map nD)) = true
    rw [nDs_lay xs]
    rfl
theorem nDs_depth : ∀ xs : List Nat, PyData.depthAll (xs.map nD) ≤ 1
  | [] => by simp [PyData.depthAll]
  | x :: xs => by
    have h1 := nDs_depth xs
    have h2 : PyData.depth (nD x) ≤ 1 := by simp [nD, PyData.depth]
    simp only [List.map_cons, PyData.depthAll]
    omega
theorem nDs_shaped (xs : List Nat) : SeqAt.shaped (.list (xs.map nD)) = true := by
  have h1 := nDs_depth xs
  have h2 : PyData.depth (.list (xs.map nD)) ≤ 64 := by
    simp only [PyData.depth]
    omega
  show (PyData.canLay0 (.list (xs.map nD)) && decide (PyData.depth (.list (xs.map nD)) ≤ 64)) = true
  rw [decide_eq_true h2, Bool.and_true]
  exact nDs_lay xs
theorem nDs_nil : ∀ xs : List Nat, PyData.eqv (.list (xs.map nD)) (.list []) = decide (xs = [])
  | [] => rfl
  | x :: xs => by
    have e : PyData.eqv (.list ((x :: xs).map nD)) (.list []) = false := by simp only [List.map_cons, PyData.eqv, PyData.eqvAll]
    rw [e]
    exact (decide_eq_false (by simp)).symm
theorem nV_in (x : Nat) (xs : List Nat) : inV (nV x) (xs.map nV) = xs.contains x := by
  induction xs with
  | nil => rfl
  | cons y ys ih =>
    have e : inV (nV x) ((y :: ys).map nV) = (eqV (nV y) (nV x) || inV (nV x) (ys.map nV)) := rfl
    rw [e, ih, List.contains_cons]
    congr 1
    show ((y : Int) == (x : Int)) = (x == y)
    rw [Bool.eq_iff_iff, beq_iff_eq, beq_iff_eq]
    omega
theorem nV_flat (xs : List Nat) : (xs.map nV).all flatV = true := List.all_eq_true.mpr fun v hv => by
  obtain ⟨x, _, rfl⟩ := List.mem_map.mp hv
  rfl
theorem rg_n (m : Nat) : rgV 0 (m : Int) = (List.range m).map nV := by
  unfold rgV
  have e : ((m : Int) - 0).toNat = m := by omega
  rw [e]
  refine List.map_congr_left fun i _ => ?_
  show V.int (0 + (i : Int)) = V.int (i : Int)
  rw [Int.zero_add]
/-- in the table -/
def inT (kvs : List (List Key × V)) (i j : Nat) : Bool := (valV kvs [Sum.inl (i : Int), Sum.inl (j : Int)]).isSome
/-- the uppermost of those that are left -/
def topsOf (kvs : List (List Key × V)) (xs : List Nat) : List Nat := xs.filter fun o => decide ((xs.filter fun x => inT kvs x o) = [])
theorem tops_some {kvs : List (List Key × V)} {ws : List Wl} (hP : Plot ws) (hT : TabOk kvs ws) {xs : List Nat} (hx : ∀ x ∈ xs, x < ws.length) (h0 : xs ≠ []) : topsOf kvs xs ≠ [] := by
  have gd : ∀ {x : Nat} (h : x < ws.length), ws.getD x ((0, 0), (0, 0)) = ws[x] := fun {x} h => by rw [List.getD_eq_getElem?_getD, List.getElem?_eq_getElem h]; rfl
  obtain ⟨t, ht, k⟩ := top_of (L := xs.map fun x => ws.getD x ((0, 0), (0, 0))) (fun a ha b hb => by
      obtain ⟨i, hi, rfl⟩ := List.mem_map.mp ha
      obtain ⟨j, hj, rfl⟩ := List.mem_map.mp hb
      rw [gd (hx i hi), gd (hx j hj)]
      exact plot_two hP (hx i hi) (hx j hj)) (fun z => h0 (List.map_eq_nil_iff.mp z))
  obtain ⟨x0, hx0, rfl⟩ := List.mem_map.mp ht
  have hm : x0 ∈ topsOf kvs xs := by
    refine List.mem_filter.mpr ⟨hx0, decide_eq_true (List.filter_eq_nil_iff.mpr fun x hxm z => ?_)⟩
    have a := k _ (List.mem_map.mpr ⟨x, hxm, rfl⟩)
    rw [gd (hx x hxm), gd (hx x0 hx0)] at a
    have b := hT x x0 (hx x hxm) (hx x0 hx0)
    have z : (valV kvs [Sum.inl (x : Int), Sum.inl (x0 : Int)]).isSome = true := z
    rw [b, a] at z
    cases z
  exact List.ne_nil_of_mem hm
theorem left_less {kvs : List (List Key × V)} {xs : List Nat} (h : topsOf kvs xs ≠ []) : (xs.filter fun x => !(topsOf kvs xs).contains x).length < xs.length := by
  obtain ⟨t, ht⟩ := List.exists_mem_of_ne_nil _ h
  have hx := (List.mem_filter.mp ht).1
  refine List.length_filter_lt_length_iff_exists.mpr ⟨t, hx, ?_⟩
  rw [List.contains_iff_mem.mpr ht]
  exact Bool.false_ne_true
/-- the table as far as it is written -/
def TabTo (kvs : List (List Key × V)) (ws : List Wl) (i j : Nat) : Prop := ∀ (x y : Nat) (hx : x < ws.length) (hy : y < ws.length), inT kvs x y = (decide (x < i ∨ (x = i ∧ y < j)) && abv ws[x] ws[y])
theorem tab_nil (ws : List Wl) : TabTo [] ws 0 0 := fun x y _ _ => by
  have e : decide (x < 0 ∨ (x = 0 ∧ y < 0)) = false := decide_eq_false (by omega)
  rw [e]
  rfl
theorem tab_row {kvs : List (List Key × V)} {ws : List Wl} {i : Nat} (h : TabTo kvs ws i ws.length) : TabTo kvs ws (i + 1) 0 := fun x y hx hy => by
  rw [h x y hx hy]
  congr 1
  exact decide_eq_decide.mpr (by omega)
theorem tab_end {kvs : List (List Key × V)} {ws : List Wl} (h : TabTo kvs ws ws.length 0) : TabOk kvs ws := fun x y hx hy => by
  have e := h x y hx hy
  rw [decide_eq_true (.inl hx), Bool.true_and] at e
  exact e
theorem tab_no {kvs : List (List Key × V)} {ws : List Wl} {i j : Nat} (hi : i < ws.length) (hj : j < ws.length) (h : TabTo kvs ws i j) (no : abv ws[i] ws[j] = false) : TabTo kvs ws i (j + 1) := fun x y hx hy => by
  rw [h x y hx hy]
  by_cases e : x = i ∧ y = j
  · obtain ⟨rfl, rfl⟩ := e
    rw [no, Bool.and_false, Bool.and_false]
  · congr 1
    exact decide_eq_decide.mpr (by omega)
theorem tab_yes {kvs : List (List Key × V)} {ws : List Wl} {i j : Nat} (hi : i < ws.length) (hj : j < ws.length) (h : TabTo kvs ws i j) (yes : abv ws[i] ws[j] = true) : TabTo (putK kvs [Sum.inl (i : Int), Sum.inl (j : Int)] (.bl true)) ws i (j + 1) := fun x y hx hy => by
  unfold inT
  rw [valV_put]
  by_cases e : x = i ∧ y = j
  · obtain ⟨rfl, rfl⟩ := e
    rw [if_pos rfl, yes, decide_eq_true (.inr ⟨rfl, Nat.lt_succ_self _⟩)]
    rfl
  · have ne : ¬ ([Sum.inl (x : Int), Sum.inl (y : Int)] : List Key) = [Sum.inl (i : Int), Sum.inl (j : Int)] := fun z => by
      have z1 := List.cons.inj z
      have z2 := List.cons.inj z1.2
      have a := Sum.inl.inj z1.1
      have b := Sum.inl.inj z2.1
      exact e ⟨by omega, by omega⟩
    rw [if_neg ne]
    have q := h x y hx hy
    unfold inT at q
    rw [q]
    congr 1
    exact decide_eq_decide.mpr (by omega)
theorem put_len (kvs : List (List Key × V)) (k : List Key) (v : V) : (putK kvs k v).length ≤ kvs.length + 1 := by
  unfold putK
  split
  · rw [List.length_map]; exact Nat.le_succ _
  · rw [List.length_append]; exact Nat.le_refl _
theorem same_of_but {H H1 H2 : Hp} {r : Addr} (s : Same H H1) (hr : H r = none) (b : SameBut r H1 H2) : Same H H2 := fun a o e => b a o (ne_of_none e hr) (s a o e)
def spLaw (K : PySem.W.Frag) : Sp := fun vs H Q _ => ∃ (a : Addr) (ns : List Int), vs = [.ref a] ∧ SqL K H a (ns.map V.int) ∧ ns.length ≤ 63 ∧ ∀ H', Q (.bl true) H'
abbrev scTops : Scope := lcS (exS (inS (inS (inS sLaw 0) 6) 0))
abbrev nLaw : List Str := ["_law_script", "_law_k", "_law_row", "_law_plot", "_law_many", "_law_table", "_law_one", "_law_other", "_law_left", "_law_tops"]
section
variable {P : Program} {w : World} {K : PySem.W.Frag} {mg : Str → Option Value} {base : Heap}
theorem ok_law (T : Txt K mg) : FnOk P w K mg base CX0 8 T.fLaw T.dLaw ["_law_script"] (spLaw K) := by
  have GC : FnOk P w K mg base CX0 1 T.fCell T.dCell ["_law_script", "_law_k"] (spCell K) := ok_cell T
  have GM : FnOk P w K mg base CX0 3 T.fMade T.dMade ["_law_scale_here", "_law_shuts"] spMade := ok_made T
  have GS : FnOk P w K mg base CX0 2 T.fScale T.dScale ["_law_row"] spScale := ok_scale T
  have GH : FnOk P w K mg base CX0 4 T.fShuts T.dShuts ["_law_row", "_law_most", "_law_size"] spShuts := ok_shuts T
  have GA : FnOk P w K mg base CX0 7 T.fIsAbove T.dIsAbove ["one", "other"] spIsAbove := ok_isabove T
  have GR : FnOk P w K mg base CX0 4 T.fRow3 T.dRow3 ["_law_plot", "_law_table"] spRow3 := ok_row3 T
  refine T.tLaw.F.ok scLaw (fun vs H Q E h => ?_) (fun cdv A outer s H vs Q E hr h => ?_)
  · obtain ⟨a, ns, rfl, _⟩ := h
    rfl
  · obtain ⟨a, ns, rfl, hS, hlen, q⟩ := h
    have hu := hu_of hr
    have hr1 : Room 1 _ := hr.mono (by decide)
    have hr2 : Room 2 _ := hr.mono (by decide)
    have hr3 : Room 3 _ := hr.mono (by decide)
    have hr4 : Room 4 _ := hr.mono (by decide)
    refine ⟨_, pss_cons (ps_for PassesOwn.never rfl (pi_range1 (by rfl) T.m_range (pa_cons (pe_callB (call_max2 rfl) (by rfl) T.m_max (by decide +kernel) (pa_cons pe_int (pa_cons (pe_callB (call_min2 rfl) (by rfl) T.m_min (by decide +kernel) (pa_cons pe_int (pa_cons (pe_callB call_len_seq (by rfl) T.m_len PySem.boot_len (pa_cons (pv 0) pa_nil)) pa_nil))) pa_nil))) pa_nil))
        (pg_name (i := 1) scLaw.nd rfl (.inl rfl))
      (pss_cons (ps_set (i := 2) scLaw.nd rfl (.inl rfl) (pe_lst (pa_cons (pe_call GC hr1 (by rfl) T.tCell.m T.tCell.F.kp T.tCell.b .nil pass0 (pa_cons (pv 0) (pa_cons (pv 1) pa_nil))) (pa_cons pe_int pa_nil))))
      (pss_cons (ps_set (i := 3) scLaw.nd rfl (.inl rfl) (pe_call GM hr3 (by rfl) T.tMade.m T.tMade.F.kp T.tMade.b .nil pass0 (pa_cons (pe_call GS hr2 (by rfl) T.tScale.m T.tScale.F.kp T.tScale.b .nil pass0 (pa_cons (pv 2) pa_nil))
          (pa_cons (pe_call GH hr4 (by rfl) T.tShuts.m T.tShuts.F.kp T.tShuts.b .nil pass0 (pa_cons (pv 2) (pa_cons pe_int (pa_cons pe_int pa_nil)))) pa_nil))))
      (pss_cons (ps_set (i := 4) scLaw.nd rfl (.inl rfl) (pe_callB call_len_seq (by rfl) T.m_len PySem.boot_len (pa_cons (pv 3) pa_nil)))
      (pss_cons (ps_set (i := 5) scLaw.nd rfl (.inr rfl) pe_dnewT)
      (pss_cons (ps_for PassesOwn.never rfl (pi_range1 (by rfl) T.m_range (pa_cons (pv 4) pa_nil)) (pg_name (i := 6) scLaw.nd rfl (.inl rfl))
        (pss_one (ps_for PassesOwn.never rfl (pi_range1 (by rfl) T.m_range (pa_cons (pv 4) pa_nil)) (pg_name (i := 7) scLaw.nd rfl (.inl rfl))
          (pss_one (ps_if (PW.pt (pw_and (pt_cmpR op_ne (pv 6) (pv 7) (nomark _)) (pw_and1 (pt_val (pe_call GA hr (by rfl) T.tIsAbove.m T.tIsAbove.F.kp T.tIsAbove.b .nil pass0 (pa_cons (pe_ix ix_tup (pv 3) (pv 6) (fun _ _ => rfl)) (pa_cons (pe_ix ix_tup (pv 3) (pv 7) (fun _ _ => rfl)) pa_nil)))))))
            (pss_one (ps_dput hu (pv 5) (pe_tup (pa_cons (pv 6) (pa_cons (pv 7) pa_nil))) pe_bl rfl)) pss_nil)))))
      (pss_cons (ps_set (i := 8) scLaw.nd rfl (.inr rfl) (pe_listRg rfl (by rfl) T.m_list (prg_1 (by rfl) T.m_range (pv 4))))
      (pss_cons (ps_while PassesOwn.never (pt_cmpR (op_neD hr.units) (pv 8) (pe_lst pa_nil) (nomark _))
        (pss_cons (ps_set (i := 9) scLaw.nd rfl (.inr rfl) (pe_lc (own := [("_law_one", 6)]) (g := gName 6) rfl scLaw.nd (pi_list (pv 8))
            (blkOk_by (own := [("_law_one", 6)]) (N := nLaw) (sc := defScope sLaw) (by decide +kernel))
            (fun _ _ _ _ _ => pg_name (i := 6) scLaw.nd rfl (Or.inr rfl))
            (fun _ _ _ _ _ => pts_one (pt_cmpR (eqD (K := K) rfl hr.units)
              (pe_lc (own := [("_law_other", 7)]) (g := gName 7) rfl scLaw.nd (piL (K := K) rfl (pv 8))
                (blkOk_by (own := [("_law_other", 7)]) (N := nLaw) (sc := relS scTops (defScope sLaw)) (by decide +kernel))
                (fun _ _ _ _ _ => pg_name (i := 7) scLaw.nd rfl (Or.inl rfl)) (fun _ _ _ _ _ => pts_one (pt_cmp (pc_din hu (pe_tup (pa_cons (pv 7) (pa_cons (pv 6) pa_nil))) (pv 5)) rfl)) (fun _ _ _ _ _ => pv 7))
              (pe_lst pa_nil) (nomark _)))
            (fun _ _ _ _ _ => pv 6)))
        (pss_cons (ps_if (pt_cmpR (op_eqD hr.units) (pv 9) (pe_lst pa_nil) (nomark _)) (pss_one (ps_ret pe_bl)) pss_nil)
        (pss_one (ps_set (i := 8) scLaw.nd rfl (.inr rfl) (pe_lc (own := [("_law_one", 6)]) (g := gName 6) rfl scLaw.nd (pi_list (pv 8))
            (blkOk_by (own := [("_law_one", 6)]) (N := nLaw) (sc := defScope sLaw) (by decide +kernel))
            (fun _ _ _ _ _ => pg_name (i := 6) scLaw.nd rfl (Or.inl rfl)) (fun _ _ _ _ _ => pts_one (pt_cmpR (outSeq (K := K) rfl) (pv 6) (pv 9) rfl)) (fun _ _ _ _ _ => pv 6)))))))
      (pss_one (ps_if (pt_not (pt_val (pe_call GR hr4 (by rfl) T.tRow3.m T.tRow3.F.kp T.tRow3.b .nil pass0 (pa_cons (pv 3) (pa_cons (pv 5) pa_nil))))) (pss_one (ps_ret pe_bl)) pss_nil))))))))))
      (pss_one (ps_ret pe_bl)), ?_⟩
    -- the loop over the cells
    generalize hN : ((ns.map V.int).length : Int) = N0
    have hN1 : 0 ≤ N0 ∧ N0 ≤ 63 := by rw [← hN, List.length_map]; omega
    refine ⟨_, rfl, a, _, rfl, .inl hS, 3, N0, by rw [hN], 1, _, rfl, ?_⟩
    generalize hM : (if (if N0 < 3 then N0 else 3) > 1 then (if N0 < 3 then N0 else 3) else 1) = M
    have hM1 : 0 ≤ M ∧ M ≤ 3 := by rw [← hM]; split <;> split <;> omega
    refine ⟨M, rfl, by omega, by omega, for_range (lo := 0) (n := M.toNat) (fun i σ H1 => ∃ (y1 y2 y3 y4 y5 y6 y7 y8 y9 : Option V), σ = [some (.ref a), y1, y2, y3, y4, y5, y6, y7, y8, y9] ∧ Same H H1)
      ⟨none, none, none, none, none, none, none, none, none, rfl, Same.refl H⟩ ?_ (fun σ H1 _ => q H1)⟩
    rintro kk σ H1 hkk ⟨y1, y2, y3, y4, y5, y6, y7, y8, y9, rfl, m1⟩
    rw [Int.zero_add]
    -- row = [cell, 0]
    refine ⟨_, rfl, _, rfl, a, ns, kk, rfl, m1.seq hS, fun z => ⟨(by show 2 ≤ sizeLine; decide), fun r hr0 => ?_⟩⟩
    have hrH : H r = none := m1.free hr0
    have m2 := m1.trans (same_new (o := .lst [.int z, .int 0]) hr0)
    have eR : (upd H1 r (.lst [.int z, .int 0])) r = some (.lst [.int z, .int 0]) := upd_same
    generalize upd H1 r (.lst [.int z, .int 0]) = H2 at m2 eR ⊢
    -- plot = made(scale(row), shuts_here(row, 9, 5))
    refine ⟨_, rfl, r, z, 0, rfl, eR, by decide, by decide, fun H3 sc c z3 n3 b3 eR3 hn0 hn1 eSc hc => ?_⟩
    have m3 := same_of_but m2 hrH b3
    refine ⟨_, rfl, r, z3, n3, rfl, eR3, hn0, by omega, fun H4 L as ws b4 eL hW hP => ?_⟩
    have m4 := same_of_but m3 hrH b4
    have eSc4 : ScA H4 sc c := b4 _ _ (ne_of eSc eR3 (by intro z; cases z)) eSc
    refine ⟨sc, L, c, as, ws, rfl, eSc4, hc, eL, hW, hP, fun H5 p bs m45 ep hbl hbs => ?_⟩
    have m5 := m4.trans m45
    have hA : PlotA H5 bs ws c := ⟨hbl, hbs⟩
    -- many = len(plot)
    refine ⟨_, rfl, p, _, rfl, .inr (SqT.of ep), ?_⟩
    have hml : ((bs.map V.ref).length : Int) = (ws.length : Int) := by rw [List.length_map, hbl]
    rw [hml]
    have h9 := hP.most
    -- table = {}
    intro t ht0
    have htH : H t = none := m5.free ht0
    have m6 := same_new (o := .dT []) ht0
    have eT6 : (upd H5 t (.dT [])) t = some (.dT []) := upd_same
    have n56 := m6
    generalize upd H5 t (.dT []) = H6 at m6 eT6 n56 ⊢
    have ep6 := m6 _ _ ep
    have hA6 := hA.same m6
    have hb1 : -(2 ^ 62) ≤ (ws.length : Int) := by omega
    have hb2 : (ws.length : Int) < 2 ^ 62 := by omega
    have hwn : ((ws.length : Int)).toNat = ws.length := by omega
    -- what stays while the table is written
    have pl : ∀ {H7 : Hp}, SameBut t H6 H7 → H7 p = some (.tup (bs.map V.ref)) ∧ PlotA H7 bs ws c := fun {H7} b => by
      have nn : ∀ {e : Addr} {xs : List V}, H6 e = some (.tup xs) → H7 e = some (.tup xs) := fun {e xs} h => b _ _ (ne_of h eT6 (by intro z; cases z)) h
      refine ⟨nn ep6, hbl, fun j b' w h1 h2 => ?_⟩
      obtain ⟨x1, x2, k0, ⟨y1, y2, k1, k2, k3⟩, ⟨z1, z2, k4, k5, k6⟩⟩ := hA6.at_ j b' w h1 h2
      exact ⟨x1, x2, nn k0, ⟨y1, y2, nn k1, nn k2, nn k3⟩, ⟨z1, z2, nn k4, nn k5, nn k6⟩⟩
    have toH : ∀ {H7 : Hp}, SameBut t H6 H7 → Same H H7 := fun {H7} b => same_of_but (m5.trans m6) htH b
    refine ⟨_, rfl, _, rfl, hb1, hb2, ?_⟩
    rw [hwn]
    refine for_range (lo := 0) (n := ws.length) (fun i σ H7 => ∃ (y6 y7 : Option V) (kvs : List (List Key × V)), σ = [some (.ref a), some (.int kk), some (.ref r), some (.ref p), some (.int ws.length), some (.ref t), y6, y7, y8, y9] ∧
        SameBut t H6 H7 ∧ H7 t = some (.dT kvs) ∧ TabTo kvs ws i 0 ∧ kvs.length ≤ 20 * i) ⟨y6, y7, [], rfl, SameBut.refl, eT6, tab_nil ws, Nat.le_refl _⟩ ?_ ?_
    · rintro i σ H7 hi ⟨y6, y7, kvs, rfl, b7, eT7, hT7, hk7⟩
      rw [Int.zero_add]
      refine ⟨_, rfl, _, rfl, hb1, hb2, ?_⟩
      rw [hwn]
      refine for_range (lo := 0) (n := ws.length) (fun j σ H8 => ∃ (y7 : Option V) (kvs : List (List Key × V)), σ = [some (.ref a), some (.int kk), some (.ref r), some (.ref p), some (.int ws.length), some (.ref t), some (.int i), y7, y8, y9] ∧
        SameBut t H6 H8 ∧ H8 t = some (.dT kvs) ∧ TabTo kvs ws i j ∧ kvs.length ≤ 20 * i + j) ⟨y7, kvs, rfl, b7, eT7, hT7, hk7⟩ ?_
        (fun σ H8 ⟨y7, kvs, e, b8, eT8, hT8, hk8⟩ => ⟨_, y7, kvs, e, b8, eT8, tab_row hT8, by omega⟩)
      rintro j σ H8 hj ⟨y7, kvs, rfl, b8, eT8, hT8, hk8⟩
      rw [Int.zero_add]
      have no : ∀ H9, Same H8 H9 → abv ws[i] ws[j] = false → ∃ (y7' : Option V) (kvs : List (List Key × V)), [some (V.ref a), some (V.int kk), some (V.ref r), some (V.ref p), some (V.int ws.length), some (V.ref t), some (V.int i), some (V.int j), y8, y9] = [some (V.ref a), some (V.int kk), some (V.ref r), some (V.ref p), some (V.int ws.length), some (V.ref t), some (V.int i), y7', y8, y9] ∧
          SameBut t H6 H9 ∧ H9 t = some (.dT kvs) ∧ TabTo kvs ws i (j + 1) ∧ kvs.length ≤ 20 * i + (j + 1) := fun H9 m e => ⟨_, kvs, rfl, b8.trans (Same.but m), m _ _ eT8, tab_no hi hj hT8 e, by omega⟩
      refine ⟨_, rfl, _, rfl, rfl, _, rfl, ?_⟩
      by_cases cij : i = j
      · subst cij
        rw [decide_eq_true rfl]
        refine iteF ?_
        exact no H8 (Same.refl _) (abv_self (hP.wf _ (List.getElem_mem hi)))
      · have nij : ¬ V.int (i : Int) = V.int (j : Int) := fun z => by have := V.int.inj z; omega
        rw [decide_eq_false nij]
        refine iteT ?_
        obtain ⟨ep8, hA8⟩ := pl b8
        obtain ⟨bi, hbi, wi⟩ := hA8.get hi
        obtain ⟨bj, hbj, wj⟩ := hA8.get hj
        have mi : (bs.map V.ref)[i]? = some (.ref bi) := by rw [List.getElem?_map, hbi]; rfl
        have mj : (bs.map V.ref)[j]? = some (.ref bj) := by rw [List.getElem?_map, hbj]; rfl
        refine ⟨_, rfl, _, rfl, p, _, i, .ref bi, rfl, rfl, SqT.of ep8, atI_nat (j := i) mi, _, rfl, _, rfl, p, _, j, .ref bj, rfl, rfl, SqT.of ep8, atI_nat (j := j) mj, bi, bj, _, _, 70, rfl, wi, wj, wall_WB hc (hP.wf _ (List.getElem_mem hi)), wall_WB hc (hP.wf _ (List.getElem_mem hj)), by decide, fun H9 m9 => ?_⟩
        rw [above_eq hc.ok]
        refine ⟨_, rfl, ?_⟩
        cases cab : aboveG aheadU sideU ws[i] ws[j] with
        | false =>
          refine iteF ?_
          exact no H9 m9 cab
        | true =>
          refine iteT ?_
          refine ⟨_, rfl, _, rfl, _, rfl, (by show 2 ≤ sizeLine; decide), fun kt hkt => ?_⟩
          have eT9 := m9 _ _ eT8
          have m10 := same_new (o := .tup [.int i, .int j]) hkt
          have e10 : (upd H9 kt (.tup [.int i, .int j])) kt = some (.tup [.int i, .int j]) := upd_same
          generalize upd H9 kt (.tup [.int i, .int j]) = H10 at m10 e10 ⊢
          refine ⟨t, _, rfl, DPut.t (k := [.inl (i : Int), .inl (j : Int)]) (m10 _ _ eT9) e10 (small1000 (by omega)), ?_⟩
          refine ⟨_, _, rfl, (b8.trans (Same.but (m9.trans m10))).trans but_upd, upd_same, tab_yes hi hj hT8 cab, ?_⟩
          have := put_len kvs [.inl (i : Int), .inl (j : Int)] (.bl true)
          omega
    · rintro σ H7 ⟨z6, z7, kvs, rfl, b7, eT7, hT7, hk7⟩
      have hT : TabOk kvs ws := tab_end hT7
      obtain ⟨ep7, hA7⟩ := pl b7
      have s7 := toH b7
      -- left = list(range(many))
      refine ⟨_, rfl, _, rfl, RgOk.of_le (Int.le_refl 0) (by omega) (by decide) (by omega), fun l hl => ?_⟩
      rw [rg_n]
      have m8 := same_new (o := .lst ((List.range ws.length).map nV)) hl
      have e8 : (upd H7 l (.lst ((List.range ws.length).map nV))) l = some (.lst ((List.range ws.length).map nV)) := upd_same
      generalize upd H7 l (.lst ((List.range ws.length).map nV)) = H8 at m8 e8 ⊢
      -- while left != []
      refine ⟨fun m σ H9 => ∃ (l : Addr) (xs : List Nat) (y9 : Option V), σ = [some (.ref a), some (.int kk), some (.ref r), some (.ref p), some (.int ws.length), some (.ref t), z6, z7, some (.ref l), y9] ∧ Same H7 H9 ∧ H9 l = some (.lst (xs.map nV)) ∧ (∀ x ∈ xs, x < ws.length) ∧ xs.length ≤ ws.length ∧ m = xs.length,
        ⟨_, l, List.range ws.length, y9, rfl, m8, e8, fun x hx => List.mem_range.mp hx, by rw [List.length_range]; exact Nat.le_refl _, rfl⟩, ?_⟩
      rintro m σ H9 ⟨l, xs, y9, rfl, m9, e9, hxs, hxl, rfl⟩
      have hsz : ∀ {n : Nat}, n ≤ xs.length → n < sizeLine := fun {n} h => small1000 (by omega)
      refine ⟨_, rfl, Nat.zero_le _, fun e he => ?_⟩
      have m10 := same_new (o := .lst []) he
      have e10 : (upd H9 e (.lst [])) e = some (.lst []) := upd_same
      generalize upd H9 e (.lst []) = H10 at m10 e10 ⊢
      refine ⟨.list (xs.map nD), .list [], .lst (SqL.of (m10 _ _ e9)) (nDp xs), .lst (SqL.of e10) .nil, nDs_shaped xs, rfl, _, rfl, ?_⟩
      rw [nDs_nil]
      have m910 := m9.trans m10
      have el10 := m10 _ _ e9
      by_cases c0 : xs = []
      · rw [decide_eq_true c0]
        refine iteF ?_
        -- row_of_three
        refine ⟨_, rfl, _, rfl, p, t, bs, ws, c, kvs, rfl, m910 _ _ ep7, hA7.same m910, hc, hP, m910 _ _ eT7, hT, fun H11 m11 => ⟨_, rfl, ?_⟩⟩
        refine iteF ?_
        exact ⟨_, _, _, _, _, _, _, _, _, rfl, (s7.trans m910).trans m11⟩
      rw [decide_eq_false c0]
      refine iteT ?_
      refine ⟨_, fun σ' H' h => h, ?_⟩
      -- tops
      refine ⟨_, rfl, l, rfl, ⟨_, SqL.of el10⟩, fun D hD => ?_⟩
      refine lc_list (K := K) (a := l) (xs := xs.map nV) (fun n H11 => Same H10 H11 ∧ H11 D = some (.lst (((xs.take n).filter fun o => decide ((xs.filter fun x => inT kvs x o) = [])).map nV)))
        ⟨same_new hD, upd_same⟩ (fun n H11 _ h => SqL.of (h.1 _ _ el10)) ?_ ?_
      · rintro n x H11 hx ⟨m11, eD⟩
        have hn : n < xs.length := by
          have := (List.getElem?_eq_some_iff.mp hx).1
          simpa using this
        have ex : x = nV xs[n] := by
          rw [List.getElem?_map, List.getElem?_eq_getElem hn] at hx
          exact (Option.some.inj hx).symm
        subst ex
        generalize hb : xs[n] = b
        have tk : xs.take (n + 1) = xs.take n ++ [b] := by rw [List.take_add_one, List.getElem?_eq_getElem hn, hb]; rfl
        have el11 := m11 _ _ el10
        refine ⟨rfl, ?_⟩
        -- [other for other in left if (other, one) in table]
        refine ⟨_, rfl, l, rfl, ⟨_, SqL.of el11⟩, fun D2 hD2 => ?_⟩
        refine lc_list (K := K) (a := l) (xs := xs.map nV) (fun n2 H12 => Same H11 H12 ∧ H12 D2 = some (.lst (((xs.take n2).filter fun x => inT kvs x b).map nV)))
          ⟨same_new hD2, upd_same⟩ (fun n2 H12 _ h => SqL.of (h.1 _ _ el11)) ?_ ?_
        · rintro n2 x2 H12 hx2 ⟨m12, eD2⟩
          have hn2 : n2 < xs.length := by
            have := (List.getElem?_eq_some_iff.mp hx2).1
            simpa using this
          have ex2 : x2 = nV xs[n2] := by
            rw [List.getElem?_map, List.getElem?_eq_getElem hn2] at hx2
            exact (Option.some.inj hx2).symm
          subst ex2
          generalize hd : xs[n2] = d
          have tk2 : xs.take (n2 + 1) = xs.take n2 ++ [d] := by rw [List.take_add_one, List.getElem?_eq_getElem hn2, hd]; rfl
          refine ⟨rfl, ?_⟩
          refine ⟨_, rfl, _, rfl, (by show 2 ≤ sizeLine; decide), fun kt hkt => ?_⟩
          have m13 := same_new (o := .tup [nV d, nV b]) hkt
          have e13 : (upd H12 kt (.tup [nV d, nV b])) kt = some (.tup [nV d, nV b]) := upd_same
          generalize upd H12 kt (.tup [nV d, nV b]) = H13 at m13 e13 ⊢
          have m1213 := m12.trans m13
          have eT13 : H13 t = some (.dT kvs) := m1213 _ _ (m11 _ _ (m910 _ _ eT7))
          refine ⟨_, rfl, t, _, rfl, DGet.t (k := [.inl (d : Int), .inl (b : Int)]) eT13 e13, _, rfl, ?_⟩
          have eI : (valV kvs [Sum.inl (d : Int), Sum.inl (b : Int)]).isSome = inT kvs d b := rfl
          rw [eI]
          cases ci : inT kvs d b with
          | false =>
            refine iteF ?_
            refine ⟨m1213, ?_⟩
            rw [tk2, List.filter_append, List.filter_cons_of_neg (by rw [ci]; exact Bool.false_ne_true), List.filter_nil, List.append_nil]
            exact m13 _ _ eD2
          | true =>
            refine iteT ?_
            refine ⟨_, rfl, _, m13 _ _ eD2, ?_, same_mut m1213 hD2, ?_⟩
            · rw [List.length_map]
              exact hsz (Nat.le_trans (List.length_filter_le _ _) (by rw [List.length_take]; exact Nat.min_le_right _ _))
            · rw [tk2, List.filter_append, List.filter_cons_of_pos (p := fun x => inT kvs x b) ci, List.filter_nil, List.map_append]
              exact upd_same
        · rintro H12 ⟨m12, eD2⟩
          have et2 : xs.take (xs.map nV).length = xs := List.take_of_length_le (by rw [List.length_map]; exact Nat.le_refl _)
          rw [et2] at eD2
          refine ⟨Nat.zero_le _, fun e2 he2 => ?_⟩
          have m13 := same_new (o := .lst []) he2
          have e13 : (upd H12 e2 (.lst [])) e2 = some (.lst []) := upd_same
          generalize upd H12 e2 (.lst []) = H13 at m13 e13 ⊢
          have m1113 := m12.trans m13
          refine ⟨.list ((xs.filter fun x => inT kvs x b).map nD), .list [], .lst (SqL.of (m13 _ _ eD2)) (nDp _), .lst (SqL.of e13) .nil, nDs_shaped _, rfl, _, rfl, ?_⟩
          rw [nDs_nil]
          have eD13 := m1113 _ _ eD
          cases ci : decide ((xs.filter fun x => inT kvs x b) = []) with
          | false =>
            refine iteF ?_
            refine ⟨m11.trans m1113, ?_⟩
            rw [tk, List.filter_append, List.filter_cons_of_neg (by rw [ci]; exact Bool.false_ne_true), List.filter_nil, List.append_nil]
            exact eD13
          | true =>
            refine iteT ?_
            refine ⟨_, rfl, _, eD13, ?_, same_mut (m11.trans m1113) hD, ?_⟩
            · rw [List.length_map]
              exact hsz (Nat.le_trans (List.length_filter_le _ _) (by rw [List.length_take]; exact Nat.min_le_right _ _))
            · rw [tk, List.filter_append, List.filter_cons_of_pos (p := fun o => decide ((xs.filter fun x => inT kvs x o) = [])) ci, List.filter_nil, List.map_append]
              exact upd_same
      · rintro H11 ⟨m11, eD⟩
        have et : xs.take (xs.map nV).length = xs := List.take_of_length_le (by rw [List.length_map]; exact Nat.le_refl _)
        rw [et] at eD
        have eD : H11 D = some (.lst ((topsOf kvs xs).map nV)) := eD
        have tne := tops_some hP hT hxs c0
        -- if tops == []
        refine ⟨_, rfl, Nat.zero_le _, fun e2 he2 => ?_⟩
        have m12 := same_new (o := .lst []) he2
        have e12 : (upd H11 e2 (.lst [])) e2 = some (.lst []) := upd_same
        generalize upd H11 e2 (.lst []) = H12 at m12 e12 ⊢
        refine ⟨.list ((topsOf kvs xs).map nD), .list [], .lst (SqL.of (m12 _ _ eD)) (nDp _), .lst (SqL.of e12) .nil, nDs_shaped _, rfl, _, rfl, ?_⟩
        rw [nDs_nil, decide_eq_false tne]
        refine iteF ?_
        have eD12 := m12 _ _ eD
        have m1012 := m11.trans m12
        have el12 := m1012 _ _ el10
        -- left = the others
        refine ⟨_, rfl, l, rfl, ⟨_, SqL.of el12⟩, fun D2 hD2 => ?_⟩
        refine lc_list (K := K) (a := l) (xs := xs.map nV) (fun n H13 => Same H12 H13 ∧ H13 D2 = some (.lst (((xs.take n).filter fun x => !(topsOf kvs xs).contains x).map nV)))
          ⟨same_new hD2, upd_same⟩ (fun n H13 _ h => SqL.of (h.1 _ _ el12)) ?_ ?_
        · rintro n x H13 hx ⟨m13, eD2⟩
          have hn : n < xs.length := by
            have := (List.getElem?_eq_some_iff.mp hx).1
            simpa using this
          have ex : x = nV xs[n] := by
            rw [List.getElem?_map, List.getElem?_eq_getElem hn] at hx
            exact (Option.some.inj hx).symm
          subst ex
          generalize hb : xs[n] = b
          have tk : xs.take (n + 1) = xs.take n ++ [b] := by rw [List.take_add_one, List.getElem?_eq_getElem hn, hb]; rfl
          refine ⟨rfl, ?_⟩
          refine ⟨_, rfl, _, rfl, D, _, rfl, .inl (SqL.of (m13 _ _ eD12)), rfl, nV_flat _, _, rfl, ?_⟩
          rw [nV_in]
          cases ci : (topsOf kvs xs).contains b with
          | true =>
            refine iteF ?_
            refine ⟨m13, ?_⟩
            rw [tk, List.filter_append, List.filter_cons_of_neg (by rw [ci]; exact Bool.false_ne_true), List.filter_nil, List.append_nil]
            exact eD2
          | false =>
            refine iteT ?_
            refine ⟨_, rfl, _, eD2, ?_, same_mut m13 hD2, ?_⟩
            · rw [List.length_map]
              exact hsz (Nat.le_trans (List.length_filter_le _ _) (by rw [List.length_take]; exact Nat.min_le_right _ _))
            · rw [tk, List.filter_append, List.filter_cons_of_pos (p := fun x => !(topsOf kvs xs).contains x) (by rw [ci]; rfl), List.filter_nil, List.map_append]
              exact upd_same
        · rintro H13 ⟨m13, eD2⟩
          rw [et] at eD2
          have less := left_less tne
          exact ⟨_, less, D2, _, _, rfl, (m910.trans m1012).trans m13, eD2, fun x hx => hxs x (List.mem_filter.mp hx).1, by omega, rfl⟩
end
end K16

namespace K16
open PySem PySem.Spec PyProof.Rows L2
theorem all_mk {l : PySem.W.OpenLaw} {w : World} {K : PySem.W.Frag} {h : Heap} {mg : Str → Option Value} {fa : Addr} (X : K.In h) (G : h.Ns mainGlobals mg) (hfa : mg "law" = some (.ref fa))
    {fDivisor fFraction fLess fTimes fIsLess fIsAhead fAlong fCrossed fLeaning fSideOf fSpans fBoth fParting fIsAbove fCell fTake fLow fScale fSpot fMade fTurn fOn fFair fShuts fRow3 fLaw : Addr} {odDivisor anDivisor odFraction anFraction odLess anLess odTimes anTimes odIsLess anIsLess odIsAhead anIsAhead odAlong anAlong odCrossed anCrossed odLeaning anLeaning odSideOf anSideOf odSpans anSpans odBoth anBoth odParting anParting odIsAbove anIsAbove odCell anCell odTake anTake odLow anLow odScale anScale odSpot anSpot odMade anMade odTurn anTurn odOn anOn odFair anFair odShuts anShuts odRow3 anRow3 odLaw anLaw : Option Addr} {slDivisor slFraction slLess slTimes slIsLess slIsAhead slAlong slCrossed slLeaning slSideOf slSpans slBoth slParting slIsAbove slCell slTake slLow slScale slSpot slMade slTurn slOn slFair slShuts slRow3 slLaw : Array (Option Value)}
    {ocDivisor kVDivisor dcDivisor pmDivisor cdDivisor ctDivisor ocFraction kVFraction dcFraction pmFraction cdFraction ctFraction ocLess kVLess dcLess pmLess cdLess ctLess ocTimes kVTimes dcTimes pmTimes cdTimes ctTimes ocIsLess kVIsLess dcIsLess pmIsLess cdIsLess ctIsLess ocIsAhead kVIsAhead dcIsAhead pmIsAhead cdIsAhead ctIsAhead ocAlong kVAlong dcAlong pmAlong cdAlong ctAlong ocCrossed kVCrossed dcCrossed pmCrossed cdCrossed ctCrossed ocLeaning kVLeaning dcLeaning pmLeaning cdLeaning ctLeaning ocSideOf kVSideOf dcSideOf pmSideOf cdSideOf ctSideOf ocSpans kVSpans dcSpans pmSpans cdSpans ctSpans ocBoth kVBoth dcBoth pmBoth cdBoth ctBoth ocParting kVParting dcParting pmParting cdParting ctParting ocIsAbove kVIsAbove dcIsAbove pmIsAbove cdIsAbove ctIsAbove ocCell kVCell dcCell pmCell cdCell ctCell ocTake kVTake dcTake pmTake cdTake ctTake ocLow kVLow dcLow pmLow cdLow ctLow ocScale kVScale dcScale pmScale cdScale ctScale ocSpot kVSpot dcSpot pmSpot cdSpot ctSpot ocMade kVMade dcMade pmMade cdMade ctMade ocTurn kVTurn dcTurn pmTurn cdTurn ctTurn ocOn kVOn dcOn pmOn cdOn ctOn ocFair kVFair dcFair pmFair cdFair ctFair ocShuts kVShuts dcShuts pmShuts cdShuts ctShuts ocRow3 kVRow3 dcRow3 pmRow3 cdRow3 ctRow3 ocLaw kVLaw dcLaw pmLaw cdLaw ctLaw : Value}
    (aDivisor : PySem.W.nsIn K mainGlobals "divisor" = some (some (.ref fDivisor))) (lDivisor : K.lookup fDivisor = some ⟨ocDivisor, odDivisor, .func (PySem.W.fnOf "divisor" "divisor" (defArgs sDivisor) (defBody sDivisor) (defScope sDivisor) .none kVDivisor dcDivisor pmDivisor anDivisor cdDivisor ctDivisor), slDivisor⟩) (cDivisor : PySem.W.codeIn K cdDivisor "divisor" = true) (kDivisor : PySem.W.keepIn K (.ref fDivisor) = true)
    (aFraction : PySem.W.nsIn K mainGlobals "fraction" = some (some (.ref fFraction))) (lFraction : K.lookup fFraction = some ⟨ocFraction, odFraction, .func (PySem.W.fnOf "fraction" "fraction" (defArgs sFraction) (defBody sFraction) (defScope sFraction) .none kVFraction dcFraction pmFraction anFraction cdFraction ctFraction), slFraction⟩) (cFraction : PySem.W.codeIn K cdFraction "fraction" = true) (kFraction : PySem.W.keepIn K (.ref fFraction) = true)
    (aLess : PySem.W.nsIn K mainGlobals "less" = some (some (.ref fLess))) (lLess : K.lookup fLess = some ⟨ocLess, odLess, .func (PySem.W.fnOf "less" "less" (defArgs sLess) (defBody sLess) (defScope sLess) .none kVLess dcLess pmLess anLess cdLess ctLess), slLess⟩) (cLess : PySem.W.codeIn K cdLess "less" = true) (kLess : PySem.W.keepIn K (.ref fLess) = true)
    (aTimes : PySem.W.nsIn K mainGlobals "times" = some (some (.ref fTimes))) (lTimes : K.lookup fTimes = some ⟨ocTimes, odTimes, .func (PySem.W.fnOf "times" "times" (defArgs sTimes) (defBody sTimes) (defScope sTimes) .none kVTimes dcTimes pmTimes anTimes cdTimes ctTimes), slTimes⟩) (cTimes : PySem.W.codeIn K cdTimes "times" = true) (kTimes : PySem.W.keepIn K (.ref fTimes) = true)
    (aIsLess : PySem.W.nsIn K mainGlobals "is_less" = some (some (.ref fIsLess))) (lIsLess : K.lookup fIsLess = some ⟨ocIsLess, odIsLess, .func (PySem.W.fnOf "is_less" "is_less" (defArgs sIsLess) (defBody sIsLess) (defScope sIsLess) .none kVIsLess dcIsLess pmIsLess anIsLess cdIsLess ctIsLess), slIsLess⟩) (cIsLess : PySem.W.codeIn K cdIsLess "is_less" = true) (kIsLess : PySem.W.keepIn K (.ref fIsLess) = true)
    (aIsAhead : PySem.W.nsIn K mainGlobals "is_ahead" = some (some (.ref fIsAhead))) (lIsAhead : K.lookup fIsAhead = some ⟨ocIsAhead, odIsAhead, .func (PySem.W.fnOf "is_ahead" "is_ahead" (defArgs sIsAhead) (defBody sIsAhead) (defScope sIsAhead) .none kVIsAhead dcIsAhead pmIsAhead anIsAhead cdIsAhead ctIsAhead), slIsAhead⟩) (cIsAhead : PySem.W.codeIn K cdIsAhead "is_ahead" = true) (kIsAhead : PySem.W.keepIn K (.ref fIsAhead) = true)
    (aAlong : PySem.W.nsIn K mainGlobals "along" = some (some (.ref fAlong))) (lAlong : K.lookup fAlong = some ⟨ocAlong, odAlong, .func (PySem.W.fnOf "along" "along" (defArgs sAlong) (defBody sAlong) (defScope sAlong) .none kVAlong dcAlong pmAlong anAlong cdAlong ctAlong), slAlong⟩) (cAlong : PySem.W.codeIn K cdAlong "along" = true) (kAlong : PySem.W.keepIn K (.ref fAlong) = true)
    (aCrossed : PySem.W.nsIn K mainGlobals "crossed" = some (some (.ref fCrossed))) (lCrossed : K.lookup fCrossed = some ⟨ocCrossed, odCrossed, .func (PySem.W.fnOf "crossed" "crossed" (defArgs sCrossed) (defBody sCrossed) (defScope sCrossed) .none kVCrossed dcCrossed pmCrossed anCrossed cdCrossed ctCrossed), slCrossed⟩) (cCrossed : PySem.W.codeIn K cdCrossed "crossed" = true) (kCrossed : PySem.W.keepIn K (.ref fCrossed) = true)
    (aLeaning : PySem.W.nsIn K mainGlobals "leaning" = some (some (.ref fLeaning))) (lLeaning : K.lookup fLeaning = some ⟨ocLeaning, odLeaning, .func (PySem.W.fnOf "leaning" "leaning" (defArgs sLeaning) (defBody sLeaning) (defScope sLeaning) .none kVLeaning dcLeaning pmLeaning anLeaning cdLeaning ctLeaning), slLeaning⟩) (cLeaning : PySem.W.codeIn K cdLeaning "leaning" = true) (kLeaning : PySem.W.keepIn K (.ref fLeaning) = true)
    (aSideOf : PySem.W.nsIn K mainGlobals "side_of" = some (some (.ref fSideOf))) (lSideOf : K.lookup fSideOf = some ⟨ocSideOf, odSideOf, .func (PySem.W.fnOf "side_of" "side_of" (defArgs sSideOf) (defBody sSideOf) (defScope sSideOf) .none kVSideOf dcSideOf pmSideOf anSideOf cdSideOf ctSideOf), slSideOf⟩) (cSideOf : PySem.W.codeIn K cdSideOf "side_of" = true) (kSideOf : PySem.W.keepIn K (.ref fSideOf) = true)
    (aSpans : PySem.W.nsIn K mainGlobals "spans" = some (some (.ref fSpans))) (lSpans : K.lookup fSpans = some ⟨ocSpans, odSpans, .func (PySem.W.fnOf "spans" "spans" (defArgs sSpans) (defBody sSpans) (defScope sSpans) .none kVSpans dcSpans pmSpans anSpans cdSpans ctSpans), slSpans⟩) (cSpans : PySem.W.codeIn K cdSpans "spans" = true) (kSpans : PySem.W.keepIn K (.ref fSpans) = true)
    (aBoth : PySem.W.nsIn K mainGlobals "both_span" = some (some (.ref fBoth))) (lBoth : K.lookup fBoth = some ⟨ocBoth, odBoth, .func (PySem.W.fnOf "both_span" "both_span" (defArgs sBoth) (defBody sBoth) (defScope sBoth) .none kVBoth dcBoth pmBoth anBoth cdBoth ctBoth), slBoth⟩) (cBoth : PySem.W.codeIn K cdBoth "both_span" = true) (kBoth : PySem.W.keepIn K (.ref fBoth) = true)
    (aParting : PySem.W.nsIn K mainGlobals "parting_end" = some (some (.ref fParting))) (lParting : K.lookup fParting = some ⟨ocParting, odParting, .func (PySem.W.fnOf "parting_end" "parting_end" (defArgs sParting) (defBody sParting) (defScope sParting) .none kVParting dcParting pmParting anParting cdParting ctParting), slParting⟩) (cParting : PySem.W.codeIn K cdParting "parting_end" = true) (kParting : PySem.W.keepIn K (.ref fParting) = true)
    (aIsAbove : PySem.W.nsIn K mainGlobals "is_above" = some (some (.ref fIsAbove))) (lIsAbove : K.lookup fIsAbove = some ⟨ocIsAbove, odIsAbove, .func (PySem.W.fnOf "is_above" "is_above" (defArgs sIsAbove) (defBody sIsAbove) (defScope sIsAbove) .none kVIsAbove dcIsAbove pmIsAbove anIsAbove cdIsAbove ctIsAbove), slIsAbove⟩) (cIsAbove : PySem.W.codeIn K cdIsAbove "is_above" = true) (kIsAbove : PySem.W.keepIn K (.ref fIsAbove) = true)
    (aCell : PySem.W.nsIn K mainGlobals "_law_cell_at" = some (some (.ref fCell))) (lCell : K.lookup fCell = some ⟨ocCell, odCell, .func (PySem.W.fnOf "_law_cell_at" "_law_cell_at" (defArgs sCell) (defBody sCell) (defScope sCell) .none kVCell dcCell pmCell anCell cdCell ctCell), slCell⟩) (cCell : PySem.W.codeIn K cdCell "_law_cell_at" = true) (kCell : PySem.W.keepIn K (.ref fCell) = true)
    (aTake : PySem.W.nsIn K mainGlobals "_law_take" = some (some (.ref fTake))) (lTake : K.lookup fTake = some ⟨ocTake, odTake, .func (PySem.W.fnOf "_law_take" "_law_take" (defArgs sTake) (defBody sTake) (defScope sTake) .none kVTake dcTake pmTake anTake cdTake ctTake), slTake⟩) (cTake : PySem.W.codeIn K cdTake "_law_take" = true) (kTake : PySem.W.keepIn K (.ref fTake) = true)
    (aLow : PySem.W.nsIn K mainGlobals "_law_low" = some (some (.ref fLow))) (lLow : K.lookup fLow = some ⟨ocLow, odLow, .func (PySem.W.fnOf "_law_low" "_law_low" (defArgs sLow) (defBody sLow) (defScope sLow) .none kVLow dcLow pmLow anLow cdLow ctLow), slLow⟩) (cLow : PySem.W.codeIn K cdLow "_law_low" = true) (kLow : PySem.W.keepIn K (.ref fLow) = true)
    (aScale : PySem.W.nsIn K mainGlobals "_law_scale" = some (some (.ref fScale))) (lScale : K.lookup fScale = some ⟨ocScale, odScale, .func (PySem.W.fnOf "_law_scale" "_law_scale" (defArgs sScale) (defBody sScale) (defScope sScale) .none kVScale dcScale pmScale anScale cdScale ctScale), slScale⟩) (cScale : PySem.W.codeIn K cdScale "_law_scale" = true) (kScale : PySem.W.keepIn K (.ref fScale) = true)
    (aSpot : PySem.W.nsIn K mainGlobals "_law_spot" = some (some (.ref fSpot))) (lSpot : K.lookup fSpot = some ⟨ocSpot, odSpot, .func (PySem.W.fnOf "_law_spot" "_law_spot" (defArgs sSpot) (defBody sSpot) (defScope sSpot) .none kVSpot dcSpot pmSpot anSpot cdSpot ctSpot), slSpot⟩) (cSpot : PySem.W.codeIn K cdSpot "_law_spot" = true) (kSpot : PySem.W.keepIn K (.ref fSpot) = true)
    (aMade : PySem.W.nsIn K mainGlobals "_law_made" = some (some (.ref fMade))) (lMade : K.lookup fMade = some ⟨ocMade, odMade, .func (PySem.W.fnOf "_law_made" "_law_made" (defArgs sMade) (defBody sMade) (defScope sMade) .none kVMade dcMade pmMade anMade cdMade ctMade), slMade⟩) (cMade : PySem.W.codeIn K cdMade "_law_made" = true) (kMade : PySem.W.keepIn K (.ref fMade) = true)
    (aTurn : PySem.W.nsIn K mainGlobals "_law_turn" = some (some (.ref fTurn))) (lTurn : K.lookup fTurn = some ⟨ocTurn, odTurn, .func (PySem.W.fnOf "_law_turn" "_law_turn" (defArgs sTurn) (defBody sTurn) (defScope sTurn) .none kVTurn dcTurn pmTurn anTurn cdTurn ctTurn), slTurn⟩) (cTurn : PySem.W.codeIn K cdTurn "_law_turn" = true) (kTurn : PySem.W.keepIn K (.ref fTurn) = true)
    (aOn : PySem.W.nsIn K mainGlobals "_law_on" = some (some (.ref fOn))) (lOn : K.lookup fOn = some ⟨ocOn, odOn, .func (PySem.W.fnOf "_law_on" "_law_on" (defArgs sOn) (defBody sOn) (defScope sOn) .none kVOn dcOn pmOn anOn cdOn ctOn), slOn⟩) (cOn : PySem.W.codeIn K cdOn "_law_on" = true) (kOn : PySem.W.keepIn K (.ref fOn) = true)
    (aFair : PySem.W.nsIn K mainGlobals "_law_fair" = some (some (.ref fFair))) (lFair : K.lookup fFair = some ⟨ocFair, odFair, .func (PySem.W.fnOf "_law_fair" "_law_fair" (defArgs sFair) (defBody sFair) (defScope sFair) .none kVFair dcFair pmFair anFair cdFair ctFair), slFair⟩) (cFair : PySem.W.codeIn K cdFair "_law_fair" = true) (kFair : PySem.W.keepIn K (.ref fFair) = true)
    (aShuts : PySem.W.nsIn K mainGlobals "_law_shuts_here" = some (some (.ref fShuts))) (lShuts : K.lookup fShuts = some ⟨ocShuts, odShuts, .func (PySem.W.fnOf "_law_shuts_here" "_law_shuts_here" (defArgs sShuts) (defBody sShuts) (defScope sShuts) .none kVShuts dcShuts pmShuts anShuts cdShuts ctShuts), slShuts⟩) (cShuts : PySem.W.codeIn K cdShuts "_law_shuts_here" = true) (kShuts : PySem.W.keepIn K (.ref fShuts) = true)
    (aRow3 : PySem.W.nsIn K mainGlobals "_law_row_of_three" = some (some (.ref fRow3))) (lRow3 : K.lookup fRow3 = some ⟨ocRow3, odRow3, .func (PySem.W.fnOf "_law_row_of_three" "_law_row_of_three" (defArgs sRow3) (defBody sRow3) (defScope sRow3) .none kVRow3 dcRow3 pmRow3 anRow3 cdRow3 ctRow3), slRow3⟩) (cRow3 : PySem.W.codeIn K cdRow3 "_law_row_of_three" = true) (kRow3 : PySem.W.keepIn K (.ref fRow3) = true)
    (aLaw : PySem.W.nsIn K mainGlobals "law" = some (some (.ref fLaw))) (lLaw : K.lookup fLaw = some ⟨ocLaw, odLaw, .func (PySem.W.fnOf "law" "law" (defArgs sLaw) (defBody sLaw) (defScope sLaw) .none kVLaw dcLaw pmLaw anLaw cdLaw ctLaw), slLaw⟩) (cLaw : PySem.W.codeIn K cdLaw "law" = true) (kLaw : PySem.W.keepIn K (.ref fLaw) = true)
    (z_abs : PySem.W.nsIn K mainGlobals "abs" = some none) (z_len : PySem.W.nsIn K mainGlobals "len" = some none) (z_range : PySem.W.nsIn K mainGlobals "range" = some none) (z_int : PySem.W.nsIn K mainGlobals "int" = some none) (z_min : PySem.W.nsIn K mainGlobals "min" = some none) (z_max : PySem.W.nsIn K mainGlobals "max" = some none) (z_all : PySem.W.nsIn K mainGlobals "all" = some none) (z_tuple : PySem.W.nsIn K mainGlobals "tuple" = some none) (z_list : PySem.W.nsIn K mainGlobals "list" = some none) :
    ∃ fd : FuncData, (∀ (s : Shared) (v : Value), BindsTo s fd ⟨[v], []⟩ [("_law_script", v)]) ∧ ∀ base : Heap, K.In base → base.Ns mainGlobals mg → FnOk l.prog w K mg base CX0 8 fa fd ["_law_script"] (spLaw K) := by
  have e := hfa.symm.trans (PySem.W.mg_of X G aLaw)
  cases e
  have FDivisor := fun_mk (st := sDivisor) lDivisor cDivisor kDivisor
  have bDivisor := FDivisor.binds (ps := ["one", "other"]) fun _ _ _ _ _ _ us hl => match us, hl with | [_, _], _ => rfl
  have FFraction := fun_mk (st := sFraction) lFraction cFraction kFraction
  have bFraction := FFraction.binds (ps := ["top", "bottom"]) fun _ _ _ _ _ _ us hl => match us, hl with | [_, _], _ => rfl
  have FLess := fun_mk (st := sLess) lLess cLess kLess
  have bLess := FLess.binds (ps := ["one", "other"]) fun _ _ _ _ _ _ us hl => match us, hl with | [_, _], _ => rfl
  have FTimes := fun_mk (st := sTimes) lTimes cTimes kTimes
  have bTimes := FTimes.binds (ps := ["one", "other"]) fun _ _ _ _ _ _ us hl => match us, hl with | [_, _], _ => rfl
  have FIsLess := fun_mk (st := sIsLess) lIsLess cIsLess kIsLess
  have bIsLess := FIsLess.binds (ps := ["one", "other"]) fun _ _ _ _ _ _ us hl => match us, hl with | [_, _], _ => rfl
  have FIsAhead := fun_mk (st := sIsAhead) lIsAhead cIsAhead kIsAhead
  have bIsAhead := FIsAhead.binds (ps := ["one", "other"]) fun _ _ _ _ _ _ us hl => match us, hl with | [_, _], _ => rfl
  have FAlong := fun_mk (st := sAlong) lAlong cAlong kAlong
  have bAlong := FAlong.binds (ps := ["wall"]) fun _ _ _ _ _ _ us hl => match us, hl with | [_], _ => rfl
  have FCrossed := fun_mk (st := sCrossed) lCrossed cCrossed kCrossed
  have bCrossed := FCrossed.binds (ps := ["one", "other"]) fun _ _ _ _ _ _ us hl => match us, hl with | [_, _], _ => rfl
  have FLeaning := fun_mk (st := sLeaning) lLeaning cLeaning kLeaning
  have bLeaning := FLeaning.binds (ps := ["one", "other"]) fun _ _ _ _ _ _ us hl => match us, hl with | [_, _], _ => rfl
  have FSideOf := fun_mk (st := sSideOf) lSideOf cSideOf kSideOf
  have bSideOf := FSideOf.binds (ps := ["wall", "spot"]) fun _ _ _ _ _ _ us hl => match us, hl with | [_, _], _ => rfl
  have FSpans := fun_mk (st := sSpans) lSpans cSpans kSpans
  have bSpans := FSpans.binds (ps := ["wall", "spot"]) fun _ _ _ _ _ _ us hl => match us, hl with | [_, _], _ => rfl
  have FBoth := fun_mk (st := sBoth) lBoth cBoth kBoth
  have bBoth := FBoth.binds (ps := ["one", "other"]) fun _ _ _ _ _ _ us hl => match us, hl with | [_, _], _ => rfl
  have FParting := fun_mk (st := sParting) lParting cParting kParting
  have bParting := FParting.binds (ps := ["one", "other"]) fun _ _ _ _ _ _ us hl => match us, hl with | [_, _], _ => rfl
  have FIsAbove := fun_mk (st := sIsAbove) lIsAbove cIsAbove kIsAbove
  have bIsAbove := FIsAbove.binds (ps := ["one", "other"]) fun _ _ _ _ _ _ us hl => match us, hl with | [_, _], _ => rfl
  have FCell := fun_mk (st := sCell) lCell cCell kCell
  have bCell := FCell.binds (ps := ["_law_script", "_law_k"]) fun _ _ _ _ _ _ us hl => match us, hl with | [_, _], _ => rfl
  have FTake := fun_mk (st := sTake) lTake cTake kTake
  have bTake := FTake.binds (ps := ["_law_row", "_law_base"]) fun _ _ _ _ _ _ us hl => match us, hl with | [_, _], _ => rfl
  have FLow := fun_mk (st := sLow) lLow cLow kLow
  have bLow := FLow.binds (ps := ["_law_top", "_law_bottom"]) fun _ _ _ _ _ _ us hl => match us, hl with | [_, _], _ => rfl
  have FScale := fun_mk (st := sScale) lScale cScale kScale
  have bScale := FScale.binds (ps := ["_law_row"]) fun _ _ _ _ _ _ us hl => match us, hl with | [_], _ => rfl
  have FSpot := fun_mk (st := sSpot) lSpot cSpot kSpot
  have bSpot := FSpot.binds (ps := ["_law_scale_here", "_law_unit"]) fun _ _ _ _ _ _ us hl => match us, hl with | [_, _], _ => rfl
  have FMade := fun_mk (st := sMade) lMade cMade kMade
  have bMade := FMade.binds (ps := ["_law_scale_here", "_law_shuts"]) fun _ _ _ _ _ _ us hl => match us, hl with | [_, _], _ => rfl
  have FTurn := fun_mk (st := sTurn) lTurn cTurn kTurn
  have bTurn := FTurn.binds (ps := ["_law_one", "_law_two", "_law_three"]) fun _ _ _ _ _ _ us hl => match us, hl with | [_, _, _], _ => rfl
  have FOn := fun_mk (st := sOn) lOn cOn kOn
  have bOn := FOn.binds (ps := ["_law_shut", "_law_spot_here"]) fun _ _ _ _ _ _ us hl => match us, hl with | [_, _], _ => rfl
  have FFair := fun_mk (st := sFair) lFair cFair kFair
  have bFair := FFair.binds (ps := ["_law_one", "_law_other"]) fun _ _ _ _ _ _ us hl => match us, hl with | [_, _], _ => rfl
  have FShuts := fun_mk (st := sShuts) lShuts cShuts kShuts
  have bShuts := FShuts.binds (ps := ["_law_row", "_law_most", "_law_size"]) fun _ _ _ _ _ _ us hl => match us, hl with | [_, _, _], _ => rfl
  have FRow3 := fun_mk (st := sRow3) lRow3 cRow3 kRow3
  have bRow3 := FRow3.binds (ps := ["_law_plot", "_law_table"]) fun _ _ _ _ _ _ us hl => match us, hl with | [_, _], _ => rfl
  have FLaw := fun_mk (st := sLaw) lLaw cLaw kLaw
  have bLaw := FLaw.binds (ps := ["_law_script"]) fun _ _ _ _ _ _ us hl => match us, hl with | [_], _ => rfl
  let T : Txt K mg := {
    fDivisor := fDivisor, dDivisor := _, tDivisor := ⟨FDivisor, bDivisor, PySem.W.mg_of X G aDivisor⟩,
    fFraction := fFraction, dFraction := _, tFraction := ⟨FFraction, bFraction, PySem.W.mg_of X G aFraction⟩,
    fLess := fLess, dLess := _, tLess := ⟨FLess, bLess, PySem.W.mg_of X G aLess⟩,
    fTimes := fTimes, dTimes := _, tTimes := ⟨FTimes, bTimes, PySem.W.mg_of X G aTimes⟩,
    fIsLess := fIsLess, dIsLess := _, tIsLess := ⟨FIsLess, bIsLess, PySem.W.mg_of X G aIsLess⟩,
    fIsAhead := fIsAhead, dIsAhead := _, tIsAhead := ⟨FIsAhead, bIsAhead, PySem.W.mg_of X G aIsAhead⟩,
    fAlong := fAlong, dAlong := _, tAlong := ⟨FAlong, bAlong, PySem.W.mg_of X G aAlong⟩,
    fCrossed := fCrossed, dCrossed := _, tCrossed := ⟨FCrossed, bCrossed, PySem.W.mg_of X G aCrossed⟩,
    fLeaning := fLeaning, dLeaning := _, tLeaning := ⟨FLeaning, bLeaning, PySem.W.mg_of X G aLeaning⟩,
    fSideOf := fSideOf, dSideOf := _, tSideOf := ⟨FSideOf, bSideOf, PySem.W.mg_of X G aSideOf⟩,
    fSpans := fSpans, dSpans := _, tSpans := ⟨FSpans, bSpans, PySem.W.mg_of X G aSpans⟩,
    fBoth := fBoth, dBoth := _, tBoth := ⟨FBoth, bBoth, PySem.W.mg_of X G aBoth⟩,
    fParting := fParting, dParting := _, tParting := ⟨FParting, bParting, PySem.W.mg_of X G aParting⟩,
    fIsAbove := fIsAbove, dIsAbove := _, tIsAbove := ⟨FIsAbove, bIsAbove, PySem.W.mg_of X G aIsAbove⟩,
    fCell := fCell, dCell := _, tCell := ⟨FCell, bCell, PySem.W.mg_of X G aCell⟩,
    fTake := fTake, dTake := _, tTake := ⟨FTake, bTake, PySem.W.mg_of X G aTake⟩,
    fLow := fLow, dLow := _, tLow := ⟨FLow, bLow, PySem.W.mg_of X G aLow⟩,
    fScale := fScale, dScale := _, tScale := ⟨FScale, bScale, PySem.W.mg_of X G aScale⟩,
    fSpot := fSpot, dSpot := _, tSpot := ⟨FSpot, bSpot, PySem.W.mg_of X G aSpot⟩,
    fMade := fMade, dMade := _, tMade := ⟨FMade, bMade, PySem.W.mg_of X G aMade⟩,
    fTurn := fTurn, dTurn := _, tTurn := ⟨FTurn, bTurn, PySem.W.mg_of X G aTurn⟩,
    fOn := fOn, dOn := _, tOn := ⟨FOn, bOn, PySem.W.mg_of X G aOn⟩,
    fFair := fFair, dFair := _, tFair := ⟨FFair, bFair, PySem.W.mg_of X G aFair⟩,
    fShuts := fShuts, dShuts := _, tShuts := ⟨FShuts, bShuts, PySem.W.mg_of X G aShuts⟩,
    fRow3 := fRow3, dRow3 := _, tRow3 := ⟨FRow3, bRow3, PySem.W.mg_of X G aRow3⟩,
    fLaw := fa, dLaw := _, tLaw := ⟨FLaw, bLaw, PySem.W.mg_of X G aLaw⟩,
    m_abs := PySem.W.mg_none_of X G z_abs,
    m_len := PySem.W.mg_none_of X G z_len,
    m_range := PySem.W.mg_none_of X G z_range,
    m_int := PySem.W.mg_none_of X G z_int,
    m_min := PySem.W.mg_none_of X G z_min,
    m_max := PySem.W.mg_none_of X G z_max,
    m_all := PySem.W.mg_none_of X G z_all,
    m_tuple := PySem.W.mg_none_of X G z_tuple,
    m_list := PySem.W.mg_none_of X G z_list }
  exact ⟨_, fun s v => .of_eq rfl, fun base _ _ => ok_law T⟩
end K16
open PySem PySem.W PyProof.Rows
set_option maxRecDepth 100000 in
set_option maxHeartbeats 0 in
theorem PySem.Challenge.cw_spotlook_k16_whole_above_goes_nowhere_ro_holds : PySem.Challenge.rw_spotlook_k16_whole_above_goes_nowhere_ro.Holds := by
  w_on; o_law; k_head; (case hw => w_witness2)
  k_fill
  refine L2.walk_of (l := PySem.Challenge.rw_spotlook_k16_whole_above_goes_nowhere_ro) (n := 63) (k := 8) (x := "_law_script") (CX := fun _ => L2.CX0) (sp := fun w => K16.spLaw _) rfl (by decide) rfl ⟨rfl, by decide, by decide⟩ (fun w h Y => PySem.W.kIn_of Y) ?F (fun _ _ a ns hl _ hS => ⟨a, ns, rfl, hS, hl, fun _ => rfl⟩) (fun _ _ _ _ _ h => h)
  case F =>
    intro w mg fa h KX G hmg
    refine' K16.all_mk KX G hmg ?aDivisor ?lDivisor ?cDivisor ?kDivisor ?aFraction ?lFraction ?cFraction ?kFraction ?aLess ?lLess ?cLess ?kLess ?aTimes ?lTimes ?cTimes ?kTimes ?aIsLess ?lIsLess ?cIsLess ?kIsLess ?aIsAhead ?lIsAhead ?cIsAhead ?kIsAhead ?aAlong ?lAlong ?cAlong ?kAlong ?aCrossed ?lCrossed ?cCrossed ?kCrossed ?aLeaning ?lLeaning ?cLeaning ?kLeaning ?aSideOf ?lSideOf ?cSideOf ?kSideOf ?aSpans ?lSpans ?cSpans ?kSpans ?aBoth ?lBoth ?cBoth ?kBoth ?aParting ?lParting ?cParting ?kParting ?aIsAbove ?lIsAbove ?cIsAbove ?kIsAbove ?aCell ?lCell ?cCell ?kCell ?aTake ?lTake ?cTake ?kTake ?aLow ?lLow ?cLow ?kLow ?aScale ?lScale ?cScale ?kScale ?aSpot ?lSpot ?cSpot ?kSpot ?aMade ?lMade ?cMade ?kMade ?aTurn ?lTurn ?cTurn ?kTurn ?aOn ?lOn ?cOn ?kOn ?aFair ?lFair ?cFair ?kFair ?aShuts ?lShuts ?cShuts ?kShuts ?aRow3 ?lRow3 ?cRow3 ?kRow3 ?aLaw ?lLaw ?cLaw ?kLaw ?z_abs ?z_len ?z_range ?z_int ?z_min ?z_max ?z_all ?z_tuple ?z_list
    (case aDivisor => k_is)
    (case lDivisor => k_is)
    (case cDivisor => k_is)
    (case kDivisor => k_is)
    (case aFraction => k_is)
    (case lFraction => k_is)
    (case cFraction => k_is)
    (case kFraction => k_is)
    (case aLess => k_is)
    (case lLess => k_is)
    (case cLess => k_is)
    (case kLess => k_is)
    (case aTimes => k_is)
    (case lTimes => k_is)
    (case cTimes => k_is)
    (case kTimes => k_is)
    (case aIsLess => k_is)
    (case lIsLess => k_is)
    (case cIsLess => k_is)
    (case kIsLess => k_is)
    (case aIsAhead => k_is)
    (case lIsAhead => k_is)
    (case cIsAhead => k_is)
    (case kIsAhead => k_is)
    (case aAlong => k_is)
    (case lAlong => k_is)
    (case cAlong => k_is)
    (case kAlong => k_is)
    (case aCrossed => k_is)
    (case lCrossed => k_is)
    (case cCrossed => k_is)
    (case kCrossed => k_is)
    (case aLeaning => k_is)
    (case lLeaning => k_is)
    (case cLeaning => k_is)
    (case kLeaning => k_is)
    (case aSideOf => k_is)
    (case lSideOf => k_is)
    (case cSideOf => k_is)
    (case kSideOf => k_is)
    (case aSpans => k_is)
    (case lSpans => k_is)
    (case cSpans => k_is)
    (case kSpans => k_is)
    (case aBoth => k_is)
    (case lBoth => k_is)
    (case cBoth => k_is)
    (case kBoth => k_is)
    (case aParting => k_is)
    (case lParting => k_is)
    (case cParting => k_is)
    (case kParting => k_is)
    (case aIsAbove => k_is)
    (case lIsAbove => k_is)
    (case cIsAbove => k_is)
    (case kIsAbove => k_is)
    (case aCell => k_is)
    (case lCell => k_is)
    (case cCell => k_is)
    (case kCell => k_is)
    (case aTake => k_is)
    (case lTake => k_is)
    (case cTake => k_is)
    (case kTake => k_is)
    (case aLow => k_is)
    (case lLow => k_is)
    (case cLow => k_is)
    (case kLow => k_is)
    (case aScale => k_is)
    (case lScale => k_is)
    (case cScale => k_is)
    (case kScale => k_is)
    (case aSpot => k_is)
    (case lSpot => k_is)
    (case cSpot => k_is)
    (case kSpot => k_is)
    (case aMade => k_is)
    (case lMade => k_is)
    (case cMade => k_is)
    (case kMade => k_is)
    (case aTurn => k_is)
    (case lTurn => k_is)
    (case cTurn => k_is)
    (case kTurn => k_is)
    (case aOn => k_is)
    (case lOn => k_is)
    (case cOn => k_is)
    (case kOn => k_is)
    (case aFair => k_is)
    (case lFair => k_is)
    (case cFair => k_is)
    (case kFair => k_is)
    (case aShuts => k_is)
    (case lShuts => k_is)
    (case cShuts => k_is)
    (case kShuts => k_is)
    (case aRow3 => k_is)
    (case lRow3 => k_is)
    (case cRow3 => k_is)
    (case kRow3 => k_is)
    (case aLaw => k_is)
    (case lLaw => k_is)
    (case cLaw => k_is)
    (case kLaw => k_is)
    (case z_abs => k_is)
    (case z_len => k_is)
    (case z_range => k_is)
    (case z_int => k_is)
    (case z_min => k_is)
    (case z_max => k_is)
    (case z_all => k_is)
    (case z_tuple => k_is)
    (case z_list => k_is)
