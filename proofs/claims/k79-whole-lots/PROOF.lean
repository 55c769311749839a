import PyProof.Rows.All
import Wide.All
import OpenK.AllK
import Wide.FinOn
import HandS.ForMost
import HandS.HeadHook1
import HandS.Property
import HandS.Gcd
import HandS.Wide
import HandS.IsInst
import HandS.Defaults
import HandS.Deep
import HandS.Style
import HandS.WideBits
import HandS.Conv
import HandS.HeadHook2
import KE.KStateDown
import HandS.Head0
import HandS.Head1
import HandS.Head2
import HandS.Head3
import HandS.OwnEq
import KE.KOpsOwn
import KE.GoesEnum
import HandS.Zip
import HandS.TupAny
import KE.DataMinMax
import HandS.NamedTupSort
import KE.SortData
import HandS.HeadEnd
import PySem.Challenge.RW_neverlouder_k79_whole_lots_of_tolds
/-! text GQ -/
/-! Gaussian rationals and their lowest-terms triples. -/
namespace NL
structure GQ where
  re : Rat
  im : Rat
deriving DecidableEq
namespace GQ
theorem ext' {x y : GQ} (h1 : x.re = y.re) (h2 : x.im = y.im) : x = y := by
  cases x; cases y; simp at h1 h2; rw [h1, h2]
def add (x y : GQ) : GQ := ⟨x.re + y.re, x.im + y.im⟩
def sub (x y : GQ) : GQ := ⟨x.re - y.re, x.im - y.im⟩
def mul (x y : GQ) : GQ := ⟨x.re * y.re - x.im * y.im, x.re * y.im + x.im * y.re⟩
def conj (x : GQ) : GQ := ⟨x.re, -x.im⟩
/-- the size -/
def sz (x : GQ) : Rat := x.re * x.re + x.im * x.im
def div (x y : GQ) : GQ := ⟨(x.re * y.re + x.im * y.im) / y.sz, (x.im * y.re - x.re * y.im) / y.sz⟩
def ofInt (n : Int) : GQ := ⟨n, 0⟩
instance : Add GQ := ⟨add⟩
instance : Sub GQ := ⟨sub⟩
instance : Mul GQ := ⟨mul⟩
instance : Div GQ := ⟨div⟩
@[grind =] theorem add_re (x y : GQ) : (x + y).re = x.re + y.re := rfl
@[grind =] theorem add_im (x y : GQ) : (x + y).im = x.im + y.im := rfl
@[grind =] theorem sub_re (x y : GQ) : (x - y).re = x.re - y.re := rfl
@[grind =] theorem sub_im (x y : GQ) : (x - y).im = x.im - y.im := rfl
@[grind =] theorem mul_re (x y : GQ) : (x * y).re = x.re * y.re - x.im * y.im := rfl
@[grind =] theorem mul_im (x y : GQ) : (x * y).im = x.re * y.im + x.im * y.re := rfl
@[grind =] theorem conj_re (x : GQ) : x.conj.re = x.re := rfl
@[grind =] theorem conj_im (x : GQ) : x.conj.im = -x.im := rfl
@[grind =] theorem div_re (x y : GQ) : (x / y).re = (x.re * y.re + x.im * y.im) / y.sz := rfl
@[grind =] theorem div_im (x y : GQ) : (x / y).im = (x.im * y.re - x.re * y.im) / y.sz := rfl
@[grind =] theorem sz_eq (x : GQ) : x.sz = x.re * x.re + x.im * x.im := rfl
@[grind =] theorem ofInt_re (n : Int) : (ofInt n).re = (n : Rat) := rfl
@[grind =] theorem ofInt_im (n : Int) : (ofInt n).im = 0 := rfl
end GQ

theorem sq_nonneg (a : Rat) : 0 ≤ a * a := by
  rcases Rat.le_total (a := 0) (b := a) with h | h
  · exact Rat.mul_nonneg h h
  · have h' : 0 ≤ -a := by grind
    have := Rat.mul_nonneg h' h'
    grind
theorem sq_pos {a : Rat} (h : a ≠ 0) : 0 < a * a := by
  have h1 := sq_nonneg a
  have h2 : a * a ≠ 0 := by
    intro e
    rcases Rat.mul_eq_zero.mp e with h3 | h3 <;> exact h h3
  grind
theorem GQ.sz_nonneg (x : GQ) : 0 ≤ x.sz := by
  have h1 := sq_nonneg x.re
  have h2 := sq_nonneg x.im
  rw [GQ.sz_eq]; grind
theorem GQ.sz_pos {x : GQ} (h : x ≠ GQ.ofInt 0) : 0 < x.sz := by
  have h1 := sq_nonneg x.re
  have h2 := sq_nonneg x.im
  rw [GQ.sz_eq]
  by_cases e1 : x.re = 0
  · by_cases e2 : x.im = 0
    · exact absurd (GQ.ext' (by rw [e1]; rfl) (by rw [e2]; rfl)) h
    · have := sq_pos e2; grind
  · have := sq_pos e1; grind

/-- the lowest-terms triple -/
def nrm (l r w : Int) (v : GQ) : Prop := 0 < w ∧ Nat.gcd (Nat.gcd l.natAbs w.natAbs) r.natAbs = 1 ∧ v.re * w = l ∧ v.im * w = r
/-- a triple of the same worth -/
def rep (l r w : Int) (v : GQ) : Prop := 0 < w ∧ v.re * w = l ∧ v.im * w = r
theorem nrm.rep {l r w : Int} {v : GQ} (h : nrm l r w v) : NL.rep l r w v := ⟨h.1, h.2.2⟩

theorem cast_pos {w : Int} (h : 0 < w) : (0 : Rat) < (w : Rat) := by exact_mod_cast h
theorem cast_ne {w : Int} (h : 0 < w) : (w : Rat) ≠ 0 := by
  have := cast_pos h; grind
theorem cast_inj {a b : Int} (h : (a : Rat) = (b : Rat)) : a = b := by exact_mod_cast h

/-- cross products -/
theorem rep.cross {l r w l' r' w' : Int} {v : GQ} (h : rep l r w v) (h' : rep l' r' w' v) : l * w' = l' * w ∧ r * w' = r' * w := by
  obtain ⟨_, h1, h2⟩ := h
  obtain ⟨_, h3, h4⟩ := h'
  constructor
  · refine cast_inj ?_
    rw [Rat.intCast_mul, Rat.intCast_mul, ← h1, ← h3]; grind
  · refine cast_inj ?_
    rw [Rat.intCast_mul, Rat.intCast_mul, ← h2, ← h4]; grind
/-- a lowest-terms triple goes into each -/
theorem nrm.dvd {l r w l' r' w' : Int} {v : GQ} (h : nrm l r w v) (h' : NL.rep l' r' w' v) : ∃ k : Nat, 0 < k ∧ w' = w * k ∧ l' = l * k ∧ r' = r * k := by
  obtain ⟨c1, c2⟩ := h.rep.cross h'
  have hw := h.1
  have hw' := h'.1
  have a1 : l.natAbs * w'.natAbs = l'.natAbs * w.natAbs := by rw [← Int.natAbs_mul, ← Int.natAbs_mul, c1]
  have a2 : r.natAbs * w'.natAbs = r'.natAbs * w.natAbs := by rw [← Int.natAbs_mul, ← Int.natAbs_mul, c2]
  have d : w.natAbs ∣ w'.natAbs := by
    have e : Nat.gcd (Nat.gcd (l.natAbs * w'.natAbs) (w.natAbs * w'.natAbs)) (r.natAbs * w'.natAbs) = w'.natAbs := by
      rw [Nat.gcd_mul_right, Nat.gcd_mul_right, h.2.1, Nat.one_mul]
    rw [← e, a1, a2]
    refine Nat.dvd_gcd (Nat.dvd_gcd (Nat.dvd_mul_left _ _) (Nat.dvd_mul_right _ _)) (Nat.dvd_mul_left _ _)
  obtain ⟨k, hk⟩ := d
  have ew : w' = w * k := by
    have z : ((w'.natAbs : Nat) : Int) = ((w.natAbs * k : Nat) : Int) := by rw [hk]
    have e1 : ((w.natAbs : Nat) : Int) = w := by omega
    rw [Int.natCast_mul, e1] at z
    omega
  have k0 : 0 < k := by
    rcases Nat.eq_zero_or_pos k with e | e
    · subst e; simp at ew; omega
    · exact e
  refine ⟨k, k0, ew, ?_, ?_⟩
  · have q : l' * w = (l * k) * w := by rw [← c1, ew]; grind
    exact Int.eq_of_mul_eq_mul_right (by omega) q
  · have q : r' * w = (r * k) * w := by rw [← c2, ew]; grind
    exact Int.eq_of_mul_eq_mul_right (by omega) q
theorem nrm.uniq {l r w l' r' w' : Int} {v : GQ} (h : nrm l r w v) (h' : nrm l' r' w' v) : l = l' ∧ r = r' ∧ w = w' := by
  obtain ⟨k, k0, e1, e2, e3⟩ := h.dvd h'.rep
  obtain ⟨j, j0, f1, f2, f3⟩ := h'.dvd h.rep
  have hk : k = 1 := by
    have hw := h.1
    rw [f1] at e1
    have : w' * (j * k : Nat) = w' * 1 := by rw [Int.natCast_mul]; grind
    have z := Int.eq_of_mul_eq_mul_left (by have := h'.1; omega) this
    have z' : j * k = 1 := by exact_mod_cast z
    exact Nat.dvd_one.mp ⟨j, by rw [Nat.mul_comm]; exact z'.symm⟩
  subst hk
  simp at e1 e2 e3
  exact ⟨e2.symm, e3.symm, e1.symm⟩
theorem nrm.inj {l r w : Int} {v v' : GQ} (h : nrm l r w v) (h' : nrm l r w v') : v = v' := by
  obtain ⟨hw, _, h1, h2⟩ := h
  obtain ⟨_, _, h3, h4⟩ := h'
  have := cast_ne hw
  refine GQ.ext' ?_ ?_ <;> grind
/-- brought to lowest terms -/
theorem rep.norm {l r w : Int} {v : GQ} (h : rep l r w v) {g : Int} (hg : g = (Nat.gcd (Nat.gcd l.natAbs w.natAbs) r.natAbs : Nat)) : 0 < g ∧ nrm (l / g) (r / g) (w / g) v := by
  have hw := h.1
  have w0 : 0 < w.natAbs := by omega
  have g0 : 0 < Nat.gcd (Nat.gcd l.natAbs w.natAbs) r.natAbs := Nat.gcd_pos_of_pos_left _ (Nat.gcd_pos_of_pos_right _ w0)
  have gp : 0 < g := by omega
  have d1 : g ∣ l := by rw [hg]; exact Int.ofNat_dvd_left.mpr (Nat.dvd_trans (Nat.gcd_dvd_left _ _) (Nat.gcd_dvd_left _ _))
  have d2 : g ∣ w := by rw [hg]; exact Int.ofNat_dvd_left.mpr (Nat.dvd_trans (Nat.gcd_dvd_left _ _) (Nat.gcd_dvd_right _ _))
  have d3 : g ∣ r := by rw [hg]; exact Int.ofNat_dvd_left.mpr (Nat.gcd_dvd_right _ _)
  obtain ⟨l1, el⟩ := d1
  obtain ⟨w1, ew⟩ := d2
  obtain ⟨r1, er⟩ := d3
  have gne : g ≠ 0 := by omega
  have e1 : l / g = l1 := by rw [el]; exact Int.mul_ediv_cancel_left _ gne
  have e2 : w / g = w1 := by rw [ew]; exact Int.mul_ediv_cancel_left _ gne
  have e3 : r / g = r1 := by rw [er]; exact Int.mul_ediv_cancel_left _ gne
  rw [e1, e2, e3]
  refine ⟨gp, ?_, ?_, ?_, ?_⟩
  · have : 0 < g * w1 := by omega
    exact Int.pos_of_mul_pos_right this gp
  · have q : Nat.gcd (Nat.gcd l.natAbs w.natAbs) r.natAbs = g.natAbs * Nat.gcd (Nat.gcd l1.natAbs w1.natAbs) r1.natAbs := by
      rw [el, ew, er, Int.natAbs_mul, Int.natAbs_mul, Int.natAbs_mul, Nat.gcd_mul_left, Nat.gcd_mul_left]
    have q2 : g.natAbs * 1 = g.natAbs * Nat.gcd (Nat.gcd l1.natAbs w1.natAbs) r1.natAbs := by
      rw [← q, Nat.mul_one, hg]; rfl
    exact (Nat.eq_of_mul_eq_mul_left (by omega) q2).symm
  · have q := h.2.1
    rw [el, ew, Rat.intCast_mul, Rat.intCast_mul] at q
    have := cast_ne gp
    grind
  · have q := h.2.2
    rw [er, ew, Rat.intCast_mul, Rat.intCast_mul] at q
    have := cast_ne gp
    grind
theorem rat_den (v : Rat) : v * ((v.den : Int) : Rat) = (v.num : Rat) := by
  have h := v.den_nz
  have e : v = mkRat v.num v.den := (Rat.mkRat_self v).symm
  rw [Rat.mkRat_eq_div] at e
  have hc : ((v.den : Int) : Rat) ≠ 0 := by
    intro z
    have : (v.den : Int) = 0 := by exact_mod_cast z
    omega
  have e2 : v = (v.num : Rat) / ((v.den : Int) : Rat) := e
  have := Rat.div_mul_cancel (a := (v.num : Rat)) hc
  calc v * ((v.den : Int) : Rat) = ((v.num : Rat) / ((v.den : Int) : Rat)) * ((v.den : Int) : Rat) := by rw [← e2]
    _ = _ := this
theorem rep_ex (v : GQ) : ∃ l r w, rep l r w v := by
  refine ⟨v.re.num * v.im.den, v.im.num * v.re.den, v.re.den * v.im.den, ?_, ?_, ?_⟩
  · have h1 := v.re.den_pos
    have h2 := v.im.den_pos
    exact Int.mul_pos (by omega) (by omega)
  · have := rat_den v.re
    rw [Rat.intCast_mul, Rat.intCast_mul]
    grind
  · have := rat_den v.im
    rw [Rat.intCast_mul, Rat.intCast_mul]
    grind
theorem nrm_ex (v : GQ) : ∃ l r w, nrm l r w v := by
  obtain ⟨l, r, w, h⟩ := rep_ex v
  exact ⟨_, _, _, (h.norm rfl).2⟩
theorem rep.zero_l {l r w : Int} {v : GQ} (h : rep l r w v) : l = 0 ↔ v.re = 0 := by
  obtain ⟨hw, h1, _⟩ := h
  have := cast_ne hw
  constructor
  · intro e; rw [e] at h1
    have h2 : v.re * (w : Rat) = 0 := by rw [h1]; rfl
    rcases Rat.mul_eq_zero.mp h2 with z | z
    · exact z
    · exact absurd z this
  · intro e; rw [e] at h1
    refine cast_inj ?_
    rw [← h1]; grind
theorem rep.zero_r {l r w : Int} {v : GQ} (h : rep l r w v) : r = 0 ↔ v.im = 0 := by
  obtain ⟨hw, _, h1⟩ := h
  have := cast_ne hw
  constructor
  · intro e; rw [e] at h1
    have h2 : v.im * (w : Rat) = 0 := by rw [h1]; rfl
    rcases Rat.mul_eq_zero.mp h2 with z | z
    · exact z
    · exact absurd z this
  · intro e; rw [e] at h1
    refine cast_inj ?_
    rw [← h1]; grind
theorem rep.pos_l {l r w : Int} {v : GQ} (h : rep l r w v) : 0 < l ↔ 0 < v.re := by
  obtain ⟨hw, h1, _⟩ := h
  have w0 := cast_pos hw
  constructor
  · intro e
    have l0 : (0 : Rat) < (l : Rat) := cast_pos e
    rcases Rat.le_total (a := v.re) (b := 0) with z | z
    · have : v.re * (w : Rat) ≤ 0 := by
        have := Rat.mul_nonneg (a := -v.re) (b := (w : Rat)) (by grind) (by grind)
        grind
      grind
    · have : v.re ≠ 0 := by intro e; rw [e] at h1; grind
      grind
  · intro e
    have := Rat.mul_pos e w0
    rw [h1] at this
    exact_mod_cast this
theorem rep.neg_l {l r w : Int} {v : GQ} (h : rep l r w v) : l < 0 ↔ v.re < 0 := by
  have a := h.pos_l
  have b := h.zero_l
  constructor
  · intro e
    have h1 : ¬ (0 < v.re) := fun z => by have := a.mpr z; omega
    have h2 : v.re ≠ 0 := fun z => by have := b.mpr z; omega
    grind
  · intro e
    have h1 : ¬ (0 < l) := fun z => by have := a.mp z; grind
    have h2 : l ≠ 0 := fun z => by have := b.mp z; grind
    omega

/-! ### operations on triples -/
theorem rep.add {l r w l' r' w' : Int} {x y : GQ} (h : rep l r w x) (h' : rep l' r' w' y) : rep (l * w' + l' * w) (r * w' + r' * w) (w * w') (x + y) := by
  obtain ⟨a, b, c⟩ := h
  obtain ⟨a', b', c'⟩ := h'
  refine ⟨Int.mul_pos a a', ?_, ?_⟩ <;> simp only [Rat.intCast_mul, Rat.intCast_add, GQ.add_re, GQ.add_im] <;> grind
theorem rep.sub {l r w l' r' w' : Int} {x y : GQ} (h : rep l r w x) (h' : rep l' r' w' y) : rep (l * w' - l' * w) (r * w' - r' * w) (w * w') (x - y) := by
  obtain ⟨a, b, c⟩ := h
  obtain ⟨a', b', c'⟩ := h'
  refine ⟨Int.mul_pos a a', ?_, ?_⟩ <;> simp only [Rat.intCast_mul, Rat.intCast_sub, GQ.sub_re, GQ.sub_im] <;> grind
theorem rep.mul {l r w l' r' w' : Int} {x y : GQ} (h : rep l r w x) (h' : rep l' r' w' y) : rep (l * l' - r * r') (l * r' + r * l') (w * w') (x * y) := by
  obtain ⟨a, b, c⟩ := h
  obtain ⟨a', b', c'⟩ := h'
  refine ⟨Int.mul_pos a a', ?_, ?_⟩ <;> simp only [Rat.intCast_mul, Rat.intCast_sub, Rat.intCast_add, GQ.mul_re, GQ.mul_im] <;> grind
theorem rep.conj {l r w : Int} {x : GQ} (h : rep l r w x) : rep l (0 - r) w x.conj := by
  obtain ⟨a, b, c⟩ := h
  refine ⟨a, ?_, ?_⟩ <;> simp only [Rat.intCast_sub, GQ.conj_re, GQ.conj_im] <;> grind
theorem nrm.conj {l r w : Int} {x : GQ} (h : nrm l r w x) : nrm l (0 - r) w x.conj := by
  obtain ⟨a, b, c⟩ := h.rep.conj
  refine ⟨a, ?_, b, c⟩
  have := h.2.1
  have e : (0 - r).natAbs = r.natAbs := by omega
  rw [e]; exact this
theorem rep.div {l r w l' r' w' : Int} {x y : GQ} (h : rep l r w x) (h' : rep l' r' w' y) (hy : y ≠ GQ.ofInt 0) :
    rep ((l * l' + r * r') * w') ((r * l' - l * r') * w') (w * (l' * l' + r' * r')) (x / y) := by
  obtain ⟨a, b, c⟩ := h
  have hl := h'.zero_l
  have hr := h'.zero_r
  obtain ⟨a', b', c'⟩ := h'
  have s0 := GQ.sz_pos hy
  have m0 : 0 < l' * l' + r' * r' := by
    have : l' ≠ 0 ∨ r' ≠ 0 := by
      by_cases e1 : l' = 0
      · by_cases e2 : r' = 0
        · exact absurd (GQ.ext' (by rw [hl.mp e1]; rfl) (by rw [hr.mp e2]; rfl)) hy
        · exact .inr e2
      · exact .inl e1
    have p1 : 0 ≤ l' * l' := by
      rcases Int.le_total 0 l' with z | z
      · exact Int.mul_nonneg z z
      · exact Int.mul_nonneg_of_nonpos_of_nonpos z z
    have p2 : 0 ≤ r' * r' := by
      rcases Int.le_total 0 r' with z | z
      · exact Int.mul_nonneg z z
      · exact Int.mul_nonneg_of_nonpos_of_nonpos z z
    rcases this with z | z
    · have := Int.mul_ne_zero z z; omega
    · have := Int.mul_ne_zero z z; omega
  have e : (y.re * w') * (y.re * w') + (y.im * w') * (y.im * w') = y.sz * (w' * w') := by rw [GQ.sz_eq]; grind
  have sn : y.sz ≠ 0 := by grind
  refine ⟨Int.mul_pos a m0, ?_, ?_⟩ <;> simp only [Rat.intCast_mul, Rat.intCast_sub, Rat.intCast_add, GQ.div_re, GQ.div_im]
  · rw [← b, ← c, ← b', ← c', e]; grind
  · rw [← b, ← c, ← b', ← c', e]; grind
theorem rep_int (n : Int) : rep n 0 1 (GQ.ofInt n) := by
  refine ⟨by decide, ?_, ?_⟩
  · show (n : Rat) * ((1 : Int) : Rat) = (n : Rat)
    rw [Rat.intCast_one]; grind
  · show (0 : Rat) * ((1 : Int) : Rat) = ((0 : Int) : Rat)
    rw [Rat.intCast_one, Rat.intCast_zero]; grind
theorem nrm_int (n : Int) : nrm n 0 1 (GQ.ofInt n) := ⟨(rep_int n).1, by simp, (rep_int n).2⟩

/-! ### sizes -/
/-- all three numbers below 2 ^ k -/
def Bd (k : Nat) (v : GQ) : Prop := ∀ l r w, nrm l r w v → l.natAbs < 2 ^ k ∧ r.natAbs < 2 ^ k ∧ w.natAbs < 2 ^ k
theorem rep.bd {l r w : Int} {v : GQ} {k : Nat} (h : rep l r w v) (h1 : l.natAbs < 2 ^ k) (h2 : r.natAbs < 2 ^ k) (h3 : w.natAbs < 2 ^ k) : Bd k v := fun l' r' w' h' => by
  obtain ⟨j, j0, e1, e2, e3⟩ := h'.dvd h
  have m : ∀ a : Nat, a ≤ a * j := fun a => Nat.le_mul_of_pos_right a j0
  have q1 : w.natAbs = w'.natAbs * j := by rw [e1, Int.natAbs_mul]; rfl
  have q2 : l.natAbs = l'.natAbs * j := by rw [e2, Int.natAbs_mul]; rfl
  have q3 : r.natAbs = r'.natAbs * j := by rw [e3, Int.natAbs_mul]; rfl
  have := m w'.natAbs
  have := m l'.natAbs
  have := m r'.natAbs
  omega
theorem Bd.mono {j k : Nat} {v : GQ} (h : Bd j v) (hk : j ≤ k) : Bd k v := fun l r w n => by
  obtain ⟨a, b, c⟩ := h l r w n
  have := Nat.pow_le_pow_right (n := 2) (by decide) hk
  omega
theorem mul_lt {a b : Int} {i j : Nat} (h : a.natAbs < 2 ^ i) (h' : b.natAbs < 2 ^ j) : (a * b).natAbs < 2 ^ (i + j) := by
  rw [Int.natAbs_mul, Nat.pow_add]
  exact Nat.mul_lt_mul'' h h'
theorem add_lt {a b : Int} {i : Nat} (h : a.natAbs < 2 ^ i) (h' : b.natAbs < 2 ^ i) : (a + b).natAbs < 2 ^ (i + 1) := by
  rw [Nat.pow_succ]; omega
theorem sub_lt {a b : Int} {i : Nat} (h : a.natAbs < 2 ^ i) (h' : b.natAbs < 2 ^ i) : (a - b).natAbs < 2 ^ (i + 1) := by
  rw [Nat.pow_succ]; omega
theorem lt_mono {a : Nat} {i j : Nat} (h : a < 2 ^ i) (hk : i ≤ j) : a < 2 ^ j := Nat.lt_of_lt_of_le h (Nat.pow_le_pow_right (by decide) hk)
theorem Bd.add {i j : Nat} {x y : GQ} (hx : Bd i x) (hy : Bd j y) : Bd (i + j + 1) (x + y) := by
  obtain ⟨l, r, w, n⟩ := nrm_ex x
  obtain ⟨l', r', w', n'⟩ := nrm_ex y
  obtain ⟨a, b, c⟩ := hx _ _ _ n
  obtain ⟨a', b', c'⟩ := hy _ _ _ n'
  refine (n.rep.add n'.rep).bd (add_lt (mul_lt a c') ?_) (add_lt (mul_lt b c') ?_) (lt_mono (mul_lt c c') (by omega))
  · rw [Nat.add_comm]; exact mul_lt a' c
  · rw [Nat.add_comm]; exact mul_lt b' c
theorem Bd.sub {i j : Nat} {x y : GQ} (hx : Bd i x) (hy : Bd j y) : Bd (i + j + 1) (x - y) := by
  obtain ⟨l, r, w, n⟩ := nrm_ex x
  obtain ⟨l', r', w', n'⟩ := nrm_ex y
  obtain ⟨a, b, c⟩ := hx _ _ _ n
  obtain ⟨a', b', c'⟩ := hy _ _ _ n'
  refine (n.rep.sub n'.rep).bd (sub_lt (mul_lt a c') ?_) (sub_lt (mul_lt b c') ?_) (lt_mono (mul_lt c c') (by omega))
  · rw [Nat.add_comm]; exact mul_lt a' c
  · rw [Nat.add_comm]; exact mul_lt b' c
theorem Bd.mul {i j : Nat} {x y : GQ} (hx : Bd i x) (hy : Bd j y) : Bd (i + j + 1) (x * y) := by
  obtain ⟨l, r, w, n⟩ := nrm_ex x
  obtain ⟨l', r', w', n'⟩ := nrm_ex y
  obtain ⟨a, b, c⟩ := hx _ _ _ n
  obtain ⟨a', b', c'⟩ := hy _ _ _ n'
  exact (n.rep.mul n'.rep).bd (sub_lt (mul_lt a a') (mul_lt b b')) (add_lt (mul_lt a b') (mul_lt b a')) (lt_mono (mul_lt c c') (by omega))
theorem Bd.conj {i : Nat} {x : GQ} (hx : Bd i x) : Bd i x.conj := by
  obtain ⟨l, r, w, n⟩ := nrm_ex x
  obtain ⟨a, b, c⟩ := hx _ _ _ n
  exact n.rep.conj.bd a (by omega) c
theorem Bd.div {i j : Nat} {x y : GQ} (hx : Bd i x) (hy : Bd j y) (h0 : y ≠ GQ.ofInt 0) : Bd (i + 2 * j + 1) (x / y) := by
  obtain ⟨l, r, w, n⟩ := nrm_ex x
  obtain ⟨l', r', w', n'⟩ := nrm_ex y
  obtain ⟨a, b, c⟩ := hx _ _ _ n
  obtain ⟨a', b', c'⟩ := hy _ _ _ n'
  refine (n.rep.div n'.rep h0).bd (lt_mono (mul_lt (add_lt (mul_lt a a') (mul_lt b b')) c') (by omega)) (lt_mono (mul_lt (sub_lt (i := i + j) ?_ ?_) c') (by omega)) (lt_mono (mul_lt c (add_lt (mul_lt a' a') (mul_lt b' b'))) (by omega))
  · exact mul_lt b a'
  · exact mul_lt a b'
theorem bd_int {n : Int} {k : Nat} (h : n.natAbs < 2 ^ k) (h0 : 0 < k) : Bd k (GQ.ofInt n) :=
  (rep_int n).bd h (Nat.lt_of_lt_of_le (by decide) (Nat.pow_le_pow_right (n := 2) (by decide) (Nat.zero_le k))) (by
    have := Nat.pow_le_pow_right (n := 2) (by decide) h0
    show 1 < 2 ^ k
    omega)
end NL

/-! text DL1 -/
set_option Elab.async false
set_option linter.all false
set_option maxRecDepth 100000
set_option maxHeartbeats 4000000
/-! The D-layer: values as plain data. G is what is known for good (never changed), below the heap H; H0 is the heap at the def's entry. -/
namespace NL
open PySem PySem.Spec L2

inductive D where
  | non | bl (b : Bool) | int (i : Int) | str (x : Str) | ty (n : String)
  | num (v : GQ) | rat (q : Rat) | parts (l r w : Int)
  | lst (xs : List D) | tup (xs : List D) | dict | pot | cls (x : Str) | adr (p : Addr) | walk (rows : List D) (left : D) | ol (xs : List D) | ob (p C : Addr) (fs : List (Str × V)) | scr (ns : List Int)
def noOl : D → Bool
  | .ol _ => false
  | .ob _ _ _ => false
  | _ => true
abbrev Env := List (Option D)

def potMark : HO := .tbl #[]
theorem pot_lst {xs : List V} : HO.lst xs ≠ potMark := fun h => nomatch h
theorem pot_tup {xs : List V} : HO.tup xs ≠ potMark := fun h => nomatch h
def fNum (l r w : Int) : List (Str × V) := putF "own_low" (.int w) (putF "own_side" (.int r) (putF "own_plain" (.int l) []))
def fRat (t b : Int) : List (Str × V) := putF "own_bottom" (.int b) (putF "own_top" (.int t) [])
def fWalk (a b c : V) : List (Str × V) := putF "own_left" c (putF "own_weights" b (putF "own_values" a []))
def fPar (l r w : Int) : List (Str × V) := putF "own_below" (.int w) (putF "own_right" (.int r) (putF "own_left" (.int l) []))

inductive Da (K : PySem.W.Frag) (G : Hp) : V → D → Prop
  | non : Da K G .non .non
  | bl (b : Bool) : Da K G (.bl b) (.bl b)
  | int (i : Int) : Da K G (.int i) (.int i)
  | str (x : Str) : Da K G (.str x) (.str x)
  | ty (n : String) : Da K G (.ty n) (.ty n)
  | num {p dx : Addr} {l r w : Int} {v : GQ} : G p = some (.ins (He.ga K "Twin") dx (fNum l r w)) → nrm l r w v → Da K G (.ref p) (.num v)
  | rat {p dx : Addr} {t b : Int} {q : Rat} : G p = some (.ins (He.ga K "Ratio") dx (fRat t b)) → nrm t 0 b ⟨q, 0⟩ → Da K G (.ref p) (.rat q)
  | parts {p dx : Addr} {l r w : Int} : G p = some (.ins (He.ga K "Parts") dx (fPar l r w)) → Da K G (.ref p) (.parts l r w)
  | lst {p : Addr} {vs : List V} {ds : List D} : G p = some (.lst vs) → vs.length = ds.length → (∀ (i : Nat) v d, vs[i]? = some v → ds[i]? = some d → Da K G v d) → Da K G (.ref p) (.lst ds)
  | tup {p : Addr} {vs : List V} {ds : List D} : G p = some (.tup vs) → vs.length = ds.length → (∀ (i : Nat) v d, vs[i]? = some v → ds[i]? = some d → Da K G v d) → Da K G (.ref p) (.tup ds)
  | dict {p : Addr} : G p = some (.dK []) → Da K G (.ref p) .dict
  | pot {p : Addr} : G p = some potMark → Da K G (.ref p) .pot
  | cls (x : Str) : Da K G (.ref (He.ga K x)) (.cls x)
  | adr (p : Addr) : Da K G (.ref p) (.adr p)
  | walk {p a dx : Addr} {b c : V} {vs : List V} {ds : List D} {left : D} : G p = some (.ins (He.ga K "Walk") dx (fWalk (.ref a) b c)) → G a = some (.lst vs) → vs.length = ds.length → (∀ (i : Nat) v d, vs[i]? = some v → ds[i]? = some d → Da K G v d) → Da K G c left → Da K G (.ref p) (.walk ds left)
  | scrF {p : Addr} {o : Obj} {ns : List Int} : G p = some (.frz o (.lst (ns.map V.int))) → Da K G (.ref p) (.scr ns)
  | scrK {p : Addr} {ns : List Int} : (∀ H : Hp, SqL K H p (ns.map V.int)) → Da K G (.ref p) (.scr ns)

/-- two lists, place by place -/
def DaL (K : PySem.W.Frag) (G : Hp) (vs : List V) (ds : List D) : Prop := vs.length = ds.length ∧ ∀ (i : Nat) v d, vs[i]? = some v → ds[i]? = some d → Da K G v d

structure Ex (G G' : Hp) : Prop where
  go : ∀ a o, G a = some o → G' a = some o
theorem Ex.refl (G : Hp) : Ex G G := ⟨fun _ _ h => h⟩
theorem Ex.trans {G G1 G2 : Hp} (a : Ex G G1) (b : Ex G1 G2) : Ex G G2 := ⟨fun x o h => b.go x o (a.go x o h)⟩
theorem Ex.upd {G : Hp} {p : Addr} {o : HO} (h : G p = none) : Ex G (upd G p o) := ⟨fun a u e => by
  rw [upd_ne (ne_of_none e h)]; exact e⟩
theorem Da.mono {K : PySem.W.Frag} {G G' : Hp} (e : Ex G G') {v : V} {d : D} (h : Da K G v d) : Da K G' v d := by
  induction h with
  | non => exact .non
  | bl b => exact .bl b
  | int i => exact .int i
  | str x => exact .str x
  | ty n => exact .ty n
  | num a b => exact .num (e.go _ _ a) b
  | rat a b => exact .rat (e.go _ _ a) b
  | parts a => exact .parts (e.go _ _ a)
  | lst a b c ih => exact .lst (e.go _ _ a) b ih
  | tup a b c ih => exact .tup (e.go _ _ a) b ih
  | dict a => exact .dict (e.go _ _ a)
  | pot a => exact .pot (e.go _ _ a)
  | cls x => exact .cls x
  | adr p => exact .adr p
  | walk a b c d f ih1 ih2 => exact .walk (e.go _ _ a) (e.go _ _ b) c ih1 ih2
  | scrF a => exact .scrF (e.go _ _ a)
  | scrK a => exact .scrK a
theorem DaL.mono {K : PySem.W.Frag} {G G' : Hp} (e : Ex G G') {vs : List V} {ds : List D} (h : DaL K G vs ds) : DaL K G' vs ds := ⟨h.1, fun i v d a b => (h.2 i v d a b).mono e⟩
theorem DaL.nil {K : PySem.W.Frag} {G : Hp} : DaL K G [] [] := ⟨rfl, fun i v d h => by simp at h⟩
theorem DaL.cons {K : PySem.W.Frag} {G : Hp} {v : V} {d : D} {vs : List V} {ds : List D} (h : Da K G v d) (t : DaL K G vs ds) : DaL K G (v :: vs) (d :: ds) := by
  refine ⟨by simp [t.1], fun i x y a b => ?_⟩
  cases i with
  | zero => simp at a b; subst a b; exact h
  | succ i => exact t.2 i x y (by simpa using a) (by simpa using b)
theorem DaL.snoc {K : PySem.W.Frag} {G : Hp} {v : V} {d : D} {vs : List V} {ds : List D} (t : DaL K G vs ds) (h : Da K G v d) : DaL K G (vs ++ [v]) (ds ++ [d]) := by
  refine ⟨by simp [t.1], fun i x y a b => ?_⟩
  by_cases hi : i < vs.length
  · rw [List.getElem?_append_left hi] at a
    rw [List.getElem?_append_left (by rw [← t.1]; exact hi)] at b
    exact t.2 i x y a b
  · have hl : i = vs.length := by
      have := (List.getElem?_eq_some_iff.mp a).1
      simp at this; omega
    subst hl
    rw [List.getElem?_append_right (Nat.le_refl _)] at a
    rw [t.1, List.getElem?_append_right (Nat.le_refl _)] at b
    simp at a b; subst a b; exact h
theorem DaL.at_ {K : PySem.W.Frag} {G : Hp} {vs : List V} {ds : List D} (t : DaL K G vs ds) {i : Nat} {d : D} (h : ds[i]? = some d) : ∃ v, vs[i]? = some v ∧ Da K G v d := by
  have hi : i < vs.length := by rw [t.1]; exact (List.getElem?_eq_some_iff.mp h).1
  exact ⟨vs[i], by simp [hi], t.2 i _ d (by simp [hi]) h⟩
theorem DaL.cases_cons {K : PySem.W.Frag} {G : Hp} {vs : List V} {d : D} {ds : List D} (t : DaL K G vs (d :: ds)) : ∃ v vs', vs = v :: vs' ∧ Da K G v d ∧ DaL K G vs' ds := by
  cases vs with
  | nil => have := t.1; simp at this
  | cons v vs' => exact ⟨v, vs', rfl, t.2 0 v d rfl rfl, by have := t.1; simpa using this, fun i x y a b => t.2 (i + 1) x y (by simpa using a) (by simpa using b)⟩
theorem DaL.cases_nil {K : PySem.W.Frag} {G : Hp} {vs : List V} (t : DaL K G vs []) : vs = [] := by
  cases vs with
  | nil => rfl
  | cons v vs' => have := t.1; simp at this
theorem DaL.appd {K : PySem.W.Frag} {G : Hp} {vs vs' : List V} {ds ds' : List D} (t : DaL K G vs ds) (t' : DaL K G vs' ds') : DaL K G (vs ++ vs') (ds ++ ds') := by
  refine ⟨by simp [t.1, t'.1], fun i x y a b => ?_⟩
  by_cases hi : i < vs.length
  · rw [List.getElem?_append_left hi] at a
    rw [List.getElem?_append_left (by rw [← t.1]; exact hi)] at b
    exact t.2 i x y a b
  · rw [List.getElem?_append_right (by omega)] at a
    rw [List.getElem?_append_right (by rw [← t.1]; omega), ← t.1] at b
    exact t'.2 _ x y a b
theorem DaL.take {K : PySem.W.Frag} {G : Hp} {vs : List V} {ds : List D} (t : DaL K G vs ds) (n : Nat) : DaL K G (vs.take n) (ds.take n) := by
  refine ⟨by simp [t.1], fun i x y a b => ?_⟩
  rw [List.getElem?_take] at a b
  by_cases h : i < n
  · rw [if_pos h] at a b; exact t.2 i x y a b
  · rw [if_neg h] at a; cases a
theorem DaL.drop {K : PySem.W.Frag} {G : Hp} {vs : List V} {ds : List D} (t : DaL K G vs ds) (n : Nat) : DaL K G (vs.drop n) (ds.drop n) := by
  refine ⟨by simp [t.1], fun i x y a b => ?_⟩
  rw [List.getElem?_drop] at a b
  exact t.2 _ x y a b
theorem DaL.set {K : PySem.W.Frag} {G : Hp} {vs : List V} {ds : List D} (t : DaL K G vs ds) (n : Nat) {v : V} {d : D} (h : Da K G v d) : DaL K G (vs.set n v) (ds.set n d) := by
  refine ⟨by simp [t.1], fun i x y a b => ?_⟩
  rw [List.getElem?_set] at a b
  by_cases e : n = i
  · rw [if_pos e] at a b
    by_cases h1 : n < vs.length
    · rw [if_pos h1] at a; rw [if_pos (by rw [← t.1]; exact h1)] at b
      cases a; cases b; exact h
    · rw [if_neg h1] at a; cases a
  · rw [if_neg e] at a b; exact t.2 i x y a b
theorem Da.lst' {K : PySem.W.Frag} {G : Hp} {p : Addr} {vs : List V} {ds : List D} (h : G p = some (.lst vs)) (t : DaL K G vs ds) : Da K G (.ref p) (.lst ds) := .lst h t.1 t.2
theorem Da.tup' {K : PySem.W.Frag} {G : Hp} {p : Addr} {vs : List V} {ds : List D} (h : G p = some (.tup vs)) (t : DaL K G vs ds) : Da K G (.ref p) (.tup ds) := .tup h t.1 t.2

/-- what is known stands in the heap; a pot holds two ints -/
structure Le (G H : Hp) : Prop where
  at_ : ∀ a o, G a = some o → o ≠ potMark → H a = some o
  pot : ∀ a, G a = some potMark → ∃ i j : Int, H a = some (.lst [.int i, .int j]) ∧ 0 ≤ i ∧ 0 ≤ j ∧ j < 2 ^ 40
theorem Le.none {G H : Hp} (e : Le G H) {p : Addr} (h : H p = none) : G p = none := by
  cases q : G p with
  | none => rfl
  | some o =>
    by_cases ho : o = potMark
    · subst ho
      obtain ⟨i, j, e1, _⟩ := e.pot p q
      rw [h] at e1; cases e1
    · have := e.at_ p o q ho
      rw [h] at this; cases this
/-- from (G, H) to (G', H') -/
structure Tr (G H G' H' : Hp) : Prop where
  gg : Ex G G'
  ok : Le G' H'
  hh : ∀ a o, H a = some o → G a ≠ some potMark → H' a = some o
  pv : ∀ a o, H a = some o → G a = none → G' a = none
theorem Tr.refl {G H : Hp} (e : Le G H) : Tr G H G H := ⟨Ex.refl G, e, fun _ _ h _ => h, fun _ _ _ h => h⟩
theorem Tr.trans {G H G1 H1 G2 H2 : Hp} (a : Tr G H G1 H1) (b : Tr G1 H1 G2 H2) : Tr G H G2 H2 where
  gg := a.gg.trans b.gg
  ok := b.ok
  hh := fun x o h n => by
    refine b.hh x o (a.hh x o h n) fun z => ?_
    cases q : G x with
    | none => rw [a.pv x o h q] at z; cases z
    | some u => rw [a.gg.go x u q] at z; cases z; exact n q
  pv := fun x o h n => by
    have nm : G x ≠ some potMark := by rw [n]; exact fun z => nomatch z
    exact b.pv x o (a.hh x o h nm) (a.pv x o h n)
/-- a new object, known from now on -/
theorem Tr.new {G H : Hp} (e : Le G H) {p : Addr} {o : HO} (h : H p = none) (ho : o ≠ potMark) : Tr G H (upd G p o) (upd H p o) where
  gg := Ex.upd (e.none h)
  ok := ⟨fun a u q n => by
    by_cases hp : a = p
    · subst hp; rw [upd_same] at q ⊢; exact q
    · rw [upd_ne hp] at q ⊢; exact e.at_ a u q n, fun a q => by
    by_cases hp : a = p
    · subst hp; rw [upd_same] at q; exact absurd (Option.some.inj q) ho
    · rw [upd_ne hp] at q ⊢; exact e.pot a q⟩
  hh := fun a u q _ => by rw [upd_ne (ne_of_none q h)]; exact q
  pv := fun a u q n => by rw [upd_ne (ne_of_none q h)]; exact n
/-- a new object, our own -/
theorem Tr.own {G H : Hp} (e : Le G H) {p : Addr} {o : HO} (h : H p = none) : Tr G H G (upd H p o) where
  gg := Ex.refl G
  ok := ⟨fun a u q n => by
    have := e.at_ a u q n
    rw [upd_ne (ne_of_none this h)]; exact this, fun a q => by
    obtain ⟨i, j, q1, q2⟩ := e.pot a q
    exact ⟨i, j, by rw [upd_ne (ne_of_none q1 h)]; exact q1, q2⟩⟩
  hh := fun a u q _ => by rw [upd_ne (ne_of_none q h)]; exact q
  pv := fun a u q n => n
/-- an object of our own (not there at the entry H0) is changed -/
theorem Tr.mut {G0 H0 G H : Hp} (t : Tr G0 H0 G H) {p : Addr} {o : HO} (h0 : H0 p = none) (hg : G p = none) : Tr G0 H0 G (upd H p o) where
  gg := t.gg
  ok := ⟨fun a u q n => by
    rw [upd_ne (ne_of_none q hg)]; exact t.ok.at_ a u q n, fun a q => by
    rw [upd_ne (ne_of_none q hg)]; exact t.ok.pot a q⟩
  hh := fun a u q n => by rw [upd_ne (ne_of_none q h0)]; exact t.hh a u q n
  pv := t.pv
/-- an object of our own is known from now on -/
theorem Tr.frz {G0 H0 G H : Hp} (t : Tr G0 H0 G H) {p : Addr} {o : HO} (h0 : H0 p = none) (hg : G p = none) (hp : H p = some o) (ho : o ≠ potMark) : Tr G0 H0 (upd G p o) H where
  gg := t.gg.trans (Ex.upd hg)
  ok := ⟨fun a u q n => by
    by_cases e : a = p
    · subst e; rw [upd_same] at q; rw [hp]; exact q
    · rw [upd_ne e] at q; exact t.ok.at_ a u q n, fun a q => by
    by_cases e : a = p
    · subst e; rw [upd_same] at q; exact absurd (Option.some.inj q) ho
    · rw [upd_ne e] at q; exact t.ok.pot a q⟩
  hh := t.hh
  pv := fun a u q n => by rw [upd_ne (ne_of_none q h0)]; exact t.pv a u q n

/-- a value is a datum: known for good, or a list of our own -/
def Is (K : PySem.W.Frag) (H0 G H : Hp) (v : V) (d : D) : Prop := match d with
  | .ol ds => ∃ p vs, v = .ref p ∧ H0 p = none ∧ G p = none ∧ H p = some (.lst vs) ∧ DaL K G vs ds
  | .ob p C fs => v = .ref p ∧ H0 p = none ∧ G p = none ∧ ∃ dx, H p = some (.ins C dx fs)
  | d => Da K G v d
theorem Is.of {K : PySem.W.Frag} {H0 G H : Hp} {v : V} {d : D} (h : Da K G v d) : Is K H0 G H v d := by
  cases h <;> first
    | exact .non | exact .bl _ | exact .int _ | exact .str _ | exact .ty _ | exact .cls _ | exact .adr _
    | (apply Da.num <;> assumption) | (apply Da.rat <;> assumption) | (apply Da.parts; assumption) | (apply Da.lst <;> assumption) | (apply Da.tup <;> assumption) | (apply Da.dict; assumption) | (apply Da.pot; assumption) | (apply Da.walk <;> assumption) | (apply Da.scrF; assumption) | (apply Da.scrK; assumption)
theorem Is.da {K : PySem.W.Frag} {H0 G H : Hp} {v : V} {d : D} (h : Is K H0 G H v d) (n : noOl d = true) : Da K G v d := by
  cases d <;> first | exact h | cases n
theorem Is.mono {K : PySem.W.Frag} {H0 G H G' H' : Hp} {v : V} {d : D} (t : Tr G H G' H') (h : Is K H0 G H v d) : Is K H0 G' H' v d := by
  cases d with
  | ol ds =>
    obtain ⟨p, vs, e, h0, hg, hp, hd⟩ := h
    exact ⟨p, vs, e, h0, t.pv p _ hp hg, t.hh p _ hp (by rw [hg]; exact fun z => nomatch z), hd.mono t.gg⟩
  | ob p C fs =>
    obtain ⟨e, h0, hg, dx, hp⟩ := h
    exact ⟨e, h0, t.pv p _ hp hg, dx, t.hh p _ hp (by rw [hg]; exact fun z => nomatch z)⟩
  | _ => exact Is.of (Da.mono t.gg h)
/-- the slots -/
structure Sl (K : PySem.W.Frag) (H0 G H : Hp) (σ : St) (ρ : Env) : Prop where
  len : σ.length = ρ.length
  at_ : ∀ (i : Nat) d, ρ[i]? = some (some d) → ∃ v, σ[i]? = some (some v) ∧ Is K H0 G H v d
  sep : ∀ (i j : Nat) d e p, i ≠ j → ρ[i]? = some (some d) → ρ[j]? = some (some e) → noOl d = false → noOl e = false → σ[i]? = some (some (.ref p)) → σ[j]? = some (some (.ref p)) → False
theorem Sl.mono {K : PySem.W.Frag} {H0 G H G' H' : Hp} {σ : St} {ρ : Env} (t : Tr G H G' H') (h : Sl K H0 G H σ ρ) : Sl K H0 G' H' σ ρ :=
  ⟨h.len, fun i d e => let ⟨v, a, b⟩ := h.at_ i d e; ⟨v, a, b.mono t⟩, h.sep⟩
theorem Sl.set {K : PySem.W.Frag} {H0 G H : Hp} {σ : St} {ρ : Env} (h : Sl K H0 G H σ ρ) {i : Nat} {v : V} {d : D} (hd : Da K G v d) : Sl K H0 G H (σ.set i (some v)) (ρ.set i (some d)) := by
  have nol : noOl d = true := by cases hd <;> rfl
  refine ⟨by simp [h.len], fun j e he => ?_, fun j k d1 e1 p hjk h1 h2 n1 n2 h3 h4 => ?_⟩
  · rw [List.getElem?_set] at he ⊢
    by_cases hij : i = j
    · rw [if_pos hij] at he ⊢
      by_cases hl : i < ρ.length
      · rw [if_pos hl] at he; rw [if_pos (by rw [h.len]; exact hl)]
        cases he; exact ⟨v, rfl, Is.of hd⟩
      · rw [if_neg hl] at he; cases he
    · rw [if_neg hij] at he ⊢; exact h.at_ j e he
  · rw [List.getElem?_set] at h1 h2 h3 h4
    by_cases a : i = j
    · rw [if_pos a] at h1
      by_cases hl : i < ρ.length
      · rw [if_pos hl] at h1; simp at h1; subst h1; rw [nol] at n1; cases n1
      · rw [if_neg hl] at h1; cases h1
    · by_cases b : i = k
      · rw [if_pos b] at h2
        by_cases hl : i < ρ.length
        · rw [if_pos hl] at h2; simp at h2; subst h2; rw [nol] at n2; cases n2
        · rw [if_neg hl] at h2; cases h2
      · rw [if_neg a] at h1 h3; rw [if_neg b] at h2 h4
        exact h.sep j k d1 e1 p hjk h1 h2 n1 n2 h3 h4
/-- less is known of the slots -/
theorem Sl.weak {K : PySem.W.Frag} {H0 G H : Hp} {σ : St} {ρ ρ' : Env} (h : Sl K H0 G H σ ρ) (hl : ρ'.length = ρ.length) (w : ∀ (i : Nat) d, ρ'[i]? = some (some d) → ρ[i]? = some (some d)) : Sl K H0 G H σ ρ' :=
  ⟨h.len.trans hl.symm, fun i d e => h.at_ i d (w i d e), fun i j ds es p n a b => h.sep i j ds es p n (w _ _ a) (w _ _ b)⟩
/-- a new list of our own in a slot -/
theorem Sl.setOwn {K : PySem.W.Frag} {H0 G H : Hp} {σ : L2.St} {ρ : Env} (h : Sl K H0 G H σ ρ) {i : Nat} {p : Addr} {d : D} (hp : Is K H0 G H (.ref p) d) (new : ∀ (j : Nat) e, ρ[j]? = some (some e) → noOl e = false → σ[j]? ≠ some (some (.ref p))) :
    Sl K H0 G H (σ.set i (some (.ref p))) (ρ.set i (some d)) := by
  refine ⟨by simp [h.len], fun j e he => ?_, fun j k d1 e1 q hjk h1 h2 n1 n2 h3 h4 => ?_⟩
  · rw [List.getElem?_set] at he ⊢
    by_cases hij : i = j
    · rw [if_pos hij] at he ⊢
      by_cases hl : i < ρ.length
      · rw [if_pos hl] at he; rw [if_pos (by rw [h.len]; exact hl)]
        cases he; exact ⟨_, rfl, hp⟩
      · rw [if_neg hl] at he; cases he
    · rw [if_neg hij] at he ⊢; exact h.at_ j e he
  · rw [List.getElem?_set] at h1 h2 h3 h4
    by_cases a : i = j
    · by_cases b : i = k
      · exact hjk (a.symm.trans b)
      · rw [if_neg b] at h2 h4
        rw [if_pos a] at h3
        by_cases hl : i < σ.length
        · rw [if_pos hl] at h3; simp at h3; rw [← h3] at h4; exact new k e1 h2 n2 h4
        · rw [if_neg hl] at h3; cases h3
    · rw [if_neg a] at h1 h3
      by_cases b : i = k
      · rw [if_pos b] at h4
        by_cases hl : i < σ.length
        · rw [if_pos hl] at h4; simp at h4; rw [← h4] at h3; exact new j d1 h1 n1 h3
        · rw [if_neg hl] at h4; cases h4
      · rw [if_neg b] at h2 h4
        exact h.sep j k d1 e1 q hjk h1 h2 n1 n2 h3 h4

/-! ### expressions -/
def tD (K : PySem.W.Frag) (ρ : Env) (S : D → Prop) : TE := fun σ H Q => ∃ G H0, Le G H ∧ Sl K H0 G H σ ρ ∧ ∀ G' H' v d, Tr G H G' H' → Is K H0 G' H' v d → S d → Q v H'
def tDT (K : PySem.W.Frag) (ρ : Env) (S : Bool → Prop) : TT := fun σ H Q => ∃ G H0, Le G H ∧ Sl K H0 G H σ ρ ∧ ∀ G' H' b, Tr G H G' H' → S b → Q b H'
def IsL (K : PySem.W.Frag) (H0 G H : Hp) : List V → List D → Prop
  | [], [] => True
  | v :: vs, d :: ds => Is K H0 G H v d ∧ IsL K H0 G H vs ds
  | _, _ => False
def tDA (K : PySem.W.Frag) (ρ : Env) (S : List D → Prop) : TA := fun σ H Q => ∃ G H0, Le G H ∧ Sl K H0 G H σ ρ ∧ ∀ G' H' vs ds, Tr G H G' H' → IsL K H0 G' H' vs ds → S ds → Q vs H'
theorem IsL.mono {K : PySem.W.Frag} {H0 G H G' H' : Hp} (t : Tr G H G' H') : ∀ {vs : List V} {ds : List D}, IsL K H0 G H vs ds → IsL K H0 G' H' vs ds
  | [], [], _ => trivial
  | _ :: _, _ :: _, h => ⟨h.1.mono t, IsL.mono t h.2⟩
abbrev XE (X : Cx) (e : Expr) (ρ : Env) (S : D → Prop) : Prop := PE X e (tD X.K ρ S)
abbrev XT (X : Cx) (e : Expr) (ρ : Env) (S : Bool → Prop) : Prop := PT X e (tDT X.K ρ S)
abbrev XA (X : Cx) (es : List Expr) (ρ : Env) (S : List D → Prop) : Prop := PA X es (tDA X.K ρ S)
abbrev XV (X : Cx) (e : Expr) (ρ : Env) (d : D) : Prop := XE X e ρ (fun z => z = d)
theorem pe_imp {X : Cx} {e : Expr} {t t' : TE} (h : PE X e t) (w : ∀ σ H Q, t' σ H Q → t σ H Q) : PE X e t' := ⟨fun pins s σ H Q I q => h.run pins s σ H Q I (w σ H Q q)⟩
theorem pt_imp {X : Cx} {e : Expr} {t t' : TT} (h : PT X e t) (w : ∀ σ H Q, t' σ H Q → t σ H Q) : PT X e t' := ⟨fun pins s σ H Q I q => h.run pins s σ H Q I (w σ H Q q)⟩
theorem pw_imp {X : Cx} {e : Expr} {t t' : TT} (h : PW X e t) (w : ∀ σ H Q, t' σ H Q → t σ H Q) : PW X e t' := ⟨fun W pins s σ H Q I q => h.run W pins s σ H Q I (w σ H Q q)⟩
theorem pa_imp {X : Cx} {e : List Expr} {t t' : TA} (h : PA X e t) (w : ∀ σ H Q, t' σ H Q → t σ H Q) : PA X e t' := ⟨fun pos pins s σ H Q I q => h.run pos pins s σ H Q I (w σ H Q q)⟩
theorem ps_imp {X : Cx} {st : Stmt} {t t' : TS} (h : PS X st t) (w : ∀ D σ H, t' D σ H → t D σ H) : PS X st t' := ⟨fun pins s σ H D I q => h.run pins s σ H D I (w D σ H q)⟩
theorem pss_imp {X : Cx} {st : List Stmt} {t t' : TS} (h : PSs X st t) (w : ∀ D σ H, t' D σ H → t D σ H) : PSs X st t' := ⟨fun pins s σ H D I q => h.run pins s σ H D I (w D σ H q)⟩

section
variable {X : Cx} {ρ : Env} {S : D → Prop} {pos : Pos}
theorem xe_imp {e : Expr} {S' : D → Prop} (h : XE X e ρ S') (w : ∀ d, S' d → S d) : XE X e ρ S :=
  pe_imp h fun σ H Q ⟨G, H0, l, sl, k⟩ => ⟨G, H0, l, sl, fun G' H' v d t i s => k G' H' v d t i (w d s)⟩
theorem xt_imp {e : Expr} {S S' : Bool → Prop} (h : XT X e ρ S') (w : ∀ d, S' d → S d) : XT X e ρ S :=
  pt_imp h fun σ H Q ⟨G, H0, l, sl, k⟩ => ⟨G, H0, l, sl, fun G' H' b t s => k G' H' b t (w b s)⟩
theorem xv_to {e : Expr} {d d' : D} (h : XV X e ρ d) (w : d = d') : XV X e ρ d' := w ▸ h
/-- constants -/
theorem xe_c {e : Expr} {v : V} {d : D} (h : PE X e (tC v)) (w : ∀ G, Da X.K G v d) (s : S d) : XE X e ρ S :=
  pe_imp h fun σ H Q ⟨G, H0, l, sl, k⟩ => k G H v d (Tr.refl l) (Is.of (w G)) s
theorem xe_var (i : Nat) {x : Str} {d : D} (h : ρ[i]? = some (some d)) (s : S d) (hN : X.N[i]? = some x := by rfl) (hv : Vis X.env.scope x := by first | exact Or.inl rfl | exact Or.inr (Or.inl rfl) | exact Or.inr (Or.inr rfl)) (hd : (x == ("__debug__" : Str)) = false := by decide)
    (hcd : (x == ("__classdict__" : Str)) = false := by decide) : XE X (.Name x pos) ρ S :=
  pe_imp (pe_var hN hv hd hcd) fun σ H Q ⟨G, H0, l, sl, k⟩ => let ⟨v, e, i⟩ := sl.at_ _ _ h; ⟨v, e, k G H v d (Tr.refl l) i s⟩
/-- two-place operations by values -/
def RD (K : PySem.W.Frag) (r : R2) (x y : D) (S : D → Prop) : Prop := ∀ H0 G H v u, Le G H → Is K H0 G H v x → Is K H0 G H u y → ∀ Q : VK, (∀ G' H' z d, Tr G H G' H' → Is K H0 G' H' z d → S d → Q z H') → r v u H Q
theorem xe_bin {e a b : Expr} {r : R2} {Sa Sb : D → Prop} (hp : ∀ {ta tb : TE}, PE X a ta → PE X b tb → PE X e (tOp r ta tb)) (ha : XE X a ρ Sa) (hb : XE X b ρ Sb) (h : ∀ x y, Sa x → Sb y → RD X.K r x y S) : XE X e ρ S := by
  refine pe_imp (hp ha hb) fun σ H Q ⟨G, H0, l, sl, k⟩ => ?_
  refine ⟨G, H0, l, sl, fun G1 H1 v x t1 i1 s1 => ?_⟩
  refine ⟨G1, H0, t1.ok, sl.mono t1, fun G2 H2 u y t2 i2 s2 => ?_⟩
  exact h x y s1 s2 H0 G2 H2 v u t2.ok (i1.mono t2) i2 Q fun G3 H3 z d t3 i3 s3 => k G3 H3 z d ((t1.trans t2).trans t3) i3 s3
theorem xe_op {a b : Expr} {op : Operator} {r : R2} {x y : D} (ho : OpR X (binaryOp op) r) (ha : XV X a ρ x) (hb : XV X b ρ y) (h : RD X.K r x y S) : XE X (.BinOp a op b pos) ρ S :=
  xe_bin (pe_op ho) ha hb fun _ _ e1 e2 => by rw [e1, e2]; exact h
theorem xe_cmp {a b : Expr} {op : CmpOp} {r : R2} {x y : D} (ho : OpR X (compareOp op) r) (ha : XV X a ρ x) (hb : XV X b ρ y) (h : RD X.K r x y S) (hm : behindInMarks op b = false := by rfl) : XE X (.Compare a [op] [b] pos) ρ S :=
  xe_bin (fun p q => pe_cmpR ho p q hm) ha hb fun _ _ e1 e2 => by rw [e1, e2]; exact h
theorem xe_ix {a b : Expr} {r : R2} {x y : D} (ho : IxR X r) (ha : XV X a ρ x) (hb : XV X b ρ y) (h : RD X.K r x y S) (hs : PlainIx b := by exact fun _ _ => rfl) : XE X (.Subscript a b pos) ρ S :=
  xe_bin (fun p q => pe_ix ho p q hs) ha hb fun _ _ e1 e2 => by rw [e1, e2]; exact h
/-- a test that is a True or a False -/
theorem xt_val {e : Expr} {b : Bool} (h : XV X e ρ (.bl b)) (he : ∀ whole, PySem.isTrue e X.env whole = (do let v ← whole; standAt e.pos; holding [v] (truthy v)) := by intro _; rfl) : XT X e ρ (fun z => z = b) := by
  refine pt_imp (pt_val h he) fun σ H Q ⟨G, H0, l, sl, k⟩ => ⟨G, H0, l, sl, fun G' H' v d t i s => ?_⟩
  subst s
  cases i
  exact ⟨b, rfl, k G' H' b t rfl⟩
theorem xt_cmp {a b : Expr} {op : CmpOp} {r : R2} {x y : D} {c : Bool} (ho : OpR X (compareOp op) r) (ha : XV X a ρ x) (hb : XV X b ρ y) (h : RD X.K r x y (fun z => z = .bl c)) (hm : behindInMarks op b = false := by rfl) : XT X (.Compare a [op] [b] pos) ρ (fun z => z = c) := by
  refine pt_imp (pt_cmpR ho ha hb hm) fun σ H Q ⟨G, H0, l, sl, k⟩ => ?_
  refine ⟨G, H0, l, sl, fun G1 H1 v x t1 i1 s1 => ?_⟩
  refine ⟨G1, H0, t1.ok, sl.mono t1, fun G2 H2 u y t2 i2 s2 => ?_⟩
  subst s1 s2
  refine h H0 G2 H2 v u t2.ok (i1.mono t2) i2 _ fun G3 H3 z d t3 i3 s3 => ?_
  subst s3
  cases i3
  exact ⟨c, rfl, k G3 H3 c ((t1.trans t2).trans t3) rfl⟩
theorem xt_not {e : Expr} {c : Bool} (h : XT X e ρ (fun z => z = c)) : XT X (.UnaryOp .Not e pos) ρ (fun z => z = !c) :=
  pt_imp (pt_not h) fun σ H Q ⟨G, H0, l, sl, k⟩ => ⟨G, H0, l, sl, fun G' H' b t s => by subst s; exact k G' H' _ t rfl⟩
theorem xe_not {e : Expr} {c : Bool} (h : XV X e ρ (.bl c)) : XV X (.UnaryOp .Not e pos) ρ (.bl (!c)) :=
  pe_imp (pe_not h) fun σ H Q ⟨G, H0, l, sl, k⟩ => ⟨G, H0, l, sl, fun G' H' v d t i s => by subst s; cases i; exact ⟨c, rfl, k G' H' _ _ t (Is.of (.bl _)) rfl⟩⟩
/-- a and b, as values -/
theorem xe_and {a b : Expr} {rest : List Expr} {c d : Bool} (ha : XV X a ρ (.bl c)) (hb : c = true → XV X (.BoolOp .And (b :: rest) pos) ρ (.bl d)) : XV X (.BoolOp .And (a :: b :: rest) pos) ρ (.bl (c && d)) := by
  cases c with
  | true =>
    refine pe_imp (pe_and ha (hb rfl)) fun σ H Q ⟨G, H0, l, sl, k⟩ => ⟨G, H0, l, sl, fun G' H' v z t i s => ?_⟩
    subst s; cases i
    refine ⟨true, rfl, iteT ?_⟩
    exact ⟨G', H0, t.ok, sl.mono t, fun G2 H2 v d t2 i2 s2 => k G2 H2 v d (t.trans t2) i2 (by simpa using s2)⟩
  | false =>
    refine pe_imp (pe_and ha (tb := fun _ _ _ => False) ⟨fun _ _ _ _ _ _ q => q.elim⟩) fun σ H Q ⟨G, H0, l, sl, k⟩ => ⟨G, H0, l, sl, fun G' H' v z t i s => ?_⟩
    subst s; cases i
    exact ⟨false, rfl, iteF (k G' H' _ _ t (Is.of (.bl _)) rfl)⟩
theorem xe_or {a b : Expr} {rest : List Expr} {c d : Bool} (ha : XV X a ρ (.bl c)) (hb : c = false → XV X (.BoolOp .Or (b :: rest) pos) ρ (.bl d)) : XV X (.BoolOp .Or (a :: b :: rest) pos) ρ (.bl (c || d)) := by
  cases c with
  | false =>
    refine pe_imp (pe_or ha (hb rfl)) fun σ H Q ⟨G, H0, l, sl, k⟩ => ⟨G, H0, l, sl, fun G' H' v z t i s => ?_⟩
    subst s; cases i
    refine ⟨false, rfl, iteF ?_⟩
    exact ⟨G', H0, t.ok, sl.mono t, fun G2 H2 v d t2 i2 s2 => k G2 H2 v d (t.trans t2) i2 (by simpa using s2)⟩
  | true =>
    refine pe_imp (pe_or ha (tb := fun _ _ _ => False) ⟨fun _ _ _ _ _ _ q => q.elim⟩) fun σ H Q ⟨G, H0, l, sl, k⟩ => ⟨G, H0, l, sl, fun G' H' v z t i s => ?_⟩
    subst s; cases i
    exact ⟨true, rfl, iteT (k G' H' _ _ t (Is.of (.bl _)) rfl)⟩
theorem xe_one {a : Expr} {op : BoolOp} (ha : XE X a ρ S) : XE X (.BoolOp op [a] pos) ρ S := pe_one ha
/-- a and b, as a test -/
theorem xt_and {a b : Expr} {rest : List Expr} {c d : Bool} (ha : XT X a ρ (fun z => z = c)) (hb : c = true → PW X (.BoolOp .And (b :: rest) pos) (tDT X.K ρ (fun z => z = d))) : PW X (.BoolOp .And (a :: b :: rest) pos) (tDT X.K ρ (fun z => z = (c && d))) := by
  cases c with
  | true =>
    refine pw_imp (pw_and ha (hb rfl)) fun σ H Q ⟨G, H0, l, sl, k⟩ => ⟨G, H0, l, sl, fun G' H' v t s => ?_⟩
    subst s
    exact iteT ⟨G', H0, t.ok, sl.mono t, fun G2 H2 d t2 s2 => k G2 H2 d (t.trans t2) (by simpa using s2)⟩
  | false =>
    refine pw_imp (pw_and ha (tB' := fun _ _ _ => False) ⟨fun _ _ _ _ _ _ _ q => q.elim⟩) fun σ H Q ⟨G, H0, l, sl, k⟩ => ⟨G, H0, l, sl, fun G' H' v t s => ?_⟩
    subst s
    exact iteF (k G' H' _ t rfl)
theorem xt_or {a b : Expr} {rest : List Expr} {c d : Bool} (ha : XT X a ρ (fun z => z = c)) (hb : c = false → PW X (.BoolOp .Or (b :: rest) pos) (tDT X.K ρ (fun z => z = d))) : PW X (.BoolOp .Or (a :: b :: rest) pos) (tDT X.K ρ (fun z => z = (c || d))) := by
  cases c with
  | false =>
    refine pw_imp (pw_or ha (hb rfl)) fun σ H Q ⟨G, H0, l, sl, k⟩ => ⟨G, H0, l, sl, fun G' H' v t s => ?_⟩
    subst s
    exact iteF ⟨G', H0, t.ok, sl.mono t, fun G2 H2 d t2 s2 => k G2 H2 d (t.trans t2) (by simpa using s2)⟩
  | true =>
    refine pw_imp (pw_or ha (tB' := fun _ _ _ => False) ⟨fun _ _ _ _ _ _ _ q => q.elim⟩) fun σ H Q ⟨G, H0, l, sl, k⟩ => ⟨G, H0, l, sl, fun G' H' v t s => ?_⟩
    subst s
    exact iteT (k G' H' _ t rfl)
theorem xe_if {a b c : Expr} {k : Bool} (hc : XT X c ρ (fun z => z = k)) (ha : k = true → XE X a ρ S) (hb : k = false → XE X b ρ S) : XE X (.IfExp c a b pos) ρ S := by
  cases k with
  | true =>
    refine pe_imp (pe_ifExp hc (ha rfl) (tb := fun _ _ _ => False) ⟨fun _ _ _ _ _ _ q => q.elim⟩) fun σ H Q ⟨G, H0, l, sl, k⟩ => ⟨G, H0, l, sl, fun G' H' v t s => ?_⟩
    subst s
    exact iteT ⟨G', H0, t.ok, sl.mono t, fun G2 H2 v d t2 i2 s2 => k G2 H2 v d (t.trans t2) i2 s2⟩
  | false =>
    refine pe_imp (pe_ifExp hc (ta := fun _ _ _ => False) ⟨fun _ _ _ _ _ _ q => q.elim⟩ (hb rfl)) fun σ H Q ⟨G, H0, l, sl, k⟩ => ⟨G, H0, l, sl, fun G' H' v t s => ?_⟩
    subst s
    exact iteF ⟨G', H0, t.ok, sl.mono t, fun G2 H2 v d t2 i2 s2 => k G2 H2 v d (t.trans t2) i2 s2⟩
/-- arguments -/
theorem xa_nil {S : List D → Prop} (s : S []) : XA X [] ρ S := pa_imp pa_nil fun σ H Q ⟨G, H0, l, sl, k⟩ => k G H [] [] (Tr.refl l) trivial s
theorem xa_cons' {e : Expr} {es : List Expr} {Sa : D → Prop} {Sr S : List D → Prop} (h : XE X e ρ Sa) (hr : XA X es ρ Sr) (w : ∀ d ds, Sa d → Sr ds → S (d :: ds)) (hs : starEach (e :: es) X.env = (false, eval e X.env) :: starEach es X.env := by rfl) : XA X (e :: es) ρ S :=
  pa_imp (pa_cons h hr hs) fun σ H Q ⟨G, H0, l, sl, k⟩ => ⟨G, H0, l, sl, fun G1 H1 v d t1 i1 s1 => ⟨G1, H0, t1.ok, sl.mono t1, fun G2 H2 vs ds t2 i2 s2 => k G2 H2 (v :: vs) (d :: ds) (t1.trans t2) ⟨i1.mono t2, i2⟩ (w d ds s1 s2)⟩⟩
abbrev XVA (X : Cx) (es : List Expr) (ρ : Env) (ds : List D) : Prop := XA X es ρ (fun z => z = ds)
theorem xva_nil : XVA X [] ρ [] := xa_nil rfl
theorem xva_cons {e : Expr} {es : List Expr} {d : D} {ds : List D} (h : XV X e ρ d) (hr : XVA X es ρ ds) (hs : starEach (e :: es) X.env = (false, eval e X.env) :: starEach es X.env := by rfl) : XVA X (e :: es) ρ (d :: ds) := xa_cons' h hr (fun _ _ a b => by rw [a, b]) hs
/-- calls of built-ins by values -/
def RC (K : PySem.W.Frag) (r : List V → Hp → VK → Prop) (ds : List D) (S : D → Prop) : Prop := ∀ H0 G H vs, Le G H → IsL K H0 G H vs ds → ∀ Q : VK, (∀ G' H' z d, Tr G H G' H' → Is K H0 G' H' z d → S d → Q z H') → r vs H Q
theorem xe_cb {e : Expr} {es : List Expr} {r : List V → Hp → VK → Prop} {ds : List D} (hp : ∀ {t : TA}, PA X es t → PE X e (tCB r t)) (ha : XVA X es ρ ds) (h : RC X.K r ds S) : XE X e ρ S :=
  pe_imp (hp ha) fun σ H Q ⟨G, H0, l, sl, k⟩ => ⟨G, H0, l, sl, fun G1 H1 vs ds t1 i1 s1 => by subst s1; exact h H0 G1 H1 vs t1.ok i1 Q fun G2 H2 z d t2 i2 s2 => k G2 H2 z d (t1.trans t2) i2 s2⟩
/-- new lists, tuples -/
theorem IsL.dal {K : PySem.W.Frag} {H0 G H : Hp} : ∀ {vs : List V} {ds : List D}, IsL K H0 G H vs ds → (∀ d ∈ ds, noOl d = true) → DaL K G vs ds
  | [], [], _, _ => DaL.nil
  | _ :: _, d :: _, h, n => DaL.cons (h.1.da (n d (List.mem_cons_self ..))) (IsL.dal h.2 fun e he => n e (List.mem_cons_of_mem _ he))
theorem IsL.len {K : PySem.W.Frag} {H0 G H : Hp} : ∀ {vs : List V} {ds : List D}, IsL K H0 G H vs ds → vs.length = ds.length
  | [], [], _ => rfl
  | _ :: _, _ :: _, h => by simp [IsL.len h.2]
theorem IsL.dal' {K : PySem.W.Frag} {H0 G H : Hp} {vs : List V} {ds : List D} (h : IsL K H0 G H vs ds) (n : ds.all noOl = true) : DaL K G vs ds := h.dal fun d hd => List.all_eq_true.mp n d hd
theorem xe_tup {es : List Expr} {Ss : List D → Prop} {x1} (h : XA X es ρ Ss) (w : ∀ ds, Ss ds → S (.tup ds) ∧ ds.all noOl = true ∧ ds.length ≤ 1000) : XE X (.Tuple es x1 pos) ρ S :=
  pe_imp (pe_tup h) fun σ H Q ⟨G, H0, l, sl, k⟩ => ⟨G, H0, l, sl, fun G1 H1 vs ds t1 i1 s1 => by
    obtain ⟨w1, w2, w3⟩ := w ds s1
    refine ⟨by rw [i1.len]; exact Nat.le_of_lt (small1000 w3), fun p hp => ?_⟩
    have t2 := Tr.new t1.ok hp (o := .tup vs) pot_tup
    exact k _ _ _ (.tup ds) (t1.trans t2) (Is.of (.tup' (by rw [upd_same]) ((i1.dal' w2).mono t2.gg))) w1⟩
theorem xv_tup {es : List Expr} {ds : List D} {x1} (h : XVA X es ρ ds) (w : ds.all noOl = true := by rfl) (w2 : ds.length ≤ 1000 := by exact Nat.le_of_ble_eq_true rfl) : XV X (.Tuple es x1 pos) ρ (.tup ds) :=
  xe_tup h fun _ e => by subst e; exact ⟨rfl, w, w2⟩
theorem xv_lst {es : List Expr} {ds : List D} (h : XVA X es ρ ds) (w : ds.all noOl = true := by rfl) (w2 : ds.length ≤ 1000 := by exact Nat.le_of_ble_eq_true rfl) : XV X (.List es pos) ρ (.lst ds) :=
  pe_imp (pe_lst h) fun σ H Q ⟨G, H0, l, sl, k⟩ => ⟨G, H0, l, sl, fun G1 H1 vs ds' t1 i1 s1 => by
    subst s1
    refine ⟨by rw [i1.len]; exact Nat.le_of_lt (small1000 w2), fun p hp => ?_⟩
    have t2 := Tr.new t1.ok hp (o := .lst vs) pot_lst
    exact k _ _ _ (.lst ds') (t1.trans t2) (Is.of (.lst' (by rw [upd_same]) ((i1.dal' w).mono t2.gg))) rfl⟩
end
end NL

/-! text DL2 -/
set_option Elab.async false
set_option linter.all false
set_option maxRecDepth 100000
set_option maxHeartbeats 4000000
/-! The D-layer: fresh lists, statements, loops, comprehensions, defs. -/
namespace NL
open PySem PySem.Spec L2

theorem Tr.rebase {G0 H0 G H : Hp} (t : Tr G0 H0 G H) : Tr G H0 G H where
  gg := Ex.refl G
  ok := t.ok
  hh := fun a o h n => t.hh a o h fun z => n (t.gg.go _ _ z)
  pv := fun _ _ _ n => n
theorem Tr.join {G0 H0 G H G1 H1 : Hp} (t : Tr G0 H0 G H) (u : Tr G H0 G1 H1) : Tr G0 H0 G1 H1 where
  gg := t.gg.trans u.gg
  ok := u.ok
  hh := fun a o h n => u.hh a o h fun z => by
    cases q : G0 a with
    | none => rw [t.pv a o h q] at z; cases z
    | some x => rw [t.gg.go _ _ q] at z; cases z; exact n q
  pv := fun a o h n => u.pv a o h (t.pv a o h n)

theorem is_ol {K : PySem.W.Frag} {H0 G H : Hp} {p : Addr} {vs : List V} {ds : List D} (h0 : H0 p = none) (hg : G p = none) (hh : H p = some (.lst vs)) (hd : DaL K G vs ds) : Is K H0 G H (.ref p) (.ol ds) := ⟨p, vs, rfl, h0, hg, hh, hd⟩
theorem is_ob {K : PySem.W.Frag} {H0 G H : Hp} {p C dx : Addr} {fs : List (Str × V)} (h0 : H0 p = none) (hg : G p = none) (hh : H p = some (.ins C dx fs)) : Is K H0 G H (.ref p) (.ob p C fs) := ⟨rfl, h0, hg, dx, hh⟩
/-- an own object stands in the heap -/
theorem Sl.ownAt {K : PySem.W.Frag} {H0 G H : Hp} {σ : L2.St} {ρ : Env} (sl : Sl K H0 G H σ ρ) {j : Nat} {e : D} (hj : ρ[j]? = some (some e)) (ne : noOl e = false) : ∃ q o, σ[j]? = some (some (.ref q)) ∧ H q = some o := by
  obtain ⟨v, hv, i⟩ := sl.at_ j e hj
  cases e with
  | ol ds => obtain ⟨q, ws, rfl, _, _, hq, _⟩ := i; exact ⟨q, _, hv, hq⟩
  | ob q C fs => obtain ⟨rfl, _, _, ws, hq⟩ := i; exact ⟨q, _, hv, hq⟩
  | _ => cases ne

/-! ### fresh lists -/
/-- a list just made: nobody else has it -/
def tDF (K : PySem.W.Frag) (ρ : Env) (S : List D → Prop) : TE := fun σ H Q => ∃ G H0, Le G H ∧ Sl K H0 G H σ ρ ∧ ∀ G' H' p vs ds, Tr G H G' H' → H p = none → G' p = none → H' p = some (.lst vs) → DaL K G' vs ds → S ds → Q (.ref p) H'
abbrev XF (X : Cx) (e : Expr) (ρ : Env) (S : List D → Prop) : Prop := PE X e (tDF X.K ρ S)
section
variable {X : Cx} {ρ : Env} {S : D → Prop} {pos : Pos}
/-- an own object is known from now on (its place was free ahead) -/
theorem Tr.frz' {G H G' H' : Hp} (t : Tr G H G' H') {p : Addr} {o : HO} (h0 : H p = none) (hg : G' p = none) (hp : H' p = some o) (ho : o ≠ potMark) : Tr G H (upd G' p o) H' := t.frz h0 hg hp ho
theorem xe_of_xf {e : Expr} {Sl' : List D → Prop} (h : XF X e ρ Sl') (w : ∀ ds, Sl' ds → S (.lst ds)) : XE X e ρ S :=
  pe_imp h fun σ H Q ⟨G, H0, l, sl, k⟩ => ⟨G, H0, l, sl, fun G' H' p vs ds t hp hg hh hd s => by
    have t2 := t.frz' hp hg hh pot_lst
    exact k _ _ _ (.lst ds) t2 (Is.of (.lst' (by rw [upd_same]) (hd.mono (Ex.upd hg)))) (w ds s)⟩
theorem xf_imp {e : Expr} {S S' : List D → Prop} (h : XF X e ρ S') (w : ∀ d, S' d → S d) : XF X e ρ S :=
  pe_imp h fun σ H Q ⟨G, H0, l, sl, k⟩ => ⟨G, H0, l, sl, fun G' H' p vs ds t a b c d s => k G' H' p vs ds t a b c d (w ds s)⟩
theorem xf_lst {es : List Expr} {ds : List D} (h : XVA X es ρ ds) (w : ds.all noOl = true := by rfl) (w2 : ds.length ≤ 1000 := by exact Nat.le_of_ble_eq_true rfl) : XF X (.List es pos) ρ (fun z => z = ds) :=
  pe_imp (pe_lst h) fun σ H Q ⟨G, H0, l, sl, k⟩ => ⟨G, H0, l, sl, fun G1 H1 vs ds' t1 i1 s1 => by
    subst s1
    refine ⟨by rw [i1.len]; exact Nat.le_of_lt (small1000 w2), fun p hp => ?_⟩
    have hp0 : H p = none := by
      cases q : H p with
      | none => rfl
      | some o =>
        by_cases z : G p = some potMark
        · obtain ⟨i, j, e, _⟩ := t1.ok.pot p (t1.gg.go _ _ z)
          rw [hp] at e; cases e
        · rw [t1.hh p o q z] at hp; cases hp
    have t2 := Tr.own t1.ok hp (o := .lst vs)
    exact k _ _ p vs ds' (t1.trans t2) hp0 (t1.ok.none hp) upd_same (i1.dal' w) rfl⟩

/-! ### statements -/
structure Out where
  nx : Env → Prop
  rt : D → Prop
  bk : Env → Prop := fun _ => False
  ct : Env → Prop := fun _ => False
def frz : D → D
  | .ol ds => .lst ds
  | d => d
theorem frz_of {d : D} (h : noOl d = true) : frz d = d := by cases d <;> first | rfl | cases h
def tDS (K : PySem.W.Frag) (ρ : Env) (Φ : Out) : TS := fun Dn σ H => ∃ G0 H0 G, Tr G0 H0 G H ∧ Sl K H0 G H σ ρ ∧
  (∀ G' H' σ' ρ', Tr G0 H0 G' H' → Sl K H0 G' H' σ' ρ' → Φ.nx ρ' → Dn.nx σ' H') ∧ (∀ G' H' σ' ρ', Tr G0 H0 G' H' → Sl K H0 G' H' σ' ρ' → Φ.bk ρ' → Dn.bk σ' H') ∧
  (∀ G' H' σ' ρ', Tr G0 H0 G' H' → Sl K H0 G' H' σ' ρ' → Φ.ct ρ' → Dn.ct σ' H') ∧ (∀ G' H' v d, Tr G0 H0 G' H' → Is K H0 G' H' v d → Φ.rt (frz d) → Dn.rt v H')
abbrev XS (X : Cx) (st : Stmt) (ρ : Env) (Φ : Out) : Prop := PS X st (tDS X.K ρ Φ)
abbrev XSs (X : Cx) (st : List Stmt) (ρ : Env) (Φ : Out) : Prop := PSs X st (tDS X.K ρ Φ)
/-- whatever the slots hold -/
def tAny (X : Cx) (sts : List Stmt) : TS := fun Dn σ H => ∃ ρ Φ, XSs X sts ρ Φ ∧ tDS X.K ρ Φ Dn σ H
theorem pss_any {sts : List Stmt} : PSs X sts (tAny X sts) := ⟨fun pins s σ H Dn I ⟨_, _, h, q⟩ => h.run pins s σ H Dn I q⟩
def tAnyT (X : Cx) (e : Expr) : TT := fun σ H Q => ∃ ρ S, XT X e ρ S ∧ tDT X.K ρ S σ H Q
theorem pt_any {e : Expr} : PT X e (tAnyT X e) := ⟨fun pins s σ H Q I ⟨_, _, h, q⟩ => h.run pins s σ H Q I q⟩
variable {Φ : Out}
theorem xss_nil (h : Φ.nx ρ) : XSs X [] ρ Φ := pss_imp pss_nil fun Dn σ H ⟨G0, H0, G, t, sl, k, _⟩ => k G H σ ρ t sl h
theorem xss_cons {st : Stmt} {rest : List Stmt} {M : Env → Prop} (h : XS X st ρ { Φ with nx := M }) (hr : ∀ ρ', M ρ' → XSs X rest ρ' Φ) : XSs X (st :: rest) ρ Φ :=
  pss_imp (pss_cons h pss_any) fun Dn σ H ⟨G0, H0, G, t, sl, k1, k2, k3, k4⟩ => ⟨G0, H0, G, t, sl, fun G' H' σ' ρ' t' sl' m => ⟨ρ', Φ, hr ρ' m, G0, H0, G', t', sl', k1, k2, k3, k4⟩, k2, k3, k4⟩
theorem xss_seq {st : Stmt} {rest : List Stmt} {ρ' : Env} (h : XS X st ρ { Φ with nx := fun z => z = ρ' }) (hr : XSs X rest ρ' Φ) : XSs X (st :: rest) ρ Φ := xss_cons h fun _ e => e ▸ hr
theorem xss_one {st : Stmt} (h : XS X st ρ Φ) : XSs X [st] ρ Φ := pss_one h
theorem xss_imp {sts : List Stmt} {Φ' : Out} (h : XSs X sts ρ Φ') (w1 : ∀ z, Φ'.nx z → Φ.nx z) (w2 : ∀ z, Φ'.rt z → Φ.rt z) (w3 : ∀ z, Φ'.bk z → Φ.bk z) (w4 : ∀ z, Φ'.ct z → Φ.ct z) : XSs X sts ρ Φ :=
  pss_imp h fun Dn σ H ⟨G0, H0, G, t, sl, k1, k2, k3, k4⟩ => ⟨G0, H0, G, t, sl, fun a b c d e f g => k1 a b c d e f (w1 _ g), fun a b c d e f g => k2 a b c d e f (w3 _ g), fun a b c d e f g => k3 a b c d e f (w4 _ g), fun a b c d e f g => k4 a b c d e f (w2 _ g)⟩
theorem xs_imp {st : Stmt} {Φ' : Out} (h : XS X st ρ Φ') (w1 : ∀ z, Φ'.nx z → Φ.nx z) (w2 : ∀ z, Φ'.rt z → Φ.rt z) (w3 : ∀ z, Φ'.bk z → Φ.bk z) (w4 : ∀ z, Φ'.ct z → Φ.ct z) : XS X st ρ Φ :=
  ps_imp h fun Dn σ H ⟨G0, H0, G, t, sl, k1, k2, k3, k4⟩ => ⟨G0, H0, G, t, sl, fun a b c d e f g => k1 a b c d e f (w1 _ g), fun a b c d e f g => k2 a b c d e f (w3 _ g), fun a b c d e f g => k3 a b c d e f (w4 _ g), fun a b c d e f g => k4 a b c d e f (w2 _ g)⟩
/-- an own list is known from now on -/
theorem xss_frz {sts : List Stmt} (i : Nat) {ds : List D} (hi : ρ[i]? = some (some (.ol ds))) (h : XSs X sts (ρ.set i (some (.lst ds))) Φ) : XSs X sts ρ Φ :=
  pss_imp h fun Dn σ H ⟨G0, H0, G, t, sl, k1, k2, k3, k4⟩ => by
    obtain ⟨v, hv, p, vs, rfl, h0, hg, hp, hd⟩ := sl.at_ i _ hi
    have e2 : Ex G (upd G p (.lst vs)) := Ex.upd hg
    have d2 : Da X.K (upd G p (.lst vs)) (.ref p) (.lst ds) := .lst' (by rw [upd_same]) (hd.mono e2)
    have t2 : Tr G0 H0 (upd G p (.lst vs)) H := t.frz h0 hg hp pot_lst
    have sl2 : Sl X.K H0 (upd G p (.lst vs)) H σ (ρ.set i (some (.lst ds))) := by
      refine ⟨by simp [sl.len], fun j e he => ?_, fun j k d1 e1 q hjk h1 h2 n1 n2 h3 h4 => ?_⟩
      · rw [List.getElem?_set] at he
        by_cases hij : i = j
        · rw [if_pos hij] at he
          by_cases hl : i < ρ.length
          · rw [if_pos hl] at he; cases he
            exact ⟨_, hij ▸ hv, Is.of d2⟩
          · rw [if_neg hl] at he; cases he
        · rw [if_neg hij] at he
          obtain ⟨u, hu, iu⟩ := sl.at_ j e he
          refine ⟨u, hu, ?_⟩
          cases e with
          | ol es =>
            obtain ⟨q, ws, rfl, a, b, c, d⟩ := iu
            have hpq : q ≠ p := fun z => by
              subst z
              exact sl.sep i j _ _ q hij hi he rfl rfl hv hu
            exact ⟨q, ws, rfl, a, by rw [upd_ne hpq]; exact b, c, d.mono e2⟩
          | ob q C fs =>
            obtain ⟨rfl, a, b, ws, c⟩ := iu
            have hpq : q ≠ p := fun z => by subst z; rw [hp] at c; cases c
            exact ⟨rfl, a, by rw [upd_ne hpq]; exact b, ws, c⟩
          | _ => exact Is.of (Da.mono e2 iu)
      · rw [List.getElem?_set] at h1 h2
        by_cases a : i = j
        · rw [if_pos a] at h1
          by_cases hl : i < ρ.length
          · rw [if_pos hl] at h1; cases h1; cases n1
          · rw [if_neg hl] at h1; cases h1
        · rw [if_neg a] at h1
          by_cases b : i = k
          · rw [if_pos b] at h2
            by_cases hl : i < ρ.length
            · rw [if_pos hl] at h2; cases h2; cases n2
            · rw [if_neg hl] at h2; cases h2
          · rw [if_neg b] at h2
            exact sl.sep j k d1 e1 q hjk h1 h2 n1 n2 h3 h4
    exact ⟨G0, H0, _, t2, sl2, k1, k2, k3, k4⟩
/-- less is known -/
theorem xss_weak {sts : List Stmt} {ρ' : Env} (h : XSs X sts ρ' Φ) (hl : ρ'.length = ρ.length) (w : ∀ (i : Nat) d, ρ'[i]? = some (some d) → ρ[i]? = some (some d)) : XSs X sts ρ Φ :=
  pss_imp h fun Dn σ H ⟨G0, H0, G, t, sl, k⟩ => ⟨G0, H0, G, t, sl.weak hl w, k⟩
theorem xs_never {st : Stmt} (h : False) : XS X st ρ Φ := h.elim
theorem xs_expr {e : Expr} {S : D → Prop} (h : XE X e ρ S) (w : Φ.nx ρ) (hs : swapsWith e none pos.line X.env = pure false := by rfl) : XS X (.Expr e pos) ρ Φ :=
  ps_imp (ps_expr h hs) fun Dn σ H ⟨G0, H0, G, t, sl, k1, _⟩ => ⟨G, H0, t.ok, sl, fun G' H' v d t' i s => k1 G' H' σ ρ (t.trans t') (sl.mono t') w⟩
theorem xs_ret {e : Expr} {S : D → Prop} (h : XE X e ρ S) (w : ∀ d, S d → Φ.rt (frz d)) : XS X (.Return (some e) pos) ρ Φ :=
  ps_imp (ps_ret h) fun Dn σ H ⟨G0, H0, G, t, sl, _, _, _, k4⟩ => ⟨G, H0, t.ok, sl, fun G' H' v d t' i s => k4 G' H' v d (t.trans t') i (w d s)⟩
theorem xs_retv {e : Expr} {d : D} (h : XV X e ρ d) (w : Φ.rt (frz d)) : XS X (.Return (some e) pos) ρ Φ := xs_ret h fun _ s => s ▸ w
theorem xs_if {c : Expr} {a b : List Stmt} {k : Bool} (hc : XT X c ρ (fun z => z = k)) (ha : k = true → XSs X a ρ Φ) (hb : k = false → XSs X b ρ Φ) : XS X (.If c a b pos) ρ Φ := by
  cases k with
  | true =>
    refine ps_imp (ps_if hc (ha rfl) (u := fun _ _ _ => False) ⟨fun _ _ _ _ _ _ q => q.elim⟩) fun Dn σ H ⟨G0, H0, G, t, sl, k1, k2, k3, k4⟩ => ⟨G, H0, t.ok, sl, fun G' H' v t' s => ?_⟩
    subst s
    exact iteT ⟨G0, H0, G', t.trans t', sl.mono t', k1, k2, k3, k4⟩
  | false =>
    refine ps_imp (ps_if hc (t := fun _ _ _ => False) ⟨fun _ _ _ _ _ _ q => q.elim⟩ (hb rfl)) fun Dn σ H ⟨G0, H0, G, t, sl, k1, k2, k3, k4⟩ => ⟨G, H0, t.ok, sl, fun G' H' v t' s => ?_⟩
    subst s
    exact iteF ⟨G0, H0, G', t.trans t', sl.mono t', k1, k2, k3, k4⟩
/-- x = e -/
theorem xs_set (i : Nat) {x : Str} {e : Expr} {pos' : Pos} {S : D → Prop} (h : XE X e ρ S) (w : ∀ d, S d → noOl d = true ∧ Φ.nx (ρ.set i (some d))) (hN : X.N.Nodup) (hi : X.N[i]? = some x := by rfl) (hx : Loc X.env.scope x := by first | exact Or.inl rfl | exact Or.inr rfl)
    (hs : swapsWithSole [.Name x pos'] e pos.line X.env = pure false := by rfl) (hw : swappedStores [.Name x pos'] e X.env = pure none := by rfl)
    (hf : X.fn x = true ∨ X.env.scope.names.lookup x = some .local := by first | exact .inl rfl | exact .inr rfl | assumption) : XS X (.Assign [.Name x pos'] e pos) ρ Φ :=
  ps_imp (ps_asg h (pg_name hN hi hx hf) hs hw rfl) fun Dn σ H ⟨G0, H0, G, t, sl, k1, _⟩ => ⟨G, H0, t.ok, sl, fun G' H' v d t' i s => by
    obtain ⟨w1, w2⟩ := w d s
    exact k1 G' H' _ _ (t.trans t') ((sl.mono t').set (i.da (w1))) w2⟩
theorem Tr.fresh0 {G H G' H' : Hp} (t : Tr G H G' H') {p : Addr} (h : H' p = none) : H p = none := by
  cases q : H p with
  | none => rfl
  | some o =>
    by_cases z : G p = some potMark
    · obtain ⟨i, j, e, _⟩ := t.ok.pot p (t.gg.go _ _ z)
      rw [h] at e; cases e
    · rw [t.hh p o q z] at h; cases h
/-- x = a new list that we keep as our own -/
theorem xs_setF (i : Nat) {x : Str} {e : Expr} {pos' : Pos} {S : List D → Prop} (h : XF X e ρ S) (w : ∀ ds, S ds → Φ.nx (ρ.set i (some (.ol ds)))) (hN : X.N.Nodup) (hi : X.N[i]? = some x := by rfl) (hx : Loc X.env.scope x := by first | exact Or.inl rfl | exact Or.inr rfl)
    (hs : swapsWithSole [.Name x pos'] e pos.line X.env = pure false := by rfl) (hw : swappedStores [.Name x pos'] e X.env = pure none := by rfl)
    (hf : X.fn x = true ∨ X.env.scope.names.lookup x = some .local := by first | exact .inl rfl | exact .inr rfl | assumption) : XS X (.Assign [.Name x pos'] e pos) ρ Φ :=
  ps_imp (ps_asg h (pg_name hN hi hx hf) hs hw rfl) fun Dn σ H ⟨G0, H0, G, t, sl, k1, _⟩ => ⟨G, H0, t.ok, sl, fun G' H' p vs ds t' hp hg hh hd s => by
    refine k1 G' H' _ _ (t.trans t') ((sl.mono t').setOwn (is_ol (t.fresh0 hp) hg hh hd) fun j e hj ne hs => ?_) (w ds s)
    obtain ⟨q, o, hv, hq⟩ := sl.ownAt hj ne
    rw [hv] at hs; cases hs
    rw [hp] at hq; cases hq⟩
end

/-! ### own lists changed -/
section
variable {X : Cx} {ρ : Env} {pos : Pos} {Φ : Out}
/-- the own object in slot i becomes another -/
theorem Sl.chg {K : PySem.W.Frag} {H0 G H : Hp} {σ : L2.St} {ρ : Env} (sl : Sl K H0 G H σ ρ) {i : Nat} {p : Addr} {d d' : D} {o : HO} (hi : ρ[i]? = some (some d)) (nd : noOl d = false) (nd' : noOl d' = false) (hv : σ[i]? = some (some (.ref p))) (hg : G p = none) (hd : Is K H0 G (upd H p o) (.ref p) d') :
    Sl K H0 G (upd H p o) σ (ρ.set i (some d')) := by
  refine ⟨by simp [sl.len], fun j e he => ?_, fun j k d1 e1 q hjk h1 h2 n1 n2 h3 h4 => ?_⟩
  · rw [List.getElem?_set] at he
    by_cases hij : i = j
    · rw [if_pos hij] at he
      by_cases hl : i < ρ.length
      · rw [if_pos hl] at he; cases he
        exact ⟨_, hij ▸ hv, hd⟩
      · rw [if_neg hl] at he; cases he
    · rw [if_neg hij] at he
      obtain ⟨u, hu, iu⟩ := sl.at_ j e he
      refine ⟨u, hu, ?_⟩
      cases e with
      | ol fs =>
        obtain ⟨q, us, rfl, a, b, c, d⟩ := iu
        have hpq : q ≠ p := fun z => by
          subst z
          exact sl.sep i j _ _ q hij hi he nd rfl hv hu
        exact ⟨q, us, rfl, a, b, by rw [upd_ne hpq]; exact c, d⟩
      | ob q C fs =>
        obtain ⟨rfl, a, b, us, c⟩ := iu
        have hpq : q ≠ p := fun z => by
          subst z
          exact sl.sep i j _ _ q hij hi he nd rfl hv hu
        exact ⟨rfl, a, b, us, by rw [upd_ne hpq]; exact c⟩
      | _ => exact Is.of iu
  · rw [List.getElem?_set] at h1 h2
    by_cases a : i = j
    · by_cases b : i = k
      · exact hjk (a.symm.trans b)
      · rw [if_neg b] at h2
        subst a
        exact sl.sep i k d e1 q hjk hi h2 nd n2 h3 h4
    · rw [if_neg a] at h1
      by_cases b : i = k
      · subst b
        exact sl.sep j i d1 d q hjk h1 hi n1 nd h3 h4
      · rw [if_neg b] at h2
        exact sl.sep j k d1 e1 q hjk h1 h2 n1 n2 h3 h4
/-- xs.append(e) -/
theorem xs_append (i : Nat) {x : Str} {e : Expr} {px apos cpos : Pos} {ds : List D} {S : D → Prop} (hi : ρ[i]? = some (some (.ol ds))) (he : XE X e ρ S) (w : ∀ d, S d → noOl d = true ∧ Φ.nx (ρ.set i (some (.ol (ds ++ [d]))))) (hl : ds.length < 100000)
    (hp : ∀ {t : TA}, PA X [e] t → PE X (.Call (.Attribute (.Name x px) "append" apos) [e] [] cpos) (tBM X.K "list" rAppend (tVar i) t) := by exact fun a => pe_bm PySem.F.plainAttrs_list PySem.F.slot_list_append PySem.F.type_list_append mt_append (pv _) a)
    (hst : starEach [e] X.env = (false, eval e X.env) :: starEach [] X.env := by rfl) (hs : swapsWith (.Call (.Attribute (.Name x px) "append" apos) [e] [] cpos) none pos.line X.env = pure false := by rfl) : XS X (.Expr (.Call (.Attribute (.Name x px) "append" apos) [e] [] cpos) pos) ρ Φ := by
  refine ps_imp (ps_expr (hp (pa_cons he pa_nil hst)) hs) fun Dn σ H ⟨G0, H0, G, t, sl, k1, _⟩ => ?_
  obtain ⟨v, hv, p, vs, rfl, h0, hg, hp, hd⟩ := sl.at_ i _ hi
  refine ⟨.ref p, hv, .inl ⟨rfl, _, SqL.of hp⟩, G, H0, t.ok, sl, fun G' H' v d t' iv s => ?_⟩
  obtain ⟨w1, w2⟩ := w d s
  have hp' : H' p = some (.lst vs) := t'.hh p _ hp (by rw [hg]; exact fun z => nomatch z)
  have hg' : G' p = none := t'.pv p _ hp hg
  refine ⟨p, vs, v, rfl, rfl, hp', ?_, ?_⟩
  · rw [hd.1]; exact Nat.lt_of_lt_of_le hl (by decide)
  · exact k1 G' _ σ _ ((t.trans t').mut h0 hg') ((sl.mono t').chg hi rfl rfl hv hg' (is_ol h0 hg' upd_same ((hd.mono t'.gg).snoc (iv.da w1)))) w2
/-- xs.extend(ys), ys a list -/
theorem xs_extend (i : Nat) {x : Str} {e : Expr} {px apos cpos : Pos} {ds : List D} {S : List D → Prop} (hi : ρ[i]? = some (some (.ol ds))) (he : XE X e ρ (fun d => ∃ es, d = .lst es ∧ S es)) (w : ∀ es, S es → ds.length + es.length ≤ 100000 ∧ Φ.nx (ρ.set i (some (.ol (ds ++ es)))))
    (hp : ∀ {t : TA}, PA X [e] t → PE X (.Call (.Attribute (.Name x px) "extend" apos) [e] [] cpos) (tBM X.K "list" rExtend (tVar i) t) := by exact fun a => pe_bm PySem.F.plainAttrs_list PySem.F.slot_list_extend PySem.F.type_list_extend mt_extend (pv _) a)
    (hst : starEach [e] X.env = (false, eval e X.env) :: starEach [] X.env := by rfl) (hs : swapsWith (.Call (.Attribute (.Name x px) "extend" apos) [e] [] cpos) none pos.line X.env = pure false := by rfl) : XS X (.Expr (.Call (.Attribute (.Name x px) "extend" apos) [e] [] cpos) pos) ρ Φ := by
  refine ps_imp (ps_expr (hp (pa_cons he pa_nil hst)) hs) fun Dn σ H ⟨G0, H0, G, t, sl, k1, _⟩ => ?_
  obtain ⟨v, hv, p, vs, rfl, h0, hg, hp, hd⟩ := sl.at_ i _ hi
  refine ⟨.ref p, hv, .inl ⟨rfl, _, SqL.of hp⟩, G, H0, t.ok, sl, fun G' H' v d t' iv ⟨es, hes, s⟩ => ?_⟩
  subst hes
  obtain ⟨w1, w2⟩ := w es s
  have hp' : H' p = some (.lst vs) := t'.hh p _ hp (by rw [hg]; exact fun z => nomatch z)
  have hg' : G' p = none := t'.pv p _ hp hg
  cases iv with
  | @lst q us _ a b c =>
    refine ⟨p, q, vs, us, rfl, rfl, hp', t'.ok.at_ _ _ a pot_lst, ?_, ?_⟩
    · rw [hd.1, b]; exact Nat.le_trans w1 (by decide)
    · exact k1 G' _ σ _ ((t.trans t').mut h0 hg') ((sl.mono t').chg hi rfl rfl hv hg' (is_ol h0 hg' upd_same ((hd.mono t'.gg).appd ⟨b, c⟩))) w2
end

/-! ### what is walked -/
/-- J walks the data ds -/
def Wk (K : PySem.W.Frag) (G : Hp) (J : It) (ds : List D) : Prop := ∀ G1 H1 (i : Nat), Ex G G1 → Le G1 H1 → (∀ d, ds[i]? = some d → J.go i H1 ∧ ∀ x H2, J.yld i H1 x H2 → ∃ G2, Tr G1 H1 G2 H2 ∧ Da K G2 x d) ∧ (ds.length ≤ i → J.stop i H1)
def tDI (K : PySem.W.Frag) (ρ : Env) (ds : List D) : TI := fun σ H R => ∃ G H0, Le G H ∧ Sl K H0 G H σ ρ ∧ ∀ G' H' J, Tr G H G' H' → Wk K G' J ds → R J H'
abbrev XI (X : Cx) (tg iter : Expr) (ρ : Env) (ds : List D) : Prop := PI X tg iter (tDI X.K ρ ds)
/-- slots outside L are as they were -/
def Chg (L : List Nat) (σ σ' : L2.St) : Prop := σ'.length = σ.length ∧ ∀ i, i ∉ L → σ'[i]? = σ[i]?
/-- a target stores the parts of a datum -/
def tDG (K : PySem.W.Frag) (τ : D → Env → Env → Prop) (L : List Nat) : TG := fun v σ H Q => ∃ G H0 ρ d ρ', Le G H ∧ Sl K H0 G H σ ρ ∧ Da K G v d ∧ τ d ρ ρ' ∧ ∀ σ', Sl K H0 G H σ' ρ' → Chg L σ σ' → Q σ' H
abbrev XG (X : Cx) (tg : Expr) (τ : D → Env → Env → Prop) (L : List Nat) : Prop := PG X tg (tDG X.K τ L)
def tName (i : Nat) : D → Env → Env → Prop := fun d ρ ρ' => ρ' = ρ.set i (some d)
def tPair (i j : Nat) : D → Env → Env → Prop := fun d ρ ρ' => ∃ a b, d = .tup [a, b] ∧ ρ' = (ρ.set i (some a)).set j (some b)
def tTrip (i j k : Nat) : D → Env → Env → Prop := fun d ρ ρ' => ∃ a b c, d = .tup [a, b, c] ∧ ρ' = ((ρ.set i (some a)).set j (some b)).set k (some c)
/-- a, (b, c) -/
def tPair2 (i j k : Nat) : D → Env → Env → Prop := fun d ρ ρ' => ∃ a b c, d = .tup [a, .tup [b, c]] ∧ ρ' = ((ρ.set i (some a)).set j (some b)).set k (some c)
theorem pg_imp {X : Cx} {e : Expr} {t t' : TG} (h : PG X e t) (w : ∀ v σ H Q, t' v σ H Q → t v σ H Q) : PG X e t' := ⟨fun pins s σ H v u Q I r q => h.run pins s σ H v u Q I r (w v σ H Q q)⟩
theorem Chg.set {L : List Nat} {σ : L2.St} {i : Nat} (x : Option V) (h : i ∈ L) : Chg L σ (σ.set i x) := ⟨by simp, fun j hj => by
  rw [List.getElem?_set_ne]; intro e; subst e; exact hj h⟩
theorem Chg.trans {L : List Nat} {σ σ1 σ2 : L2.St} (a : Chg L σ σ1) (b : Chg L σ1 σ2) : Chg L σ σ2 := ⟨b.1.trans a.1, fun i h => (b.2 i h).trans (a.2 i h)⟩
section
variable {X : Cx} {ρ : Env} {pos : Pos}
theorem xg_name (i : Nat) {x : Str} {L : List Nat} (hN : X.N.Nodup) (hi : X.N[i]? = some x := by rfl) (hx : Loc X.env.scope x := by first | exact Or.inl rfl | exact Or.inr rfl) (hL : i ∈ L := by decide)
    (hf : X.fn x = true ∨ X.env.scope.names.lookup x = some .local := by first | exact .inl rfl | exact .inr rfl | assumption) : XG X (.Name x pos) (tName i) L :=
  pg_imp (pg_name hN hi hx hf) fun v σ H Q ⟨G, H0, ρ, d, ρ', l, sl, da, t, k⟩ => by
    subst t
    exact k _ (sl.set da) (Chg.set _ hL)
theorem xg_pair (i j : Nat) {x y : Str} {L : List Nat} {p1 p2 : Pos} {k1} (hc : X.calm = true) (hN : X.N.Nodup) (hi : X.N[i]? = some x := by rfl) (hx : Loc X.env.scope x := by first | exact Or.inl rfl | exact Or.inr rfl) (hj : X.N[j]? = some y := by rfl) (hy : Loc X.env.scope y := by first | exact Or.inl rfl | exact Or.inr rfl) (hL : i ∈ L := by decide) (hL2 : j ∈ L := by decide)
    (hf : X.fn x = true ∨ X.env.scope.names.lookup x = some .local := by first | exact .inl rfl | exact .inr rfl | assumption) (hf2 : X.fn y = true ∨ X.env.scope.names.lookup y = some .local := by first | exact .inl rfl | exact .inr rfl | assumption) : XG X (.Tuple [.Name x p1, .Name y p2] k1 pos) (tPair i j) L :=
  pg_imp (pg_tup hc (pgs_cons (pg_name hN hi hx hf) (pgs_cons (pg_name hN hj hy hf2) pgs_nil))) fun v σ H Q ⟨G, H0, ρ, d, ρ', l, sl, da, t, k⟩ => by
    obtain ⟨a, b, rfl, rfl⟩ := t
    cases da with
    | @tup p vs _ e1 e2 e3 =>
      obtain ⟨va, vs1, rfl, da, hr⟩ := DaL.cases_cons ⟨e2, e3⟩
      obtain ⟨vb, vs2, rfl, db, hr⟩ := hr.cases_cons
      obtain rfl := hr.cases_nil
      refine ⟨p, _, rfl, SqT.of (l.at_ _ _ e1 pot_tup), rfl, va, [vb], rfl, vb, [], rfl, rfl, ?_⟩
      exact k _ ((sl.set da).set db) ((Chg.set _ hL).trans (Chg.set _ hL2))
theorem xg_trip (i j k : Nat) {x y z : Str} {L : List Nat} {p1 p2 p3 : Pos} {k1} (hc : X.calm = true) (hN : X.N.Nodup) (hi : X.N[i]? = some x := by rfl) (hx : Loc X.env.scope x := by first | exact Or.inl rfl | exact Or.inr rfl) (hj : X.N[j]? = some y := by rfl) (hy : Loc X.env.scope y := by first | exact Or.inl rfl | exact Or.inr rfl)
    (hk : X.N[k]? = some z := by rfl) (hz : Loc X.env.scope z := by first | exact Or.inl rfl | exact Or.inr rfl) (hL : i ∈ L := by decide) (hL2 : j ∈ L := by decide) (hL3 : k ∈ L := by decide)
    (hf : X.fn x = true ∨ X.env.scope.names.lookup x = some .local := by first | exact .inl rfl | exact .inr rfl | assumption) (hf2 : X.fn y = true ∨ X.env.scope.names.lookup y = some .local := by first | exact .inl rfl | exact .inr rfl | assumption)
    (hf3 : X.fn z = true ∨ X.env.scope.names.lookup z = some .local := by first | exact .inl rfl | exact .inr rfl | assumption) : XG X (.Tuple [.Name x p1, .Name y p2, .Name z p3] k1 pos) (tTrip i j k) L :=
  pg_imp (pg_tup hc (pgs_cons (pg_name hN hi hx hf) (pgs_cons (pg_name hN hj hy hf2) (pgs_cons (pg_name hN hk hz hf3) pgs_nil)))) fun v σ H Q ⟨G, H0, ρ, d, ρ', l, sl, da, t, kk⟩ => by
    obtain ⟨a, b, c, rfl, rfl⟩ := t
    cases da with
    | @tup p vs _ e1 e2 e3 =>
      obtain ⟨va, vs1, rfl, da, hr⟩ := DaL.cases_cons ⟨e2, e3⟩
      obtain ⟨vb, vs2, rfl, db, hr⟩ := hr.cases_cons
      obtain ⟨vc, vs3, rfl, dc, hr⟩ := hr.cases_cons
      obtain rfl := hr.cases_nil
      refine ⟨p, _, rfl, SqT.of (l.at_ _ _ e1 pot_tup), rfl, va, [vb, vc], rfl, vb, [vc], rfl, vc, [], rfl, rfl, ?_⟩
      exact kk _ (((sl.set da).set db).set dc) (((Chg.set _ hL).trans (Chg.set _ hL2)).trans (Chg.set _ hL3))
/-- target = e, e known -/
theorem xs_asgG {tg e : Expr} {τ : D → Env → Env → Prop} {L : List Nat} {S : D → Prop} {Φ : Out} (h : XE X e ρ S) (hg : XG X tg τ L) (w : ∀ d, S d → noOl d = true ∧ ∃ ρ', τ d ρ ρ' ∧ Φ.nx ρ')
    (hs : swapsWithSole [tg] e pos.line X.env = pure false := by rfl) (hw : swappedStores [tg] e X.env = pure none := by rfl) (h1 : (assignEach [tg] X.env).map (·.2) = [assign tg X.env] := by rfl) : XS X (.Assign [tg] e pos) ρ Φ :=
  ps_imp (ps_asg h hg hs hw h1) fun Dn σ H ⟨G0, H0, G, t, sl, k1, _⟩ => ⟨G, H0, t.ok, sl, fun G' H' v d t' i s => by
    obtain ⟨w1, ρ', w2, w3⟩ := w d s
    exact ⟨G', H0, ρ, d, ρ', t'.ok, sl.mono t', i.da (w1), w2, fun σ' sl' _ => k1 G' H' σ' ρ' (t.trans t') sl' w3⟩⟩

/-! ### for, while -/
theorem xs_for {tg iter : Expr} {body : List Stmt} {τ : D → Env → Env → Prop} {L : List Nat} {ds : List D} {Φ : Out} (hp : PassesOwn (model X.prog X.w) X.A X.env X.xe) (hc : X.calm = true) (hi : XI X tg iter ρ ds) (hg : XG X tg τ L) (I : Nat → Env → Prop) (h0 : I 0 ρ)
    (hs : ∀ i d ρ1, ds[i]? = some d → I i ρ1 → ∃ ρ2, τ d ρ1 ρ2 ∧ XSs X body ρ2 { nx := I (i + 1), ct := I (i + 1), bk := Φ.nx, rt := Φ.rt }) (hd : ∀ ρ1, I ds.length ρ1 → Φ.nx ρ1)
    (hf : ∀ x, foldedSetIterable iter X.env x = pure x := by intro _; rfl) : XS X (.For tg iter body [] pos) ρ Φ :=
  ps_imp (ps_for hp hc hi hg pss_any hf) fun Dn σ H ⟨G0, H0, G, t, sl, k1, k2, k3, k4⟩ => ⟨G, H0, t.ok, sl, fun G' H' J t' wk => by
    refine ⟨fun i m σ1 H1 => m = ds.length - i ∧ i ≤ ds.length ∧ ∃ ρ1 G1, I i ρ1 ∧ Tr G0 H0 G1 H1 ∧ Ex G' G1 ∧ Sl X.K H0 G1 H1 σ1 ρ1, ⟨ds.length, rfl, Nat.zero_le _, ρ, G', h0, t.trans t', Ex.refl _, sl.mono t'⟩, ?_⟩
    rintro i m σ1 H1 ⟨rfl, hi, ρ1, G1, hI, t1, ex1, sl1⟩
    obtain ⟨go, st⟩ := wk G1 H1 i ex1 t1.ok
    by_cases hlt : i < ds.length
    · obtain ⟨g1, g2⟩ := go ds[i] (by simp [hlt])
      refine .inr ⟨g1, fun σ2 H2 => i < ds.length ∧ ∃ ρ2 G2, I (i + 1) ρ2 ∧ Tr G0 H0 G2 H2 ∧ Ex G' G2 ∧ Sl X.K H0 G2 H2 σ2 ρ2, fun σ2 H2 ⟨a, b⟩ => ⟨ds.length - (i + 1), by omega, rfl, by omega, b⟩, fun x H2 y => ?_⟩
      obtain ⟨G2, t2, da⟩ := g2 x H2 y
      obtain ⟨ρ2, hτ, hb⟩ := hs i ds[i] ρ1 (by simp [hlt]) hI
      refine ⟨G2, H0, ρ1, _, ρ2, t2.ok, sl1.mono t2, da, hτ, fun σ3 sl3 _ => ?_⟩
      -- the body, seen from the walk's knowledge
      have t3 := t1.trans t2
      exact ⟨ρ2, _, hb, G2, H0, G2, t3.rebase, sl3, fun G4 H4 σ4 ρ4 t4 sl4 h4 => ⟨hlt, ρ4, G4, h4, t3.join t4, (ex1.trans t2.gg).trans t4.gg, sl4⟩, fun G4 H4 σ4 ρ4 t4 sl4 h4 => k1 G4 H4 σ4 ρ4 (t3.join t4) sl4 h4,
        fun G4 H4 σ4 ρ4 t4 sl4 h4 => ⟨hlt, ρ4, G4, h4, t3.join t4, (ex1.trans t2.gg).trans t4.gg, sl4⟩, fun G4 H4 v d t4 i4 s4 => k4 G4 H4 v d (t3.join t4) i4 s4⟩
    · have e : i = ds.length := by omega
      subst e
      exact .inl ⟨st (Nat.le_refl _), k1 G1 H1 σ1 ρ1 t1 sl1 (hd ρ1 hI)⟩⟩
end
end NL

/-! text DL3 -/
set_option Elab.async false
set_option linter.all false
set_option maxRecDepth 100000
set_option maxHeartbeats 4000000
/-! The D-layer: while, what is walked, comprehensions. -/
namespace NL
open PySem PySem.Spec L2
section
variable {X : Cx} {ρ : Env} {pos : Pos}
theorem xs_while {c : Expr} {body : List Stmt} {Φ : Out} (hp : PassesOwn (model X.prog X.w) X.A X.env X.xe) (I : Nat → Env → Prop) (m0 : Nat) (h0 : I m0 ρ)
    (hs : ∀ m ρ1, I m ρ1 → ∃ b, XT X c ρ1 (fun z => z = b) ∧ (b = true → XSs X body ρ1 { nx := fun z => ∃ m', m' < m ∧ I m' z, ct := fun z => ∃ m', m' < m ∧ I m' z, bk := Φ.nx, rt := Φ.rt }) ∧ (b = false → Φ.nx ρ1)) : XS X (.While c body [] pos) ρ Φ :=
  ps_imp (ps_while hp (pt_any (e := c)) (pss_any (sts := body))) fun Dn σ H ⟨G0, H0, G, t, sl, k1, k2, k3, k4⟩ => by
    refine ⟨fun m σ1 H1 => ∃ ρ1 G1, I m ρ1 ∧ Tr G0 H0 G1 H1 ∧ Sl X.K H0 G1 H1 σ1 ρ1, ⟨m0, ρ, G, h0, t, sl⟩, ?_⟩
    rintro m σ1 H1 ⟨ρ1, G1, hI, t1, sl1⟩
    obtain ⟨b, hb, hT, hF⟩ := hs m ρ1 hI
    refine ⟨ρ1, _, hb, G1, H0, t1.ok, sl1, fun G2 H2 z t2 e => ?_⟩
    subst e
    cases z with
    | true =>
      refine iteT ⟨fun σ' H' => ∃ m', m' < m ∧ ∃ ρ1 G1, I m' ρ1 ∧ Tr G0 H0 G1 H' ∧ Sl X.K H0 G1 H' σ' ρ1, fun σ' H' h => h, ?_⟩
      exact ⟨ρ1, _, hT rfl, G0, H0, G2, t1.trans t2, sl1.mono t2, fun G4 H4 σ4 ρ4 t4 sl4 ⟨m', hm, h4⟩ => ⟨m', hm, ρ4, G4, h4, t4, sl4⟩, k1, fun G4 H4 σ4 ρ4 t4 sl4 ⟨m', hm, h4⟩ => ⟨m', hm, ρ4, G4, h4, t4, sl4⟩, k4⟩
    | false => exact iteF (k1 G2 H2 σ1 ρ1 (t1.trans t2) (sl1.mono t2) (hF rfl))

/-! ### what is walked -/
theorem wk_list {K : PySem.W.Frag} {G : Hp} {a : Addr} {vs : List V} {ds : List D} (h : G a = some (.lst vs)) (hd : DaL K G vs ds) : Wk K G (Itl K a) ds := fun G1 H1 i e l => by
  have q : SqL K H1 a vs := SqL.of (l.at_ _ _ (e.go _ _ h) pot_lst)
  refine ⟨fun d hi => ?_, fun hi => ⟨vs, q, by rw [hd.1]; exact hi⟩⟩
  obtain ⟨v, hv, dv⟩ := hd.at_ hi
  refine ⟨⟨vs, v, q, hv⟩, fun x H2 ⟨e1, e2⟩ => ?_⟩
  subst e1
  have := e2 vs q
  rw [hv] at this; cases this
  exact ⟨G1, Tr.refl l, dv.mono e⟩
theorem wk_tup {K : PySem.W.Frag} {G : Hp} {a : Addr} {vs : List V} {ds : List D} (h : G a = some (.tup vs)) (hd : DaL K G vs ds) : Wk K G (Itt K a) ds := fun G1 H1 i e l => by
  have q : SqT K H1 a vs := SqT.of (l.at_ _ _ (e.go _ _ h) pot_tup)
  refine ⟨fun d hi => ?_, fun hi => ⟨vs, q, by rw [hd.1]; exact hi⟩⟩
  obtain ⟨v, hv, dv⟩ := hd.at_ hi
  refine ⟨⟨vs, v, q, hv⟩, fun x H2 ⟨e1, e2⟩ => ?_⟩
  subst e1
  have := e2 vs q
  rw [hv] at this; cases this
  exact ⟨G1, Tr.refl l, dv.mono e⟩
def rng (lo : Int) (n : Nat) : List D := (List.range n).map fun k => .int (lo + (k : Nat))
theorem rng_len (lo : Int) (n : Nat) : (rng lo n).length = n := by simp [rng]
theorem rng_at {lo : Int} {n i : Nat} {d : D} (h : (rng lo n)[i]? = some d) : i < n ∧ d = .int (lo + (i : Nat)) := by
  have hi : i < n := by have := (List.getElem?_eq_some_iff.mp h).1; rwa [rng_len] at this
  unfold rng at h
  rw [List.getElem?_map, List.getElem?_range hi] at h
  exact ⟨hi, (Option.some.inj h).symm⟩
theorem wk_rng {K : PySem.W.Frag} {G : Hp} {lo : Int} {n : Nat} : Wk K G (Itr lo n) (rng lo n) := fun G1 H1 i e l => by
  refine ⟨fun d hi => ?_, fun hi => by rw [rng_len] at hi; exact hi⟩
  obtain ⟨h1, h2⟩ := rng_at hi
  refine ⟨h1, fun x H2 ⟨e1, e2⟩ => ?_⟩
  subst e1 e2 h2
  exact ⟨G1, Tr.refl l, .int _⟩
theorem wk_zip {K : PySem.W.Frag} {G : Hp} {a b : Addr} {vs ws : List V} {ds es : List D} (h : G a = some (.lst vs)) (hd : DaL K G vs ds) (h' : G b = some (.lst ws)) (hd' : DaL K G ws es) : Wk K G (Itz K a b) (ds.zipWith (fun x y => .tup [x, y]) es) := fun G1 H1 i e l => by
  have q : SqL K H1 a vs := SqL.of (l.at_ _ _ (e.go _ _ h) pot_lst)
  have q' : SqL K H1 b ws := SqL.of (l.at_ _ _ (e.go _ _ h') pot_lst)
  refine ⟨fun d hi => ?_, fun hi => ⟨vs, ws, q, q', by rw [hd.1, hd'.1]; rw [List.length_zipWith] at hi; omega⟩⟩
  rw [List.getElem?_zipWith] at hi
  cases e1 : ds[i]? with
  | none => rw [e1] at hi; cases hi
  | some x =>
    cases e2 : es[i]? with
    | none => rw [e1, e2] at hi; cases hi
    | some y =>
      rw [e1, e2] at hi
      cases hi
      obtain ⟨v, hv, dv⟩ := hd.at_ e1
      obtain ⟨u, hu, du⟩ := hd'.at_ e2
      refine ⟨⟨vs, ws, v, u, q, q', hv, hu⟩, fun z H2 ⟨T, x', y', ez, hT, eH, f1, f2⟩ => ?_⟩
      subst ez eH
      have g1 := f1 vs q
      have g2 := f2 ws q'
      rw [hv] at g1; rw [hu] at g2; cases g1; cases g2
      have t := Tr.new l hT (o := .tup [v, u]) pot_tup
      exact ⟨_, t, .tup' (by rw [upd_same]) (DaL.cons (dv.mono (e.trans t.gg)) (DaL.cons (du.mono (e.trans t.gg)) DaL.nil))⟩
def enm (ds : List D) : List D := ds.mapIdx fun i d => .tup [.int (i : Nat), d]
theorem wk_enum {K : PySem.W.Frag} {G : Hp} {a : Addr} {vs : List V} {ds : List D} (h : G a = some (.lst vs)) (hd : DaL K G vs ds) : Wk K G (Ite K a) (enm ds) := fun G1 H1 i e l => by
  have q : SqL K H1 a vs := SqL.of (l.at_ _ _ (e.go _ _ h) pot_lst)
  refine ⟨fun d hi => ?_, fun hi => ⟨vs, q, by rw [hd.1]; unfold enm at hi; simpa using hi⟩⟩
  unfold enm at hi
  rw [List.getElem?_mapIdx] at hi
  cases e1 : ds[i]? with
  | none => rw [e1] at hi; cases hi
  | some x =>
    rw [e1] at hi
    cases hi
    obtain ⟨v, hv, dv⟩ := hd.at_ e1
    refine ⟨⟨vs, v, q, hv⟩, fun z H2 ⟨T, x', ez, hT, eH, f1⟩ => ?_⟩
    subst ez eH
    have g1 := f1 vs q
    rw [hv] at g1; cases g1
    have t := Tr.new l hT (o := .tup [.int (i : Nat), v]) pot_tup
    exact ⟨_, t, .tup' (by rw [upd_same]) (DaL.cons (.int _) (DaL.cons (dv.mono (e.trans t.gg)) DaL.nil))⟩
theorem pi_imp {X : Cx} {tg e : Expr} {t t' : TI} (h : PI X tg e t) (w : ∀ σ H Q, t' σ H Q → t σ H Q) : PI X tg e t' := ⟨fun pins s σ H R I q => h.run pins s σ H R I (w σ H R q)⟩
theorem xi_list {tg e : Expr} {ds : List D} (h : XV X e ρ (.lst ds)) : XI X tg e ρ ds :=
  pi_imp (pi_list h) fun σ H R ⟨G, H0, l, sl, k⟩ => ⟨G, H0, l, sl, fun G' H' v d t i s => by
    subst s
    cases i with
    | @lst p vs _ a b c => exact ⟨p, rfl, ⟨vs, SqL.of (t.ok.at_ _ _ a pot_lst)⟩, k G' H' _ t (wk_list a ⟨b, c⟩)⟩⟩
theorem xi_tup {tg e : Expr} {ds : List D} (h : XV X e ρ (.tup ds)) : XI X tg e ρ ds :=
  pi_imp (pi_tup h) fun σ H R ⟨G, H0, l, sl, k⟩ => ⟨G, H0, l, sl, fun G' H' v d t i s => by
    subst s
    cases i with
    | @tup p vs _ a b c => exact ⟨p, rfl, ⟨vs, SqT.of (t.ok.at_ _ _ a pot_tup)⟩, k G' H' _ t (wk_tup a ⟨b, c⟩)⟩⟩
theorem xi_range1 {tg a : Expr} {p pos : Pos} {n : Int} {m : Nat} (hm : X.mg "range" = none) (h : XV X a ρ (.int n)) (hn : n.toNat = m) (h2 : n < 2 ^ 62 ∧ -(2 ^ 62) ≤ n) (hg : Gl X "range" := by rfl) (hs : starEach [a] X.env = [(false, eval a X.env)] := by rfl) : XI X tg (.Call (.Name "range" p) [a] [] pos) ρ (rng 0 m) :=
  pi_imp (pi_range1 hg hm (pa_cons h pa_nil hs) hs) fun σ H R ⟨G, H0, l, sl, k⟩ => ⟨G, H0, l, sl, fun G' H' v d t i s => by
    subst s hn
    cases i
    exact ⟨n, rfl, h2.2, h2.1, k G' H' _ t wk_rng⟩⟩
theorem xi_range2 {tg a b : Expr} {p pos : Pos} {lo hi : Int} {m : Nat} (hm : X.mg "range" = none) (h : XV X a ρ (.int lo)) (h' : XV X b ρ (.int hi)) (hn : (hi - lo).toNat = m) (h2 : -(2 ^ 62) ≤ lo ∧ lo < 2 ^ 62 ∧ -(2 ^ 62) ≤ hi ∧ hi < 2 ^ 62) (hg : Gl X "range" := by rfl)
    (hs : starEach [a, b] X.env = [(false, eval a X.env), (false, eval b X.env)] := by rfl) (hs2 : starEach [b] X.env = [(false, eval b X.env)] := by rfl) : XI X tg (.Call (.Name "range" p) [a, b] [] pos) ρ (rng lo m) :=
  pi_imp (pi_range2 hg hm (pa_cons h (pa_cons h' pa_nil hs2) (by rw [hs, hs2])) hs hs2) fun σ H R ⟨G, H0, l, sl, k⟩ => ⟨G, H0, l, sl, fun G' H' v d t i s => by
    subst s
    cases i
    refine ⟨G', H0, t.ok, sl.mono t, fun G2 H2 u e t2 i2 s2 => ?_⟩
    subst s2 hn
    cases i2
    exact ⟨lo, hi, rfl, h2, k G2 H2 _ (t.trans t2) wk_rng⟩⟩
theorem xi_zip {a b : Expr} {p pos tpos : Pos} {elts : List Expr} {kk : Nat} {ds es : List D} (hm : X.mg "zip" = none) (h : XV X a ρ (.lst ds)) (h' : XV X b ρ (.lst es)) (hg : Gl X "zip" := by rfl)
    (hs : starEach [a, b] X.env = (false, eval a X.env) :: starEach [b] X.env := by rfl) (hs2 : starEach [b] X.env = (false, eval b X.env) :: starEach [] X.env := by rfl) (hpl : (backTo pos (starEach [b] X.env)).any (·.1) = false := by rfl) :
    XI X (.Tuple elts kk tpos) (.Call (.Name "zip" p) [a, b] [] pos) ρ (ds.zipWith (fun x y => .tup [x, y]) es) :=
  pi_imp (pi_zip hg hm (pa_cons h (pa_cons h' pa_nil hs2) hs) hs hpl) fun σ H R ⟨G, H0, l, sl, k⟩ => ⟨G, H0, l, sl, fun G' H' v d t i s => by
    subst s
    refine ⟨G', H0, t.ok, sl.mono t, fun G2 H2 u e t2 i2 s2 => ?_⟩
    subst s2
    have i1 := Da.mono t2.gg (show Da X.K G' v (.lst ds) from i)
    cases i1 with
    | @lst p vs _ a b c =>
      cases i2 with
      | @lst q ws _ a' b' c' => exact ⟨p, q, vs, ws, rfl, SqL.of (t2.ok.at_ _ _ a pot_lst), SqL.of (t2.ok.at_ _ _ a' pot_lst), k G2 H2 _ (t.trans t2) (wk_zip a ⟨b, c⟩ a' ⟨b', c'⟩)⟩⟩
theorem xi_enum {a : Expr} {p pos tpos : Pos} {elts : List Expr} {kk : Nat} {ds : List D} (hm : X.mg "enumerate" = none) (h : XV X a ρ (.lst ds)) (hg : Gl X "enumerate" := by rfl) (hs : starEach [a] X.env = [(false, eval a X.env)] := by rfl) :
    XI X (.Tuple elts kk tpos) (.Call (.Name "enumerate" p) [a] [] pos) ρ (enm ds) :=
  pi_imp (pi_enum hg hm (pa_cons h pa_nil hs) hs) fun σ H R ⟨G, H0, l, sl, k⟩ => ⟨G, H0, l, sl, fun G' H' v d t i s => by
    subst s
    cases i with
    | @lst p vs _ a b c => exact ⟨p, vs, rfl, SqL.of (t.ok.at_ _ _ a pot_lst), k G' H' _ t (wk_enum a ⟨b, c⟩)⟩⟩

/-! ### comprehensions -/
def wipeE (ρ : Env) : List Nat → Env
  | [] => ρ
  | v :: vs => (wipeE ρ vs).set v none
theorem wipeE_length (ρ : Env) : ∀ vs : List Nat, (wipeE ρ vs).length = ρ.length
  | [] => rfl
  | v :: vs => by unfold wipeE; rw [List.length_set, wipeE_length ρ vs]
theorem wipeE_some {ρ : Env} {i : Nat} {x : D} : ∀ {vs : List Nat}, (wipeE ρ vs)[i]? = some (some x) → ρ[i]? = some (some x) ∧ i ∉ vs
  | [], h => ⟨h, by simp⟩
  | v :: vs, h => by
    unfold wipeE at h
    rw [List.getElem?_set] at h
    by_cases e : v = i
    · rw [if_pos e] at h; split at h <;> cases h
    · rw [if_neg e] at h
      obtain ⟨a, b⟩ := wipeE_some h
      exact ⟨a, by simp; exact ⟨fun z => e z.symm, b⟩⟩
theorem wipe_in {σ : L2.St} {i : Nat} : ∀ {vs : List Nat}, i ∈ vs → i < σ.length → (wipe σ vs)[i]? = some none
  | v :: vs, h, hl => by
    unfold wipe
    rw [List.getElem?_set]
    by_cases e : v = i
    · rw [if_pos e, if_pos (by rw [e, wipe_length]; exact hl)]
    · rw [if_neg e]
      rcases List.mem_cons.mp h with z | z
      · exact absurd z.symm e
      · exact wipe_in z hl
theorem Chg.wipe {vs : List Nat} {σ σ' : L2.St} (c : Chg vs (wipe σ vs) σ') : L2.wipe σ' vs = L2.wipe σ vs := by
  apply List.ext_getElem?
  intro i
  by_cases h : i ∈ vs
  · by_cases hl : i < σ.length
    · rw [wipe_in h hl, wipe_in h (by rw [c.1, wipe_length]; exact hl)]
    · rw [List.getElem?_eq_none (by rw [wipe_length, c.1, wipe_length]; omega), List.getElem?_eq_none (by rw [wipe_length]; omega)]
  · rw [wipe_out h, c.2 i h]
theorem Sl.wipe {K : PySem.W.Frag} {H0 G H : Hp} {σ : L2.St} {ρ : Env} (h : Sl K H0 G H σ ρ) (vs : List Nat) : Sl K H0 G H (wipe σ vs) (wipeE ρ vs) := by
  refine ⟨by rw [wipe_length, wipeE_length, h.len], fun i d e => ?_, fun i j d1 e1 p n a b n1 n2 c d => ?_⟩
  · obtain ⟨e1, e2⟩ := wipeE_some e
    rw [wipe_out e2]; exact h.at_ i d e1
  · obtain ⟨a1, a2⟩ := wipeE_some a
    obtain ⟨b1, b2⟩ := wipeE_some b
    rw [wipe_out a2] at c; rw [wipe_out b2] at d
    exact h.sep i j d1 e1 p n a1 b1 n1 n2 c d
/-- in the block of a comprehension, whichever -/
abbrev Blk (X : Cx) (scope : Scope) (P : Cx → Prop) : Prop := ∀ (s : Shared) (H : Hp) (C : Addr) (cl : List (Str × Addr)) (fp : List Addr), P (X.blk s H scope (compEnvC scope cl C X.env) fp)
def tAnyB (X : Cx) (scope : Scope) (e : Expr) : TE := fun σ H Q => ∃ ρ S, (Blk X scope fun Y => PE Y e (tD X.K ρ S)) ∧ tD X.K ρ S σ H Q
theorem pe_anyB {scope : Scope} {e : Expr} : Blk X scope fun Y => PE Y e (tAnyB X scope e) := fun s H C cl fp => ⟨fun pins s' σ H' Q I ⟨_, _, h, q⟩ => (h s H C cl fp).run pins s' σ H' Q I q⟩
def tAnyBT (X : Cx) (scope : Scope) (ifs : List Expr) : TT := fun σ H Q => ∃ ρ S, (Blk X scope fun Y => PTs Y ifs (tDT X.K ρ S)) ∧ tDT X.K ρ S σ H Q
theorem pts_anyB {scope : Scope} {ifs : List Expr} : Blk X scope fun Y => PTs Y ifs (tAnyBT X scope ifs) := fun s H C cl fp => ⟨fun pins s' σ H' Q I ⟨_, _, h, q⟩ => (h s H C cl fp).run pins s' σ H' Q I q⟩
theorem xts_nil : PTs X [] (tDT X.K ρ (fun z => z = true)) := ⟨fun pins s σ H Q I ⟨G, H0, l, sl, k⟩ => pts_nil.run pins s σ H Q I (k G H true (Tr.refl l) rfl)⟩
theorem xts_one {c : Expr} {S : Bool → Prop} (h : XT X c ρ S) : PTs X [c] (tDT X.K ρ S) := pts_one h
/-- [elt for target in iter if ..]: I i acc: after i turns the list is acc -/
theorem xf_lc {elt tg iter : Expr} {ifs : List Expr} {scope : Scope} {own : List (Str × Nat)} {τ : D → Env → Env → Prop} {ds : List D} (I : Nat → List D → Prop) (hc : X.calm = true) (hN : X.N.Nodup) (hi : XI X tg iter ρ ds) (ok : BlkOk X.N X.env.scope scope own)
    (hg : Blk X scope fun Y => XG Y tg τ (own.map (·.2))) (hl : ds.length ≤ 10000) (h0 : I 0 [])
    (hs : ∀ (i : Nat) d acc, ds[i]? = some d → I i acc → ∃ ρ2 b, τ d (wipeE ρ (own.map (·.2))) ρ2 ∧ (Blk X scope fun Y => PTs Y ifs (tDT X.K ρ2 (fun z => z = b))) ∧ (b = false → I (i + 1) acc) ∧ (b = true → ∃ S, (Blk X scope fun Y => PE Y elt (tD X.K ρ2 S)) ∧ ∀ e, S e → noOl e = true ∧ I (i + 1) (acc ++ [e])))
    (hf : ∀ x, foldedSetIterable iter X.env x = pure x := by intro _; rfl) : XF X (.ListComp elt [⟨tg, iter, ifs, 0⟩] scope pos) ρ (fun es => I ds.length es) := by
  refine pe_imp (pe_lc (g := tDG X.K τ (own.map (·.2))) (tt := tAnyBT X scope ifs) (te := tAnyB X scope elt) hc hN hi ok hg pts_anyB pe_anyB hf) fun σ H Q ⟨G, H0, l, sl, k⟩ => ⟨G, H0, l, sl, fun G' H' J t wk DD hD => ?_⟩
  have hD0 : H DD = none := t.fresh0 hD
  have t0 : Tr G H G' (upd H' DD (.lst [])) := t.trans (Tr.own t.ok hD)
  refine ⟨fun i m H1 => m = ds.length - i ∧ i ≤ ds.length ∧ ∃ G1 vs acc, Tr G H G1 H1 ∧ Ex G' G1 ∧ G1 DD = none ∧ H1 DD = some (.lst vs) ∧ DaL X.K G1 vs acc ∧ acc.length ≤ i ∧ I i acc,
    ⟨ds.length, rfl, Nat.zero_le _, G', [], [], t0, Ex.refl _, t.ok.none hD, upd_same, DaL.nil, Nat.le_refl _, h0⟩, ?_⟩
  rintro i m H1 ⟨rfl, hi, G1, vs, acc, t1, ex1, g1, h1, d1, hlen, hI⟩
  obtain ⟨go, st⟩ := wk G1 H1 i ex1 t1.ok
  by_cases hlt : i < ds.length
  · obtain ⟨go1, go2⟩ := go ds[i] (by simp [hlt])
    refine .inr ⟨go1, fun H2 => i < ds.length ∧ ∃ G1 vs acc, Tr G H G1 H2 ∧ Ex G' G1 ∧ G1 DD = none ∧ H2 DD = some (.lst vs) ∧ DaL X.K G1 vs acc ∧ acc.length ≤ i + 1 ∧ I (i + 1) acc, fun H2 ⟨a, b⟩ => ⟨ds.length - (i + 1), by omega, rfl, by omega, b⟩, fun x H2 y => ?_⟩
    obtain ⟨G2, t2, da⟩ := go2 x H2 y
    have pv : ∀ {Ga Ha Gb Hb : Hp} {ws : List V}, Tr Ga Ha Gb Hb → Ga DD = none → Ha DD = some (.lst ws) → Gb DD = none ∧ Hb DD = some (.lst ws) := fun t g h => ⟨t.pv _ _ h g, t.hh _ _ h (by rw [g]; exact fun z => nomatch z)⟩
    obtain ⟨g2, h2⟩ := pv t2 g1 h1
    obtain ⟨ρ2, b, hτ, hT, hF, hE⟩ := hs i ds[i] acc (by simp [hlt]) hI
    refine ⟨G2, H0, wipeE ρ (own.map (·.2)), _, ρ2, t2.ok, (sl.mono (t1.trans t2)).wipe _, da, hτ, fun σ3 sl3 c3 => ⟨c3.wipe, ?_⟩⟩
    refine ⟨ρ2, _, hT, G2, H0, t2.ok, sl3, fun G3 H3 z t3 e => ?_⟩
    subst e
    obtain ⟨g3, h3⟩ := pv t3 g2 h2
    cases z with
    | false => exact iteF ⟨hlt, G3, vs, acc, (t1.trans t2).trans t3, (ex1.trans t2.gg).trans t3.gg, g3, h3, d1.mono (t2.gg.trans t3.gg), by omega, hF rfl⟩
    | true =>
      obtain ⟨S, hS, hn⟩ := hE rfl
      refine iteT ⟨ρ2, S, hS, G3, H0, t3.ok, sl3.mono t3, fun G4 H4 v e t4 i4 s4 => ?_⟩
      obtain ⟨n1, n2⟩ := hn e s4
      obtain ⟨g4, h4⟩ := pv t4 g3 h3
      refine ⟨vs, h4, ?_, hlt, G4, vs ++ [v], acc ++ [e], (((t1.trans t2).trans t3).trans t4).mut hD0 g4, ((ex1.trans t2.gg).trans t3.gg).trans t4.gg, g4, upd_same, (d1.mono ((t2.gg.trans t3.gg).trans t4.gg)).snoc (i4.da (n1)), by simp; omega, n2⟩
      rw [d1.1]
      exact Nat.lt_of_lt_of_le (Nat.lt_of_le_of_lt hlen (Nat.lt_of_lt_of_le hlt hl)) (by decide)
  · have e : i = ds.length := by omega
    subst e
    exact .inl ⟨st (Nat.le_refl _), k G1 H1 DD vs acc t1 hD0 g1 h1 d1 hI⟩
/-- [f x for x in ..]: no test -/
theorem xf_map {elt tg iter : Expr} {scope : Scope} {own : List (Str × Nat)} {τ : D → Env → Env → Prop} {ds : List D} (f : D → D) (hc : X.calm = true) (hN : X.N.Nodup) (hi : XI X tg iter ρ ds) (ok : BlkOk X.N X.env.scope scope own) (hg : Blk X scope fun Y => XG Y tg τ (own.map (·.2))) (hl : ds.length ≤ 10000)
    (hs : ∀ d, d ∈ ds → ∃ ρ2, τ d (wipeE ρ (own.map (·.2))) ρ2 ∧ noOl (f d) = true ∧ (Blk X scope fun Y => PE Y elt (tD X.K ρ2 (fun z => z = f d))))
    (hf : ∀ x, foldedSetIterable iter X.env x = pure x := by intro _; rfl) : XF X (.ListComp elt [⟨tg, iter, [], 0⟩] scope pos) ρ (fun z => z = ds.map f) := by
  refine xf_imp (xf_lc (fun i acc => acc = (ds.take i).map f) hc hN hi ok hg hl rfl (fun i d acc hd hI => ?_) hf) fun es h => by rw [h, List.take_length]
  obtain ⟨ρ2, h1, h2, h3⟩ := hs d (List.mem_of_getElem? hd)
  refine ⟨ρ2, true, h1, fun _ _ _ _ _ => xts_nil, (fun z => nomatch z), fun _ => ⟨_, h3, fun e he => ?_⟩⟩
  subst he hI
  exact ⟨h2, by rw [List.take_add_one, hd]; simp⟩
/-- [f x for x in .. if p x] -/
theorem xf_fm {elt tg iter c : Expr} {scope : Scope} {own : List (Str × Nat)} {τ : D → Env → Env → Prop} {ds : List D} (p : D → Bool) (f : D → D) (hc : X.calm = true) (hN : X.N.Nodup) (hi : XI X tg iter ρ ds) (ok : BlkOk X.N X.env.scope scope own) (hg : Blk X scope fun Y => XG Y tg τ (own.map (·.2))) (hl : ds.length ≤ 10000)
    (hs : ∀ d, d ∈ ds → ∃ ρ2, τ d (wipeE ρ (own.map (·.2))) ρ2 ∧ (Blk X scope fun Y => PT Y c (tDT X.K ρ2 (fun z => z = p d))) ∧ (p d = true → noOl (f d) = true ∧ (Blk X scope fun Y => PE Y elt (tD X.K ρ2 (fun z => z = f d)))))
    (hf : ∀ x, foldedSetIterable iter X.env x = pure x := by intro _; rfl) : XF X (.ListComp elt [⟨tg, iter, [c], 0⟩] scope pos) ρ (fun z => z = (ds.filter p).map f) := by
  refine xf_imp (xf_lc (fun i acc => acc = ((ds.take i).filter p).map f) hc hN hi ok hg hl rfl (fun i d acc hd hI => ?_) hf) fun es h => by rw [h, List.take_length]
  obtain ⟨ρ2, h1, h2, h3⟩ := hs d (List.mem_of_getElem? hd)
  refine ⟨ρ2, p d, h1, fun a b e f g => pts_one (h2 a b e f g), fun z => ?_, fun z => ?_⟩
  · rw [hI, List.take_add_one, hd]; simp [z]
  · obtain ⟨h4, h5⟩ := h3 z
    refine ⟨_, h5, fun e he => ?_⟩
    subst he hI
    exact ⟨h4, by rw [List.take_add_one, hd]; simp [z]⟩
end
end NL

/-! text DL4 -/
set_option Elab.async false
set_option linter.all false
set_option maxRecDepth 100000
set_option maxHeartbeats 4000000
/-! The D-layer: defs and their calls. -/
namespace NL
open PySem PySem.Spec L2
open PyProof.Rows (envOfC)

/-- a def's promise: R tells, of the arguments, what holds of the answer -/
abbrev Rel := List D → (D → Prop) → Prop
def spR (K : PySem.W.Frag) (R : Rel) : Sp := fun vs H Q _ => ∃ G ds T, Le G H ∧ DaL K G vs ds ∧ R ds T ∧ ∀ G' H' v d, Tr G H G' H' → Da K G' v d → T d → Q v H'
/-- __init__'s -/
def spI (K : PySem.W.Frag) (C : Addr) (R : Rel) : Sp := fun vs H Q _ => ∃ G H0 ds T p dx vs', vs = .ref p :: vs' ∧ Tr G H0 G H ∧ H0 p = none ∧ H0 dx = none ∧ G p = none ∧ H p = some (.ins C dx []) ∧ DaL K G vs' ds ∧ R ds T ∧
  ∀ G' H' fs dx', Tr G H0 G' H' → G' p = none → H' p = some (.ins C dx' fs) → (∀ G2, G2 p = some (.ins C dx' fs) → ∃ d, Da K G2 (.ref p) d ∧ T d) → Q .non H'
def startE (N : List Str) (ds : List D) : Env := ds.map some ++ List.replicate (N.length - ds.length) none
theorem Sl.start {K : PySem.W.Frag} {G H : Hp} {N : List Str} {vs : List V} {ds : List D} (h : DaL K G vs ds) : Sl K H G H (start N vs) (startE N ds) := by
  have key : ∀ (i : Nat) d, (startE N ds)[i]? = some (some d) → ds[i]? = some d := fun i d e => by
    unfold startE at e
    by_cases hi : i < ds.length
    · rw [List.getElem?_append_left (by simpa using hi), List.getElem?_map] at e
      cases q : ds[i]? with
      | none => rw [q] at e; cases e
      | some x => rw [q] at e; cases e; rfl
    · rw [List.getElem?_append_right (by simpa using hi), List.getElem?_replicate] at e
      split at e <;> cases e
  refine ⟨by simp [L2.start, startE, h.1], fun i d e => ?_, fun i j d e p n a b c => ?_⟩
  · obtain ⟨v, hv, dv⟩ := h.at_ (key i d e)
    refine ⟨v, ?_, Is.of dv⟩
    unfold L2.start
    have hi := (List.getElem?_eq_some_iff.mp hv).1
    rw [List.getElem?_append_left (by simpa using hi), List.getElem?_map, hv]; rfl
  · have q := key i d a
    have hi := (List.getElem?_eq_some_iff.mp q).1
    obtain ⟨v, _, z⟩ := h.at_ q
    cases z <;> cases c
section
variable {P : Program} {w : World} {K : PySem.W.Frag} {mg : Str → Option Value} {base : Heap} {x qual : Str} {params : Arguments} {body : List Stmt} {scope : Scope} {dvs : List V} {kws : List (Str × V)} {f : Addr} {fd : FuncData}
abbrev cxD (P : Program) (w : World) (K : PySem.W.Frag) (mg : Str → Option Value) (base : Heap) (N : List Str) (qual : Str) (scope : Scope) (f : Addr) (cdv : Value) (A : Around) (outer : List PySem.Env) (s : Shared) (H : Hp) (E : XK) : Cx := (cxOf CX0 P w K mg base N qual scope f cdv A outer s H E).nox
theorem fn_R {N ps : List Str} {k : Nat} {R : Rel} (F : FunD K x qual params body scope dvs kws f fd) (S : FnScope N ps scope) (len : ∀ ds T, R ds T → ds.length = ps.length)
    (hb : ∀ (cdv : Value) (A : Around) (outer : List PySem.Env) (s : Shared) (H : Hp) (E : XK), Room k (A.deeper (envOfC qual scope s.heap.objs.size f cdv)) → ∀ ds T, R ds T →
      XSs (cxD P w K mg base N qual scope f cdv A outer s H E) body (startE N ds) { nx := fun _ => T .non, rt := fun d => T d ∧ noOl d = true }) : FnOk P w K mg base CX0 (k + 1) f fd ps (spR K R) := by
  refine F.ok S (fun vs H Q E ⟨G, ds, T, _, d, r, _⟩ => d.1.trans (len ds T r)) (fun cdv A outer s H vs Q E hr ⟨G, ds, T, l, da, r, k⟩ => ?_)
  refine ⟨_, (hb cdv A outer s H E hr ds T r).nox, ?_⟩
  refine ⟨G, H, G, Tr.refl l, Sl.start da, fun G' H' σ' ρ' t sl n => k G' H' _ _ t .non n, fun _ _ _ _ _ _ z => z.elim, fun _ _ _ _ _ _ z => z.elim, fun G' H' v d t i s => ?_⟩
  cases d with
  | ol es =>
    obtain ⟨p, us, rfl, h0, hg, hp, hd⟩ := i
    exact k _ H' _ _ (t.frz h0 hg hp pot_lst) (.lst' (by rw [upd_same]) (hd.mono (Ex.upd hg))) s.1
  | ob C fs => cases s.2
  | _ => exact k G' H' v _ t i s.1
/-- __init__, its own object in slot 0 -/
theorem fn_I {C : Addr} {N ps : List Str} {k : Nat} {R : Rel} (F : FunD K x qual params body scope dvs kws f fd) (S : FnScope N ps scope) (len : ∀ ds T, R ds T → ds.length + 1 = ps.length)
    (hb : ∀ (cdv : Value) (A : Around) (outer : List PySem.Env) (s : Shared) (H : Hp) (E : XK), Room k (A.deeper (envOfC qual scope s.heap.objs.size f cdv)) → ∀ p ds T, R ds T →
      XSs (cxD P w K mg base N qual scope f cdv A outer s H E) body (startE N (.ob p C [] :: ds)) { nx := fun ρ => ∃ fs, ρ[0]? = some (some (.ob p C fs)) ∧ ∀ (G : Hp) dx, G p = some (.ins C dx fs) → ∃ d, Da K G (.ref p) d ∧ T d, rt := fun _ => False }) :
    FnOk P w K mg base CX0 (k + 1) f fd ps (spI K C R) := by
  refine F.ok S (fun vs H Q E ⟨G, H0, ds, T, p, dx, vs', e, _, _, _, _, _, d, r, _⟩ => by rw [e, ← len ds T r, ← d.1]; rfl) (fun cdv A outer s H vs Q E hr ⟨G, H0, ds, T, p, dx, vs', e, t, h0, h0x, hg, hp, da, r, k⟩ => ?_)
  subst e
  refine ⟨_, (hb cdv A outer s H E hr p ds T r).nox, ?_⟩
  have key : ∀ (i : Nat) d, (startE N ds)[i]? = some (some d) → ds[i]? = some d := fun i d e => by
    unfold startE at e
    by_cases hi : i < ds.length
    · rw [List.getElem?_append_left (by simpa using hi), List.getElem?_map] at e
      cases q : ds[i]? with
      | none => rw [q] at e; cases e
      | some x => rw [q] at e; cases e; rfl
    · rw [List.getElem?_append_right (by simpa using hi), List.getElem?_replicate] at e
      split at e <;> cases e
  have key2 : ∀ (i : Nat) d, (startE N (.ob p C [] :: ds))[i + 1]? = some (some d) → ds[i]? = some d := fun i d e => by
    unfold startE at e
    by_cases hi : i < ds.length
    · rw [List.getElem?_append_left (by simpa using hi), List.getElem?_map, List.getElem?_cons_succ] at e
      cases q : ds[i]? with
      | none => rw [q] at e; cases e
      | some x => rw [q] at e; cases e; rfl
    · rw [List.getElem?_append_right (by simpa using hi), List.getElem?_replicate] at e
      split at e <;> cases e
  have sl : Sl K H0 G H (L2.start N (.ref p :: vs')) (startE N (.ob p C [] :: ds)) := by
    have own : ∀ (i : Nat) d, (startE N (.ob p C [] :: ds))[i]? = some (some d) → noOl d = false → i = 0 := fun i d e n => by
      cases i with
      | zero => rfl
      | succ i =>
        obtain ⟨v, _, z⟩ := da.at_ (key2 i d e)
        cases z <;> cases n
    refine ⟨by simp [L2.start, startE, da.1], fun i d e => ?_, fun i j d e q n a b c c' => ?_⟩
    · cases i with
      | zero =>
        refine ⟨.ref p, rfl, ?_⟩
        have : d = .ob p C [] := by
          unfold startE at e
          simp at e
          exact e.symm
        subst this
        exact is_ob h0 hg hp
      | succ i =>
        obtain ⟨v, hv, dv⟩ := da.at_ (key2 i d e)
        refine ⟨v, ?_, Is.of dv⟩
        unfold L2.start
        have hi := (List.getElem?_eq_some_iff.mp hv).1
        rw [List.getElem?_append_left (by simpa using hi), List.getElem?_map, List.getElem?_cons_succ, hv]; rfl
    · exact absurd ((own i d a c).trans (own j e b c').symm) n
  refine ⟨G, H0, G, t, sl, fun G' H' σ' ρ' t' sl' ⟨fs, h1, h2⟩ => ?_, fun _ _ _ _ _ _ z => z.elim, fun _ _ _ _ _ _ z => z.elim, fun _ _ _ _ _ _ z => z.elim⟩
  obtain ⟨v, hv, rfl, _, g', dx', hp'⟩ := sl'.at_ 0 _ h1
  exact k G' H' fs dx' t' g' hp' fun G2 q => h2 G2 dx' q
end
end NL

/-! text DL5 -/
set_option Elab.async false
set_option linter.all false
set_option maxRecDepth 100000
set_option maxHeartbeats 4000000
/-! The D-layer: calls, fields, properties. -/
namespace NL
open PySem PySem.Spec L2

/-! ### fields by name -/
theorem fNum_plain (l r w : Int) : (fNum l r w).lookup ("own_plain" : Str) = some (.int l) := by
  unfold fNum
  rw [lookup_putF, if_neg (by decide +kernel), lookup_putF, if_neg (by decide +kernel), lookup_putF, if_pos rfl]
theorem fNum_side (l r w : Int) : (fNum l r w).lookup ("own_side" : Str) = some (.int r) := by
  unfold fNum
  rw [lookup_putF, if_neg (by decide +kernel), lookup_putF, if_pos rfl]
theorem fNum_low (l r w : Int) : (fNum l r w).lookup ("own_low" : Str) = some (.int w) := by
  unfold fNum
  rw [lookup_putF, if_pos rfl]
theorem fNum_no (l r w : Int) {m : Str} (h1 : ¬ m = "own_plain") (h2 : ¬ m = "own_side") (h3 : ¬ m = "own_low") : (fNum l r w).lookup m = none := by
  unfold fNum
  rw [lookup_putF, if_neg h3, lookup_putF, if_neg h2, lookup_putF, if_neg h1]; rfl
theorem fRat_top (t b : Int) : (fRat t b).lookup ("own_top" : Str) = some (.int t) := by
  unfold fRat
  rw [lookup_putF, if_neg (by decide +kernel), lookup_putF, if_pos rfl]
theorem fRat_bottom (t b : Int) : (fRat t b).lookup ("own_bottom" : Str) = some (.int b) := by
  unfold fRat
  rw [lookup_putF, if_pos rfl]
theorem fRat_no (t b : Int) {m : Str} (h1 : ¬ m = "own_top") (h2 : ¬ m = "own_bottom") : (fRat t b).lookup m = none := by
  unfold fRat
  rw [lookup_putF, if_neg h2, lookup_putF, if_neg h1]; rfl
theorem fPar_left (l r w : Int) : (fPar l r w).lookup ("own_left" : Str) = some (.int l) := by
  unfold fPar
  rw [lookup_putF, if_neg (by decide +kernel), lookup_putF, if_neg (by decide +kernel), lookup_putF, if_pos rfl]
theorem fPar_right (l r w : Int) : (fPar l r w).lookup ("own_right" : Str) = some (.int r) := by
  unfold fPar
  rw [lookup_putF, if_neg (by decide +kernel), lookup_putF, if_pos rfl]
theorem fPar_below (l r w : Int) : (fPar l r w).lookup ("own_below" : Str) = some (.int w) := by
  unfold fPar
  rw [lookup_putF, if_pos rfl]

section
variable {P : Program} {w : World} {K : PySem.W.Frag} {mg : Str → Option Value} {base : Heap}
/-- a def of the module with its promise -/
structure Fk (P : Program) (w : World) (K : PySem.W.Frag) (mg : Str → Option Value) (base : Heap) (x : Str) (k : Nat) (R : Rel) : Prop where
  ex : ∃ (f : Addr) (fd : FuncData) (ps : List Str), FnOk P w K mg base CX0 k f fd ps (spR K R) ∧ mg x = some (.ref f) ∧ PySem.W.keepIn K (.ref f) = true ∧ Binds K fd ps []
/-- a method -/
structure Mth (P : Program) (w : World) (K : PySem.W.Frag) (mg : Str → Option Value) (base : Heap) (C : Addr) (m : Str) (k : Nat) (R : Rel) : Prop where
  ex : ∃ (f : Addr) (fd : FuncData) (ps : List Str), FnOk P w K mg base CX0 k f fd ps (spR K R) ∧ Cls K C ∧ Meth K C m f ∧ Binds K fd ps []
/-- a property -/
structure Prp (P : Program) (w : World) (K : PySem.W.Frag) (mg : Str → Option Value) (base : Heap) (C : Addr) (m : Str) (k : Nat) (R : Rel) : Prop where
  ex : ∃ (p f : Addr) (fd : FuncData) (ps : List Str), FnOk P w K mg base CX0 k f fd ps (spR K R) ∧ Cls K C ∧ PropOf K C m p f ∧ Binds K fd ps []
/-- a class's making, dvs the defaults that fill up -/
structure Mkr (P : Program) (w : World) (K : PySem.W.Frag) (mg : Str → Option Value) (base : Heap) (x : Str) (k : Nat) (dvs : List D) (R : Rel) : Prop where
  ex : ∃ (C f : Addr) (fd : FuncData) (ps : List Str) (ds : List Value) (vs : List V), Mk K C f ∧ FnOk P w K mg base CX0 k f fd ps (spI K C R) ∧ mg x = some (.ref C) ∧ Binds K fd ps ds ∧ Vals vs ds ∧ ∀ G, DaL K G vs dvs
end
section
variable {X : Cx} {ρ : Env} {S : D → Prop} {pos : Pos} {k : Nat} {R : Rel}
theorem IsL.all {K : PySem.W.Frag} {H0 G H : Hp} {vs : List V} {ds : List D} (h : IsL K H0 G H vs ds) (n : ds.all noOl = true) : DaL K G vs ds := h.dal' n
/-- f(e, ..) -/
theorem xe_call {x : Str} {p : Pos} {e : Expr} {es : List Expr} {Ss : List D → Prop} (F : Fk X.prog X.w X.K X.mg X.base x k R) (hr : Room k X.A) (ha : XA X (e :: es) ρ Ss) (wh : ∀ ds, Ss ds → ds.all noOl = true ∧ ∃ T, R ds T ∧ ∀ d, T d → S d) (hg : Gl X x := by rfl)
    (hdb : (x == ("__debug__" : Str)) = false := by decide) (he : starEach (e :: es) X.env = (false, eval e X.env) :: starEach es X.env := by rfl) (hpl : (backTo pos (starEach es X.env)).any (·.1) = false := by rfl) : XE X (.Call (.Name x p) (e :: es) [] pos) ρ S := by
  obtain ⟨f, fd, ps, F, hm, hk, hb⟩ := F.ex
  refine pe_imp (pe_call F hr hg hm hk hb .nil pass0 ha hdb he hpl) fun σ H Q ⟨G, H0, l, sl, k⟩ => ⟨G, H0, l, sl, fun G1 H1 vs ds t1 i1 s1 => ?_⟩
  obtain ⟨w1, T, w2, w3⟩ := wh ds s1
  rw [List.append_nil]
  exact ⟨G1, ds, T, t1.ok, i1.all w1, w2, fun G2 H2 v d t2 da s2 => k G2 H2 v d (t1.trans t2) (Is.of da) (w3 d s2)⟩
theorem xv_call {x : Str} {p : Pos} {e : Expr} {es : List Expr} {ds : List D} {d : D} (F : Fk X.prog X.w X.K X.mg X.base x k R) (hr : Room k X.A) (ha : XVA X (e :: es) ρ ds) (r : R ds (fun z => z = d)) (n : ds.all noOl = true := by rfl) (hg : Gl X x := by rfl)
    (hdb : (x == ("__debug__" : Str)) = false := by decide) (he : starEach (e :: es) X.env = (false, eval e X.env) :: starEach es X.env := by rfl) (hpl : (backTo pos (starEach es X.env)).any (·.1) = false := by rfl) : XV X (.Call (.Name x p) (e :: es) [] pos) ρ d :=
  xe_call F hr ha (fun _ s => by subst s; exact ⟨n, _, r, fun _ z => z⟩) hg hdb he hpl
theorem xv_call0 {x : Str} {p : Pos} {d : D} (F : Fk X.prog X.w X.K X.mg X.base x k R) (hr : Room k X.A) (r : R [] (fun z => z = d)) (hg : Gl X x := by rfl) (hdb : (x == ("__debug__" : Str)) = false := by decide) : XV X (.Call (.Name x p) [] [] pos) ρ d := by
  obtain ⟨f, fd, ps, F, hm, hk, hb⟩ := F.ex
  refine pe_imp (pe_call0 F hr hg hm hk hb .nil pass0 hdb) fun σ H Q ⟨G, H0, l, sl, k⟩ => ?_
  exact ⟨G, [], _, l, DaL.nil, r, fun G2 H2 v d t2 da s2 => k G2 H2 v d t2 (Is.of da) s2⟩
/-- an instance of the class at C without the name m of its own -/
def InsOf (K : PySem.W.Frag) (C : Addr) (m : Str) (d : D) : Prop := ∀ G v, Da K G v d → ∃ a dx fs, v = .ref a ∧ G a = some (.ins C dx fs) ∧ fs.lookup m = none
theorem ins_not_pot {C dx : Addr} {fs : List (Str × V)} : HO.ins C dx fs ≠ potMark := fun h => nomatch h
theorem insNum {K : PySem.W.Frag} {m : Str} {v : GQ} (h1 : ¬ m = "own_plain" := by decide +kernel) (h2 : ¬ m = "own_side" := by decide +kernel) (h3 : ¬ m = "own_low" := by decide +kernel) : InsOf K (He.ga K "Twin") m (.num v) := fun G v h => by
  cases h with
  | @num p dx l r w _ e n => exact ⟨p, dx, _, rfl, e, fNum_no l r w h1 h2 h3⟩
theorem insRat {K : PySem.W.Frag} {m : Str} {v : Rat} (h1 : ¬ m = "own_top" := by decide +kernel) (h2 : ¬ m = "own_bottom" := by decide +kernel) : InsOf K (He.ga K "Ratio") m (.rat v) := fun G v h => by
  cases h with
  | @rat p dx l r _ e n => exact ⟨p, dx, _, rfl, e, fRat_no l r h1 h2⟩
/-- o.m(e, ..), o known for good -/
theorem xv_meth {o e : Expr} {es : List Expr} {m : Str} {apos : Pos} {C : Addr} {self : D} {ds : List D} {d : D} {pl : Sem Bool} (F : Mth X.prog X.w X.K X.mg X.base C m k R) (hr : Room k X.A) (ho : XV X o ρ self) (hI : InsOf X.K C m self) (hn : noOl self = true) (ha : XVA X (e :: es) ρ ds) (r : R (self :: ds) (fun z => z = d)) (n : ds.all noOl = true)
    (hst : starEach (e :: es) X.env = (false, eval e X.env) :: starEach es X.env := by rfl) (hpl : (backTo pos (starEach es X.env)).any (·.1) = false := by rfl)
    (ht : eval (.Call (.Attribute o m apos) (e :: es) [] pos) X.env = (do
      let ov ← eval o X.env
      standAt apos.atName
      let (f, first) ← holding [ov] (getMethod ov m pl)
      callWith pos f first (backTo pos (starEach (e :: es) X.env)) (backToKw pos (keywordEach [] X.env))) := by rfl) : XV X (.Call (.Attribute o m apos) (e :: es) [] pos) ρ d := by
  obtain ⟨f, fd, ps, F, hc, hm, hb⟩ := F.ex
  refine pe_imp (pe_meth ho hc hm F hr hb .nil pass0 ha hst hpl ht) fun σ H Q ⟨G, H0, l, sl, k⟩ => ⟨G, H0, l, sl, fun G1 H1 v z t1 i1 s1 => ?_⟩
  subst s1
  have da := i1.da hn
  obtain ⟨a, dx, fs, rfl, e1, e2⟩ := hI G1 v da
  refine ⟨a, dx, fs, rfl, t1.ok.at_ _ _ e1 ins_not_pot, e2, G1, H0, t1.ok, sl.mono t1, fun G2 H2 vs zs t2 i2 s2 => ?_⟩
  subst s2
  rw [List.append_nil]
  exact ⟨G2, _, _, t2.ok, DaL.cons (da.mono t2.gg) (i2.all n), r, fun G3 H3 u y t3 da3 s3 => k G3 H3 u y ((t1.trans t2).trans t3) (Is.of da3) s3⟩
theorem xv_meth0 {o : Expr} {m : Str} {apos : Pos} {C : Addr} {self : D} {d : D} {pl : Sem Bool} (F : Mth X.prog X.w X.K X.mg X.base C m k R) (hr : Room k X.A) (ho : XV X o ρ self) (hI : InsOf X.K C m self) (hn : noOl self = true) (r : R [self] (fun z => z = d))
    (ht : eval (.Call (.Attribute o m apos) [] [] pos) X.env = (do
      let ov ← eval o X.env
      standAt apos.atName
      let (f, first) ← holding [ov] (getMethod ov m pl)
      callWith pos f first (backTo pos (starEach [] X.env)) (backToKw pos (keywordEach [] X.env))) := by rfl) : XV X (.Call (.Attribute o m apos) [] [] pos) ρ d := by
  obtain ⟨f, fd, ps, F, hc, hm, hb⟩ := F.ex
  refine pe_imp (pe_meth0 ho hc hm F hr hb .nil pass0 ht) fun σ H Q ⟨G, H0, l, sl, k⟩ => ⟨G, H0, l, sl, fun G1 H1 v z t1 i1 s1 => ?_⟩
  subst s1
  have da := i1.da hn
  obtain ⟨a, dx, fs, rfl, e1, e2⟩ := hI G1 v da
  refine ⟨a, dx, fs, rfl, t1.ok.at_ _ _ e1 ins_not_pot, e2, ?_⟩
  exact ⟨G1, _, _, t1.ok, DaL.cons da DaL.nil, r, fun G3 H3 u y t3 da3 s3 => k G3 H3 u y (t1.trans t3) (Is.of da3) s3⟩
/-- e.f, a property -/
theorem xv_prop {e : Expr} {f : Str} {C : Addr} {self d : D} (F : Prp X.prog X.w X.K X.mg X.base C f k R) (hr : Room (k + 1) X.A) (ho : XV X e ρ self) (hI : InsOf X.K C f self) (hn : noOl self = true) (r : R [self] (fun z => z = d))
    (hab : attributeBase e f X.env (eval e X.env) = eval e X.env := by rfl) : XV X (.Attribute e f pos) ρ d := by
  obtain ⟨p, g, fd, ps, F, hc, hm, hb⟩ := F.ex
  refine pe_imp (pe_prop ho hc hm F hr hb .nil pass0 hab) fun σ H Q ⟨G, H0, l, sl, k⟩ => ⟨G, H0, l, sl, fun G1 H1 v z t1 i1 s1 => ?_⟩
  subst s1
  have da := i1.da hn
  obtain ⟨a, dx, fs, rfl, e1, e2⟩ := hI G1 v da
  refine ⟨a, dx, fs, rfl, t1.ok.at_ _ _ e1 ins_not_pot, ?_⟩
  exact ⟨G1, _, _, t1.ok, DaL.cons da DaL.nil, r, fun G3 H3 u y t3 da3 s3 => k G3 H3 u y (t1.trans t3) (Is.of da3) s3⟩
/-- C(e, ..) -/
theorem xv_make {x : Str} {p : Pos} {e : Expr} {es : List Expr} {ds dvs : List D} {d : D} (F : Mkr X.prog X.w X.K X.mg X.base x k dvs R) (hr : Room (k + 1) X.A) (ha : XVA X (e :: es) ρ ds) (r : R (ds ++ dvs) (fun z => z = d)) (n : ds.all noOl = true := by rfl) (hg : Gl X x := by rfl)
    (hdb : (x == ("__debug__" : Str)) = false := by decide) (he : starEach (e :: es) X.env = (false, eval e X.env) :: starEach es X.env := by rfl) (hpl : (backTo pos (starEach es X.env)).any (·.1) = false := by rfl) : XV X (.Call (.Name x p) (e :: es) [] pos) ρ d := by
  obtain ⟨C, f, fd, ps, us, ws, M, F, hm, hb, hv, hd⟩ := F.ex
  refine pe_imp (pe_make M F hr hg hm hb hv pass0 ha hdb he hpl) fun σ H Q ⟨G, H0, l, sl, k⟩ => ⟨G, H0, l, sl, fun G1 H1 vs zs t1 i1 s1 y dx hy hdx hne => ?_⟩
  subst s1
  have tA : Tr G1 H1 G1 (upd H1 dx (.own y)) := Tr.own t1.ok hdx
  have hy2 : upd H1 dx (.own y) y = none := by rw [upd_ne (Ne.symm hne)]; exact hy
  have tB : Tr G1 H1 G1 (upd (upd H1 dx (.own y)) y (.ins C dx [])) := tA.trans (Tr.own tA.ok hy2)
  refine ⟨G1, H1, zs ++ dvs, _, y, dx, vs ++ ws, rfl, tB, hy, hdx, t1.ok.none hy, upd_same, (i1.all n).appd (hd G1), r, fun G' H' fs dx' t' g' h' dd => ⟨rfl, ?_⟩⟩
  have t2 := t'.frz hy g' h' ins_not_pot
  obtain ⟨z, da, e⟩ := dd _ (upd_same (H := G') (a := y) (o := .ins C dx' fs))
  subst e
  exact k _ H' (.ref y) _ (t1.trans t2) (Is.of da) rfl
/-! ### fields -/
theorem xe_fld {e : Expr} {f : Str} {C : Addr} {Sa : D → Prop} (he : XE X e ρ Sa) (hc : Cls X.K C) (hn : NoAttr X.K C f) (w : ∀ H0 G H v d, Le G H → Is X.K H0 G H v d → Sa d → ∃ a dx fs u z, v = .ref a ∧ H a = some (.ins C dx fs) ∧ fs.lookup f = some u ∧ Is X.K H0 G H u z ∧ S z)
    (hab : attributeBase e f X.env (eval e X.env) = eval e X.env := by rfl) : XE X (.Attribute e f pos) ρ S := by
  refine pe_imp (pe_fld he hab) fun σ H Q ⟨G, H0, l, sl, k⟩ => ⟨G, H0, l, sl, fun G1 H1 v z t1 i1 s1 => ?_⟩
  obtain ⟨a, dx, fs, u, y, e1, e2, e3, e4, e5⟩ := w H0 G1 H1 v z t1.ok i1 s1
  exact ⟨a, C, dx, fs, u, e1, e2, hc, hn, e3, k G1 H1 u y t1 e4 e5⟩
theorem xv_num {e : Expr} {f : Str} {v : GQ} {l r w n : Int} (he : XV X e ρ (.num v)) (hv : nrm l r w v) (hc : Cls X.K (He.ga X.K "Twin")) (hn : NoAttr X.K (He.ga X.K "Twin") f) (hl : (fNum l r w).lookup f = some (.int n))
    (hab : attributeBase e f X.env (eval e X.env) = eval e X.env := by rfl) : XV X (.Attribute e f pos) ρ (.int n) :=
  xe_fld he hc hn (fun H0 G H u d l' i s => by
    subst s
    cases i with
    | @num p dx l1 r1 w1 _ e1 e2 =>
      obtain ⟨rfl, rfl, rfl⟩ := e2.uniq hv
      exact ⟨p, dx, _, _, .int n, rfl, l'.at_ _ _ e1 ins_not_pot, hl, .int _, rfl⟩) hab
theorem xv_rat {e : Expr} {f : Str} {q : Rat} {t b n : Int} (he : XV X e ρ (.rat q)) (hv : nrm t 0 b ⟨q, 0⟩) (hc : Cls X.K (He.ga X.K "Ratio")) (hn : NoAttr X.K (He.ga X.K "Ratio") f) (hl : (fRat t b).lookup f = some (.int n))
    (hab : attributeBase e f X.env (eval e X.env) = eval e X.env := by rfl) : XV X (.Attribute e f pos) ρ (.int n) :=
  xe_fld he hc hn (fun H0 G H u d l' i s => by
    subst s
    cases i with
    | @rat p dx l1 r1 _ e1 e2 =>
      obtain ⟨rfl, _, rfl⟩ := e2.uniq hv
      exact ⟨p, dx, _, _, .int n, rfl, l'.at_ _ _ e1 ins_not_pot, hl, .int _, rfl⟩) hab
theorem xv_par {e : Expr} {f : Str} {l r w n : Int} (he : XV X e ρ (.parts l r w)) (hc : Cls X.K (He.ga X.K "Parts")) (hn : NoAttr X.K (He.ga X.K "Parts") f) (hl : (fPar l r w).lookup f = some (.int n))
    (hab : attributeBase e f X.env (eval e X.env) = eval e X.env := by rfl) : XV X (.Attribute e f pos) ρ (.int n) :=
  xe_fld he hc hn (fun H0 G H u d l' i s => by
    subst s
    cases i with
    | @parts p dx l1 r1 _ e1 => exact ⟨p, dx, _, _, .int n, rfl, l'.at_ _ _ e1 ins_not_pot, hl, .int _, rfl⟩) hab
/-- self.f = e, self being made -/
theorem xs_fld (i : Nat) {x : Str} {e : Expr} {f : Str} {px apos : Pos} {p C : Addr} {fs : List (Str × V)} {n : Int} {Φ : Out} (hi : ρ[i]? = some (some (.ob p C fs))) (he : XV X e ρ (.int n)) (hc : Cls X.K C) (hna : NoAttr X.K C f) (hlen : fs.length < 1000)
    (wn : Φ.nx (ρ.set i (some (.ob p C (putF f (.int n) fs))))) (hx : PE X (.Name x px) (tVar i) := by exact pv _) (hs : swapsWith e (some (.Attribute (.Name x px) f apos)) pos.line X.env = pure false := by rfl) : XS X (.Assign [.Attribute (.Name x px) f apos] e pos) ρ Φ := by
  refine ps_imp (ps_fld hx he hs) fun Dn σ H ⟨G0, H0, G, t, sl, k1, _⟩ => ⟨G, H0, t.ok, sl, fun G' H' v d t' iv s => ?_⟩
  subst s
  cases iv
  obtain ⟨u, hu, rfl, h0, hg, dx, hp⟩ := (sl.mono t').at_ i _ hi
  refine ⟨.ref p, hu, p, C, dx, fs, rfl, hp, hc, hna, hlen, ?_⟩
  exact k1 G' _ σ _ ((t.trans t').mut h0 hg) ((sl.mono t').chg hi rfl rfl hu hg (is_ob h0 hg upd_same)) wn
end
end NL

/-! text DL6 -/
set_option Elab.async false
set_option linter.all false
set_option maxRecDepth 100000
set_option maxHeartbeats 4000000
/-! The D-layer: operations by values. -/
namespace NL
open PySem PySem.Spec L2
open PyProof.Rows (envOfC)

/-! ### // of great ints: room for the division by _pylong -/
def strKeysB (es : Array DictEntry) : Bool := es.toList.all fun e => match e.key with
  | .str _ _ => true
  | _ => false
theorem strKeysB_ok {es : Array DictEntry} (h : strKeysB es = true) : StrKeys es := fun e he => by
  have := List.all_eq_true.mp h e (by simpa using he)
  split at this
  · rename_i n t q; exact ⟨n, t, q⟩
  · cases this
theorem ns_none {K : PySem.W.Frag} {h : Heap} {a : Addr} {m : Str → Option Value} {n : Str} (X : K.In h) (G : h.Ns a m) (e : PySem.W.nsIn K a n = some none) : m n = none := by
  obtain ⟨o, es, ep, ho, hd, _, hf⟩ := G
  unfold PySem.W.nsIn at e
  split at e
  · rename_i c d es' n' sl q
    have := X _ _ q
    rw [ho] at this
    cases this
    cases hd
    split at e
    · cases e
    · rename_i he
      rw [← hf]
      unfold nsFind findBy
      rw [← Array.find?_toList, he]
      rfl
  · cases e
def seerB (K : PySem.W.Frag) : Bool :=
  He.eqO (PySem.W.nsIn K cStatics "sys.audit-hooks") (some none) && (He.eqO (PySem.W.nsIn K cStatics "sys.dict") (some none) && (He.eqO (PySem.W.nsIn K sysModules "_pylong") (some none) &&
  ((match K.lookup sysModules with
    | some ⟨_, _, .dict es _, _⟩ => strKeysB es
    | _ => false) && (match PySem.W.nsIn K mainGlobals "__builtins__" with
    | some (some (.ref bm)) => (match K.lookup bm with
      | some ⟨.type c, some d, _, _⟩ => decide (c = "module") && decide (d = builtinsNs)
      | _ => false)
    | _ => false))))
theorem ns_of_K {K : PySem.W.Frag} {h : Heap} (X : K.In h) {a : Addr} (c : (match K.lookup a with
    | some ⟨_, _, .dict es _, _⟩ => strKeysB es
    | _ => false) = true) : ∃ m, h.Ns a m := by
  split at c
  · rename_i _ _ es n sl q
    exact ⟨nsFind es, _, es, n, X _ _ q, rfl, strKeysB_ok c, fun _ => rfl⟩
  · cases c
theorem noSeer_of {K : PySem.W.Frag} {mg : Str → Option Value} {base : Heap} (M : Mod K mg base) (c : seerB K = true) : base.NoSeer := by
  obtain ⟨c1, c⟩ := He.ba c
  obtain ⟨c2, c⟩ := He.ba c
  obtain ⟨c3, c⟩ := He.ba c
  obtain ⟨c4, c5⟩ := He.ba c
  refine ⟨?_, ?_, M.blt, ?_⟩
  · obtain ⟨mc, n, _⟩ := M.nolimit
    exact ⟨mc, n, ns_none M.kin n (He.eqO_ok c1), ns_none M.kin n (He.eqO_ok c2)⟩
  · obtain ⟨m, n⟩ := ns_of_K M.kin c4
    exact ⟨m, n, ns_none M.kin n (He.eqO_ok c3)⟩
  · split at c5
    · rename_i bm q
      split at c5
      · rename_i cn d dt sl q2
        obtain ⟨e1, e2⟩ := He.ba c5
        refine ⟨mg, bm, _, M.glob, PySem.W.mg_of M.kin M.glob q, M.kin _ _ q2, ?_, ?_⟩
        · exact congrArg Value.type (of_decide_eq_true e1)
        · exact congrArg some (of_decide_eq_true e2)
      · cases c5
    · cases c5
/-- the frame that runs is a plain def's of the module -/
structure Plain (X : Cx) : Prop where
  ex : ∃ env l, X.stack = env :: l ∧ env.scope.isGenerator = false ∧ env.scope.isCoroutine = false ∧ env.builtins = builtinsNs ∧ env.globals = mainGlobals
theorem op_fdivL {X : Cx} {k : Nat} (c : seerB X.K = true) (ht : X.prog.given.tree = none) (hr : Room (k + 32) X.A) (hp : Plain X) : OpR X (binaryOp .FloorDiv) (rI (fun _ j => 0 < j) fun i j => .int (i / j)) := by
  intro pins s σ H x y v u Q I rx ry h
  obtain ⟨i, j, rfl, rfl, h1, q⟩ := h
  obtain ⟨t, rfl⟩ := rx
  obtain ⟨t', rfl⟩ := ry
  obtain ⟨env, l, e1, e2, e3, e4, e5⟩ := hp.ex
  have hN : s.heap.NoSeer := (noSeer_of I.ok.mod c).keeps I.bk
  have hs : SeerAt (model X.prog X.w) X.A s.heap := SeerAt.of hN ht (by rw [I.ok.frames, e1]) e2 e3 e4 e5
  have hd : X.A.depth + Builtin.pylongFrames < recursionLimit := by
    have := hr.dp
    show X.A.depth + 100 < _
    omega
  refine PyProof.Rows.floordiv_int (by omega) ?_ (.inr (PySem.PylongRoom.of I.nolimit hd hs))
  rw [Int.fdiv_eq_ediv_of_nonneg i (by omega)]
  exact ⟨.int _, H, I.tok _, ⟨_, rfl⟩, q⟩
theorem mul_ok {i j : Int} {a b : Nat} (ha : i.natAbs < 2 ^ a) (hb : j.natAbs < 2 ^ b) (h0 : 0 < a) (h1 : 0 < b) (h : a + b ≤ 134000000) : IntMulOk i j := by
  have x := PySem.Flt.log2_lt_of h0 ha
  have y := PySem.Flt.log2_lt_of h1 hb
  have bb : ∀ x : Int, Builtin.Int.intBits x ≤ x.natAbs.log2 + 1 := fun x => by
    unfold Builtin.Int.intBits
    split <;> omega
  have h1 := bb i
  have h2 := bb j
  have e : bitsLine = 134217728 := by decide
  unfold IntMulOk
  intro z
  rw [Bool.and_eq_true] at z
  have z2 := z.2
  unfold Builtin.Int.intTooBig at z2
  have z3 := of_decide_eq_true z2
  rw [e] at z3
  omega
theorem op_mulL {X : Cx} : OpR X (binaryOp .Mult) (rI IntMulOk fun i j => .int (i * j)) := opI fun _ _ _ _ _ _ _ hc q => PyProof.Rows.mul_int q hc

/-! ### whole numbers -/
section
variable {X : Cx} {ρ : Env} {S : D → Prop} {pos : Pos} {a b : Expr} {i j : Int}
theorem rd_I0 {K : PySem.W.Frag} {g : Int → Int → V} {g' : Int → Int → D} (h : ∀ i j G, Da K G (g i j) (g' i j)) : RD K (rI0 g) (.int i) (.int j) (fun z => z = g' i j) := fun H0 G H v u l i1 i2 Q q => by
  cases i1; cases i2
  exact ⟨i, j, rfl, rfl, q G H _ _ (Tr.refl l) (Is.of (h i j G)) rfl⟩
theorem rd_I {K : PySem.W.Frag} {C : Int → Int → Prop} {g : Int → Int → V} {g' : Int → Int → D} (hc : C i j) (h : ∀ i j G, Da K G (g i j) (g' i j)) : RD K (rI C g) (.int i) (.int j) (fun z => z = g' i j) := fun H0 G H v u l i1 i2 Q q => by
  cases i1; cases i2
  exact ⟨i, j, rfl, rfl, hc, q G H _ _ (Tr.refl l) (Is.of (h i j G)) rfl⟩
theorem xv_int {j} : XV X (.Constant (.int i) j pos) ρ (.int i) := xe_c pe_int (fun _ => .int i) rfl
theorem xv_bl {b : Bool} {j} : XV X (.Constant (.bool b) j pos) ρ (.bl b) := xe_c pe_bl (fun _ => .bl b) rfl
theorem xv_non {j} : XV X (.Constant .none j pos) ρ .non := xe_c pe_non (fun _ => .non) rfl
theorem xv_str {x j} : XV X (.Constant (.str x) j pos) ρ (.str x) := xe_c pe_str (fun _ => .str x) rfl
theorem xv_var (i : Nat) {x : Str} {d : D} (h : ρ[i]? = some (some d) := by rfl) (hN : X.N[i]? = some x := by rfl) (hv : Vis X.env.scope x := by first | exact Or.inl rfl | exact Or.inr (Or.inl rfl) | exact Or.inr (Or.inr rfl)) (hd : (x == ("__debug__" : Str)) = false := by decide)
    (hcd : (x == ("__classdict__" : Str)) = false := by decide) : XV X (.Name x pos) ρ d := xe_var i h rfl hN hv hd hcd
theorem xv_globI {x : Str} {n : Int} (hm : ∃ t, X.mg x = some (.int n t)) (hg : Gl X x := by rfl) (hd : (x == ("__debug__" : Str)) = false := by decide) : XV X (.Name x pos) ρ (.int n) := let ⟨t, h⟩ := hm; xe_c (pe_glob hg h (v := .int n) ⟨t, rfl⟩ hd) (fun _ => .int n) rfl
theorem xv_cls {x : Str} (hm : X.mg x = some (.ref (He.ga X.K x))) (hg : Gl X x := by rfl) (hd : (x == ("__debug__" : Str)) = false := by decide) : XV X (.Name x pos) ρ (.cls x) := xe_c (pe_glob hg hm (v := .ref (He.ga X.K x)) rfl hd) (fun _ => .cls x) rfl
theorem xv_ty {x : Str} {n : String} (hm : X.mg x = none) (hv : bootBuiltins x = some (.type n) := by decide +kernel) (hg : Gl X x := by rfl) (hn : x ≠ "__name__" := by decide) (hd : (x == ("__debug__" : Str)) = false := by decide) : XV X (.Name x pos) ρ (.ty n) := xe_c (pe_bltn hg hm hv (v := .ty n) rfl hn hd) (fun _ => .ty n) rfl
theorem xv_add (ha : XV X a ρ (.int i)) (hb : XV X b ρ (.int j)) : XV X (.BinOp a .Add b pos) ρ (.int (i + j)) := xe_op op_add ha hb (rd_I0 (g' := fun i j => .int (i + j)) fun i j _ => .int _)
theorem xv_sub (ha : XV X a ρ (.int i)) (hb : XV X b ρ (.int j)) : XV X (.BinOp a .Sub b pos) ρ (.int (i - j)) := xe_op op_sub ha hb (rd_I0 (g' := fun i j => .int (i - j)) fun i j _ => .int _)
theorem xv_mul (ha : XV X a ρ (.int i)) (hb : XV X b ρ (.int j)) (h : IntMulOk i j) : XV X (.BinOp a .Mult b pos) ρ (.int (i * j)) := xe_op op_mulL ha hb (rd_I (g' := fun i j => .int (i * j)) h fun i j _ => .int _)
theorem xv_fdivL {k : Nat} (ha : XV X a ρ (.int i)) (hb : XV X b ρ (.int j)) (h : 0 < j) (c : seerB X.K = true) (ht : X.prog.given.tree = none) (hr : Room (k + 32) X.A) (hp : Plain X) : XV X (.BinOp a .FloorDiv b pos) ρ (.int (i / j)) := xe_op (op_fdivL c ht hr hp) ha hb (rd_I (g' := fun i j => .int (i / j)) h fun i j _ => .int _)
theorem xv_fdiv (ha : XV X a ρ (.int i)) (hb : XV X b ρ (.int j)) (h : CDivW i j) : XV X (.BinOp a .FloorDiv b pos) ρ (.int (i / j)) := xe_op op_fdivW ha hb (rd_I (g' := fun i j => .int (i / j)) h fun i j _ => .int _)
theorem xv_mod (ha : XV X a ρ (.int i)) (hb : XV X b ρ (.int j)) (h : 0 < j) : XV X (.BinOp a .Mod b pos) ρ (.int (i % j)) := xe_op op_mod ha hb (rd_I (C := fun _ j => 0 < j) (g' := fun i j => .int (i % j)) h fun i j _ => .int _)
theorem xv_lt (ha : XV X a ρ (.int i)) (hb : XV X b ρ (.int j)) (hm : behindInMarks .Lt b = false := by exact nomark _) : XV X (.Compare a [.Lt] [b] pos) ρ (.bl (decide (i < j))) := xe_cmp op_lt ha hb (rd_I0 (g' := fun i j => .bl (decide (i < j))) fun i j _ => .bl _) hm
theorem xv_le (ha : XV X a ρ (.int i)) (hb : XV X b ρ (.int j)) (hm : behindInMarks .LtE b = false := by exact nomark _) : XV X (.Compare a [.LtE] [b] pos) ρ (.bl (decide (i ≤ j))) := xe_cmp op_le ha hb (rd_I0 (g' := fun i j => .bl (decide (i ≤ j))) fun i j _ => .bl _) hm
theorem xv_gt (ha : XV X a ρ (.int i)) (hb : XV X b ρ (.int j)) (hm : behindInMarks .Gt b = false := by exact nomark _) : XV X (.Compare a [.Gt] [b] pos) ρ (.bl (decide (j < i))) := xe_cmp op_gt ha hb (rd_I0 (g' := fun i j => .bl (decide (j < i))) fun i j _ => .bl _) hm
theorem xv_ge (ha : XV X a ρ (.int i)) (hb : XV X b ρ (.int j)) (hm : behindInMarks .GtE b = false := by exact nomark _) : XV X (.Compare a [.GtE] [b] pos) ρ (.bl (decide (j ≤ i))) := xe_cmp op_ge ha hb (rd_I0 (g' := fun i j => .bl (decide (j ≤ i))) fun i j _ => .bl _) hm
theorem rd_eq {K : PySem.W.Frag} : RD K rEq (.int i) (.int j) (fun z => z = .bl (decide (i = j))) := fun H0 G H v u l i1 i2 Q q => by
  cases i1; cases i2
  refine ⟨rfl, q G H _ _ (Tr.refl l) (Is.of (.bl _)) ?_⟩
  by_cases h : i = j
  · subst h; simp
  · have : ¬ V.int i = V.int j := fun z => h (V.int.inj z)
    simp [h, this]
theorem rd_ne {K : PySem.W.Frag} : RD K rNe (.int i) (.int j) (fun z => z = .bl (!decide (i = j))) := fun H0 G H v u l i1 i2 Q q => by
  cases i1; cases i2
  refine ⟨rfl, q G H _ _ (Tr.refl l) (Is.of (.bl _)) ?_⟩
  by_cases h : i = j
  · subst h; simp
  · have : ¬ V.int i = V.int j := fun z => h (V.int.inj z)
    simp [h, this]
theorem xv_eq (ha : XV X a ρ (.int i)) (hb : XV X b ρ (.int j)) (hm : behindInMarks .Eq b = false := by exact nomark _) : XV X (.Compare a [.Eq] [b] pos) ρ (.bl (decide (i = j))) := xe_cmp op_eq ha hb rd_eq hm
theorem xv_ne (ha : XV X a ρ (.int i)) (hb : XV X b ρ (.int j)) (hm : behindInMarks .NotEq b = false := by exact nomark _) : XV X (.Compare a [.NotEq] [b] pos) ρ (.bl (!decide (i = j))) := xe_cmp op_ne ha hb rd_ne hm
/-- the same as tests -/
theorem xt_lt (ha : XV X a ρ (.int i)) (hb : XV X b ρ (.int j)) (hm : behindInMarks .Lt b = false := by exact nomark _) : XT X (.Compare a [.Lt] [b] pos) ρ (fun z => z = decide (i < j)) := xt_cmp op_lt ha hb (rd_I0 (g' := fun i j => .bl (decide (i < j))) fun i j _ => .bl _) hm
theorem xt_le (ha : XV X a ρ (.int i)) (hb : XV X b ρ (.int j)) (hm : behindInMarks .LtE b = false := by exact nomark _) : XT X (.Compare a [.LtE] [b] pos) ρ (fun z => z = decide (i ≤ j)) := xt_cmp op_le ha hb (rd_I0 (g' := fun i j => .bl (decide (i ≤ j))) fun i j _ => .bl _) hm
theorem xt_gt (ha : XV X a ρ (.int i)) (hb : XV X b ρ (.int j)) (hm : behindInMarks .Gt b = false := by exact nomark _) : XT X (.Compare a [.Gt] [b] pos) ρ (fun z => z = decide (j < i)) := xt_cmp op_gt ha hb (rd_I0 (g' := fun i j => .bl (decide (j < i))) fun i j _ => .bl _) hm
theorem xt_ge (ha : XV X a ρ (.int i)) (hb : XV X b ρ (.int j)) (hm : behindInMarks .GtE b = false := by exact nomark _) : XT X (.Compare a [.GtE] [b] pos) ρ (fun z => z = decide (j ≤ i)) := xt_cmp op_ge ha hb (rd_I0 (g' := fun i j => .bl (decide (j ≤ i))) fun i j _ => .bl _) hm
theorem xt_eq (ha : XV X a ρ (.int i)) (hb : XV X b ρ (.int j)) (hm : behindInMarks .Eq b = false := by exact nomark _) : XT X (.Compare a [.Eq] [b] pos) ρ (fun z => z = decide (i = j)) := xt_cmp op_eq ha hb rd_eq hm
theorem xt_ne (ha : XV X a ρ (.int i)) (hb : XV X b ρ (.int j)) (hm : behindInMarks .NotEq b = false := by exact nomark _) : XT X (.Compare a [.NotEq] [b] pos) ρ (fun z => z = !decide (i = j)) := xt_cmp op_ne ha hb rd_ne hm
/-- None -/
def isNon : D → Bool
  | .non => true
  | _ => false
theorem isN_of {K : PySem.W.Frag} {H0 G H : Hp} {v : V} {d : D} (h : Is K H0 G H v d) : decide (v = .non) = isNon d := by
  cases d with
  | ol ds => obtain ⟨p, vs, rfl, _⟩ := h; rfl
  | ob p C fs => obtain ⟨rfl, _⟩ := h; rfl
  | _ => cases h <;> rfl
theorem xv_isN {d : D} {jj p} (ha : XV X a ρ d) : XV X (.Compare a [.Is] [.Constant .none jj p] pos) ρ (.bl (isNon d)) :=
  pe_imp (pe_cmp (pc_isN ha) rfl) fun σ H Q ⟨G, H0, l, sl, k⟩ => ⟨G, H0, l, sl, fun G' H' v d t i s => by subst s; exact k G' H' _ _ t (Is.of (.bl _)) (by rw [isN_of i])⟩
theorem xv_notN {d : D} {jj p} (ha : XV X a ρ d) : XV X (.Compare a [.IsNot] [.Constant .none jj p] pos) ρ (.bl (!isNon d)) :=
  pe_imp (pe_cmp (pc_notN ha) rfl) fun σ H Q ⟨G, H0, l, sl, k⟩ => ⟨G, H0, l, sl, fun G' H' v d t i s => by subst s; exact k G' H' _ _ t (Is.of (.bl _)) (by rw [isN_of i])⟩
end

/-! ### built-in calls -/
section
variable {X : Cx} {ρ : Env} {S : D → Prop} {pos p : Pos} {a b : Expr} {x : Str} {id T : String}
theorem xe_blt {es : List Expr} {e : Expr} {r : List V → Hp → VK → Prop} {ds : List D} (hc : CallR X (.builtin id) r) (hm : X.mg x = none) (ha : XVA X (e :: es) ρ ds) (h : RC X.K r ds S) (hv : bootBuiltins x = some (.builtin id) := by decide +kernel) (hg : Gl X x := by rfl)
    (hn : x ≠ "__name__" := by decide) (hdb : (x == ("__debug__" : Str)) = false := by decide) (he : starEach (e :: es) X.env = (false, eval e X.env) :: starEach es X.env := by rfl) (hpl : (backTo pos (starEach es X.env)).any (·.1) = false := by rfl) : XE X (.Call (.Name x p) (e :: es) [] pos) ρ S :=
  xe_cb (fun {t} q => pe_callB hc hg hm hv q hn hdb he hpl) ha h
theorem xe_blty {es : List Expr} {e : Expr} {r : List V → Hp → VK → Prop} {ds : List D} (hc : CallR X (.type T) r) (hm : X.mg x = none) (ha : XVA X (e :: es) ρ ds) (h : RC X.K r ds S) (hv : bootBuiltins x = some (.type T) := by decide +kernel) (hg : Gl X x := by rfl)
    (hn : x ≠ "__name__" := by decide) (hdb : (x == ("__debug__" : Str)) = false := by decide) (he : starEach (e :: es) X.env = (false, eval e X.env) :: starEach es X.env := by rfl) (hpl : (backTo pos (starEach es X.env)).any (·.1) = false := by rfl) : XE X (.Call (.Name x p) (e :: es) [] pos) ρ S :=
  xe_cb (fun {t} q => pe_callTy hc hg hm hv q hn hdb he hpl) ha h
theorem isl1 {K : PySem.W.Frag} {H0 G H : Hp} {vs : List V} {d : D} (h : IsL K H0 G H vs [d]) : ∃ v, vs = [v] ∧ Is K H0 G H v d := by
  match vs, h with
  | [v], h => exact ⟨v, rfl, h.1⟩
theorem isl2 {K : PySem.W.Frag} {H0 G H : Hp} {vs : List V} {d e : D} (h : IsL K H0 G H vs [d, e]) : ∃ v u, vs = [v, u] ∧ Is K H0 G H v d ∧ Is K H0 G H u e := by
  match vs, h with
  | [v, u], h => exact ⟨v, u, rfl, h.1, h.2.1⟩
/-- the items of a list or a tuple -/
def itemsOf : D → Option (List D)
  | .lst ds => some ds
  | .tup ds => some ds
  | .ol ds => some ds
  | _ => none
theorem seq_of {K : PySem.W.Frag} {H0 G H : Hp} {v : V} {d : D} {ds : List D} (l : Le G H) (h : Is K H0 G H v d) (e : itemsOf d = some ds) : ∃ a vs, v = .ref a ∧ (SqL K H a vs ∨ SqT K H a vs) ∧ DaL K G vs ds := by
  cases d with
  | lst es =>
    cases e
    cases h with
    | @lst p vs _ a b c => exact ⟨p, vs, rfl, .inl (SqL.of (l.at_ _ _ a pot_lst)), b, c⟩
  | tup es =>
    cases e
    cases h with
    | @tup p vs _ a b c => exact ⟨p, vs, rfl, .inr (SqT.of (l.at_ _ _ a pot_tup)), b, c⟩
  | ol es =>
    cases e
    obtain ⟨p, vs, rfl, _, _, hp, hd⟩ := h
    exact ⟨p, vs, rfl, .inl (SqL.of hp), hd⟩
  | _ => cases e
/-- .. of a list -/
def lstOf : D → Option (List D)
  | .lst ds => some ds
  | .ol ds => some ds
  | _ => none
theorem lst_of {K : PySem.W.Frag} {H0 G H : Hp} {v : V} {d : D} {ds : List D} (l : Le G H) (h : Is K H0 G H v d) (e : lstOf d = some ds) : ∃ a vs, v = .ref a ∧ H a = some (.lst vs) ∧ DaL K G vs ds := by
  cases d with
  | lst es =>
    cases e
    cases h with
    | @lst p vs _ a b c => exact ⟨p, vs, rfl, l.at_ _ _ a pot_lst, b, c⟩
  | ol es =>
    cases e
    obtain ⟨p, vs, rfl, _, _, hp, hd⟩ := h
    exact ⟨p, vs, rfl, hp, hd⟩
  | _ => cases e
theorem xv_len {d : D} {ds : List D} (hm : X.mg "len" = none) (ha : XV X a ρ d) (e : itemsOf d = some ds) (hg : Gl X "len" := by rfl) (he : starEach [a] X.env = (false, eval a X.env) :: starEach [] X.env := by rfl) (hpl : (backTo pos (starEach [] X.env)).any (·.1) = false := by rfl) : XV X (.Call (.Name "len" p) [a] [] pos) ρ (.int ds.length) :=
  xe_blt call_len_seq hm (xva_cons ha xva_nil he) (fun H0 G H vs l ii Q q => by
    obtain ⟨v, rfl, i1⟩ := isl1 ii
    obtain ⟨q1, vs, rfl, s, hd⟩ := seq_of l i1 e
    exact ⟨q1, vs, rfl, s, q G H _ _ (Tr.refl l) (Is.of (.int _)) (by rw [hd.1])⟩) PySem.boot_len hg (by decide) (by decide) he hpl
theorem xv_abs {i : Int} (hm : X.mg "abs" = none) (ha : XV X a ρ (.int i)) (hg : Gl X "abs" := by rfl) (he : starEach [a] X.env = (false, eval a X.env) :: starEach [] X.env := by rfl) (hpl : (backTo pos (starEach [] X.env)).any (·.1) = false := by rfl) : XV X (.Call (.Name "abs" p) [a] [] pos) ρ (.int (if i < 0 then -i else i)) :=
  xe_blt call_abs hm (xva_cons ha xva_nil he) (fun H0 G H vs l ii Q q => by
    obtain ⟨v, rfl, i1⟩ := isl1 ii
    cases i1
    exact ⟨i, rfl, q G H _ _ (Tr.refl l) (Is.of (.int _)) rfl⟩) (by decide +kernel) hg (by decide) (by decide) he hpl
theorem xv_max2 {i j : Int} (hc : X.calm = true) (hm : X.mg "max" = none) (ha : XV X a ρ (.int i)) (hb : XV X b ρ (.int j)) (hg : Gl X "max" := by rfl) (he : starEach [a, b] X.env = (false, eval a X.env) :: starEach [b] X.env := by rfl) (he2 : starEach [b] X.env = (false, eval b X.env) :: starEach [] X.env := by rfl) (hpl : (backTo pos (starEach [b] X.env)).any (·.1) = false := by rfl) :
    XV X (.Call (.Name "max" p) [a, b] [] pos) ρ (.int (if j > i then j else i)) :=
  xe_blt (call_max2 hc) hm (xva_cons ha (xva_cons hb xva_nil he2) he) (fun H0 G H vs l ii Q q => by
    obtain ⟨v, u, rfl, i1, i2⟩ := isl2 ii
    cases i1; cases i2
    exact ⟨i, j, rfl, q G H _ _ (Tr.refl l) (Is.of (.int _)) rfl⟩) (by decide +kernel) hg (by decide) (by decide) he hpl
theorem xv_min2 {i j : Int} (hc : X.calm = true) (hm : X.mg "min" = none) (ha : XV X a ρ (.int i)) (hb : XV X b ρ (.int j)) (hg : Gl X "min" := by rfl) (he : starEach [a, b] X.env = (false, eval a X.env) :: starEach [b] X.env := by rfl) (he2 : starEach [b] X.env = (false, eval b X.env) :: starEach [] X.env := by rfl) (hpl : (backTo pos (starEach [b] X.env)).any (·.1) = false := by rfl) :
    XV X (.Call (.Name "min" p) [a, b] [] pos) ρ (.int (if j < i then j else i)) :=
  xe_blt (call_min2 hc) hm (xva_cons ha (xva_cons hb xva_nil he2) he) (fun H0 G H vs l ii Q q => by
    obtain ⟨v, u, rfl, i1, i2⟩ := isl2 ii
    cases i1; cases i2
    exact ⟨i, j, rfl, q G H _ _ (Tr.refl l) (Is.of (.int _)) rfl⟩) (by decide +kernel) hg (by decide) (by decide) he hpl
theorem xv_intI {i : Int} (hm : X.mg "int" = none) (ha : XV X a ρ (.int i)) (hg : Gl X "int" := by rfl) (he : starEach [a] X.env = (false, eval a X.env) :: starEach [] X.env := by rfl) (hpl : (backTo pos (starEach [] X.env)).any (·.1) = false := by rfl) : XV X (.Call (.Name "int" p) [a] [] pos) ρ (.int i) :=
  xe_blty call_int1 hm (xva_cons ha xva_nil he) (fun H0 G H vs l ii Q q => by
    obtain ⟨v, rfl, i1⟩ := isl1 ii
    cases i1
    exact .inl ⟨i, rfl, q G H _ _ (Tr.refl l) (Is.of (.int _)) rfl⟩) (by decide +kernel) hg (by decide) (by decide) he hpl
theorem xv_intB {c : Bool} (hm : X.mg "int" = none) (ha : XV X a ρ (.bl c)) (hg : Gl X "int" := by rfl) (he : starEach [a] X.env = (false, eval a X.env) :: starEach [] X.env := by rfl) (hpl : (backTo pos (starEach [] X.env)).any (·.1) = false := by rfl) : XV X (.Call (.Name "int" p) [a] [] pos) ρ (.int (if c then 1 else 0)) :=
  xe_blty call_int1 hm (xva_cons ha xva_nil he) (fun H0 G H vs l ii Q q => by
    obtain ⟨v, rfl, i1⟩ := isl1 ii
    cases i1
    exact .inr ⟨c, rfl, q G H _ _ (Tr.refl l) (Is.of (.int _)) rfl⟩) (by decide +kernel) hg (by decide) (by decide) he hpl
theorem xv_gcd {i j : Int} (hm : X.mg "gcd" = some (.builtin "math.gcd")) (ha : XV X a ρ (.int i)) (hb : XV X b ρ (.int j)) (hg : Gl X "gcd" := by rfl) (he : starEach [a, b] X.env = (false, eval a X.env) :: starEach [b] X.env := by rfl) (he2 : starEach [b] X.env = (false, eval b X.env) :: starEach [] X.env := by rfl) (hpl : (backTo pos (starEach [b] X.env)).any (·.1) = false := by rfl) :
    XV X (.Call (.Name "gcd" p) [a, b] [] pos) ρ (.int ((Nat.gcd i.natAbs j.natAbs : Nat) : Int)) :=
  xe_cb (fun {t} q => pe_callBfun cr_gcd hg hm q (by decide) he hpl) (xva_cons ha (xva_cons hb xva_nil he2) he) fun H0 G H vs l ii Q q => by
    obtain ⟨v, u, rfl, i1, i2⟩ := isl2 ii
    cases i1; cases i2
    exact ⟨i, j, rfl, q G H _ _ (Tr.refl l) (Is.of (.int _)) rfl⟩
/-- True and False in a list -/
theorem bls_of {K : PySem.W.Frag} {G : Hp} : ∀ {bs : List Bool} {vs : List V}, DaL K G vs (bs.map D.bl) → vs = bs.map V.bl
  | [], vs, h => h.cases_nil
  | b :: bs, vs, h => by
    obtain ⟨v, vs', rfl, hv, hr⟩ := DaL.cases_cons h
    cases hv
    rw [bls_of hr]; rfl
theorem ints_of {K : PySem.W.Frag} {G : Hp} : ∀ {bs : List Int} {vs : List V}, DaL K G vs (bs.map D.int) → vs = bs.map V.int
  | [], vs, h => h.cases_nil
  | b :: bs, vs, h => by
    obtain ⟨v, vs', rfl, hv, hr⟩ := DaL.cases_cons h
    cases hv
    rw [ints_of hr]; rfl
theorem xv_all {bs : List Bool} (hc : X.calm = true) (hm : X.mg "all" = none) (ha : XV X a ρ (.lst (bs.map D.bl))) (hg : Gl X "all" := by rfl) (he : starEach [a] X.env = (false, eval a X.env) :: starEach [] X.env := by rfl) (hpl : (backTo pos (starEach [] X.env)).any (·.1) = false := by rfl) : XV X (.Call (.Name "all" p) [a] [] pos) ρ (.bl (bs.all _root_.id)) :=
  xe_blt (cr_all hc) hm (xva_cons ha xva_nil he) (fun H0 G H vs l ii Q q => by
    obtain ⟨v, rfl, i1⟩ := isl1 ii
    obtain ⟨q1, ws, rfl, s, hd⟩ := lst_of l i1 rfl
    obtain rfl := bls_of hd
    exact ⟨q1, bs, rfl, SqL.of s, q G H _ _ (Tr.refl l) (Is.of (.bl _)) rfl⟩) (by decide +kernel) hg (by decide) (by decide) he hpl
theorem xv_any {bs : List Bool} (hc : X.calm = true) (hm : X.mg "any" = none) (ha : XV X a ρ (.lst (bs.map D.bl))) (hg : Gl X "any" := by rfl) (he : starEach [a] X.env = (false, eval a X.env) :: starEach [] X.env := by rfl) (hpl : (backTo pos (starEach [] X.env)).any (·.1) = false := by rfl) : XV X (.Call (.Name "any" p) [a] [] pos) ρ (.bl (bs.any _root_.id)) :=
  xe_blt (cr_any hc) hm (xva_cons ha xva_nil he) (fun H0 G H vs l ii Q q => by
    obtain ⟨v, rfl, i1⟩ := isl1 ii
    obtain ⟨q1, ws, rfl, s, hd⟩ := lst_of l i1 rfl
    obtain rfl := bls_of hd
    exact ⟨q1, bs, rfl, SqL.of s, q G H _ _ (Tr.refl l) (Is.of (.bl _)) rfl⟩) (by decide +kernel) hg (by decide) (by decide) he hpl
/-! ### items -/
theorem atI_dal {K : PySem.W.Frag} {G : Hp} {vs : List V} {ds : List D} {i : Int} {d : D} (h : DaL K G vs ds) (e : atI ds i = some d) : ∃ v, atI vs i = some v ∧ Da K G v d := by
  unfold atI at e ⊢
  rw [h.1]
  cases q : ixN ds.length i with
  | none => rw [q] at e; cases e
  | some j =>
    rw [q] at e
    exact h.at_ e
theorem rd_ixL {K : PySem.W.Frag} {x d : D} {ds : List D} {i : Int} (e : lstOf x = some ds) (h : atI ds i = some d) : RD K (rIxL K) x (.int i) (fun z => z = d) := fun H0 G H v u l i1 i2 Q q => by
  cases i2
  obtain ⟨a, vs, rfl, s, hd⟩ := lst_of l i1 e
  obtain ⟨y, hy, dy⟩ := atI_dal hd h
  exact ⟨a, vs, i, y, rfl, rfl, SqL.of s, hy, q G H y d (Tr.refl l) (Is.of dy) rfl⟩
theorem rd_ixT {K : PySem.W.Frag} {d : D} {ds : List D} {i : Int} (h : atI ds i = some d) : RD K (rIxT K) (.tup ds) (.int i) (fun z => z = d) := fun H0 G H v u l i1 i2 Q q => by
  cases i2
  cases i1 with
  | @tup a vs _ e1 e2 e3 =>
    obtain ⟨y, hy, dy⟩ := atI_dal ⟨e2, e3⟩ h
    exact ⟨a, vs, i, y, rfl, rfl, SqT.of (l.at_ _ _ e1 pot_tup), hy, q G H y d (Tr.refl l) (Is.of dy) rfl⟩
theorem xv_ixL {x d : D} {ds : List D} {i : Int} (ha : XV X a ρ x) (hb : XV X b ρ (.int i)) (e : lstOf x = some ds) (h : atI ds i = some d) (hs : PlainIx b := by exact fun _ _ => rfl) : XV X (.Subscript a b pos) ρ d := xe_ix ix_list ha hb (rd_ixL e h) hs
theorem xv_ixT {d : D} {ds : List D} {i : Int} (ha : XV X a ρ (.tup ds)) (hb : XV X b ρ (.int i)) (h : atI ds i = some d) (hs : PlainIx b := by exact fun _ _ => rfl) : XV X (.Subscript a b pos) ρ d := xe_ix ix_tup ha hb (rd_ixT h) hs
end
end NL

/-! text DL7 -/
set_option Elab.async false
set_option linter.all false
set_option maxRecDepth 100000
set_option maxHeartbeats 4000000
/-! What the top has left: facts read by a Hook. -/
namespace NL
open PySem PySem.Spec L2

/-! ### types, for isinstance -/
inductive DTy where
  | b (n : String) | c (x : Str)
  deriving DecidableEq
def DTy.v (K : PySem.W.Frag) : DTy → Value
  | .b n => .type n
  | .c x => .ref (He.ga K x)
def tyL : List DTy := [.b "NoneType", .b "bool", .b "int", .b "str", .b "list", .b "tuple", .b "dict", .c "Twin", .c "Ratio", .c "Parts"]
def usL : List DTy := [.b "int", .b "bool", .b "list", .b "tuple", .c "Twin", .c "Ratio", .c "Parts"]
def kitR (t u : DTy) : Bool := decide (t = u) || (decide (t = .b "bool") && decide (u = .b "int"))
def kitAll (K : PySem.W.Frag) : Bool := tyL.all fun t => usL.all fun u => decide (PySem.W.kitOne K (t.v K) (u.v K) = some (kitR t u))
theorem kit_at {K : PySem.W.Frag} (h : kitAll K = true) {t u : DTy} (ht : t ∈ tyL) (hu : u ∈ usL) : PySem.W.kitOne K (t.v K) (u.v K) = some (kitR t u) :=
  of_decide_eq_true (List.all_eq_true.mp (List.all_eq_true.mp h t ht) u hu)
/-- what type(x) leans on, of an instance -/
structure ClsTy (K : PySem.W.Frag) (C : Addr) : Prop where
  ha : PySem.W.findIn K (.ref C) "__class__" = some (some (.builtin "object.__class__"))
  hn : PySem.W.specialIn K (.builtin "object.__class__") "__get__" = some (some (.builtin "getset_descriptor.__get__"))
  ht : PySem.W.takesIn K (.builtin "object.__class__") = some true
  hm : PySem.W.mroIn K C (.type "object") = some true
def clsTyB (K : PySem.W.Frag) (C : Addr) : Bool := He.eqO (PySem.W.findIn K (.ref C) "__class__") (some (some (.builtin "object.__class__"))) && (He.eqO (PySem.W.specialIn K (.builtin "object.__class__") "__get__") (some (some (.builtin "getset_descriptor.__get__"))) &&
  (decide (PySem.W.takesIn K (.builtin "object.__class__") = some true) && decide (PySem.W.mroIn K C (.type "object") = some true)))
theorem clsTy_ok {K : PySem.W.Frag} {C : Addr} (h : clsTyB K C = true) : ClsTy K C := by
  obtain ⟨a, h⟩ := He.ba h
  obtain ⟨b, h⟩ := He.ba h
  obtain ⟨c, d⟩ := He.ba h
  exact ⟨He.eqO_ok a, He.eqO_ok b, of_decide_eq_true c, of_decide_eq_true d⟩
/-! ### properties -/
def prAd (K : PySem.W.Frag) (x f : Str) : Addr := match PySem.W.recIn K (He.ma K (He.ga K x) f) "property" with
  | some (.ref g :: _) => g
  | _ => 0
def propB (K : PySem.W.Frag) (x f : Str) : Bool := He.eqO (PySem.W.findIn K (.ref (He.ga K x)) f) (some (some (.ref (He.ma K (He.ga K x) f)))) && (He.eqO (PySem.W.specialIn K (.ref (He.ma K (He.ga K x) f)) "__get__") (some (some (.builtin "property.__get__"))) &&
  (decide (PySem.W.takesIn K (.ref (He.ma K (He.ga K x) f)) = some true) && (match PySem.W.recIn K (He.ma K (He.ga K x) f) "property" with
    | some (.ref _ :: _) => true
    | _ => false)))
theorem prop_ok {K : PySem.W.Frag} {x f : Str} (h : propB K x f = true) : PropOf K (He.ga K x) f (He.ma K (He.ga K x) f) (prAd K x f) := by
  obtain ⟨a, h⟩ := He.ba h
  obtain ⟨b, h⟩ := He.ba h
  obtain ⟨c, d⟩ := He.ba h
  refine ⟨He.eqO_ok a, He.eqO_ok b, of_decide_eq_true c, ?_⟩
  unfold prAd
  split at d
  · rename_i g r q
    rw [q]
    exact ⟨r, rfl⟩
  · cases d
/-! ### operators of Twins -/
def intB (K : PySem.W.Frag) : Bool := (PySem.W.findIn K (.type "int") "__mul__").isSome && ((PySem.W.findIn K (.type "int") "__rmul__").isSome && decide (PySem.W.subIn K (.type "int") (.ref (He.ga K "Twin")) = some false))
/-! ### defs anywhere -/
structure DefA where
  ad : PySem.W.Frag → Addr
  name : Str
  qual : Str
  params : Arguments
  body : List Stmt
  scope : Scope
  dfl : List He.Dv := []
def fnA (K : PySem.W.Frag) (a : Addr) : He.FnW := match K.lookup a with
  | some ⟨_, _, .func fd, _⟩ => some (fd.name, fd.qualname, fd.params, fd.body, fd.scope, fd.globals, fd.closure, fd.builtins)
  | _ => none
def DefA.val (d : DefA) : He.FnW := some (d.name, d.qual, d.params, .stmts d.body, d.scope, mainGlobals, [], builtinsNs)
def DefA.dvs (K : PySem.W.Frag) (d : DefA) : List V := d.dfl.map (He.Dv.v K)
def DefA.ok (K : PySem.W.Frag) (d : DefA) : Bool := PySem.W.keepIn K (.ref (d.ad K)) && (match K.lookup (d.ad K) with
  | some ⟨_, _, .func fd, _⟩ => PySem.W.codeIn K fd.code d.qual && He.dflB K fd.defaults (d.dvs K)
  | _ => false)
theorem DefA.funD {K : PySem.W.Frag} {d : DefA} (e : fnA K (d.ad K) = d.val) (c : d.ok K = true) : ∃ fd, FunD K d.name d.qual d.params d.body d.scope (d.dvs K) [] (d.ad K) fd := by
  obtain ⟨kp, c2⟩ := He.ba c
  unfold fnA at e
  cases q : K.lookup (d.ad K) with
  | none =>
    rw [q] at c2
    cases c2
  | some o =>
    obtain ⟨oc, od, dt, osl⟩ := o
    rw [q] at c2 e
    cases dt with
    | func fd =>
      obtain ⟨n1, n2, n3, n4, n5, n6, n7, n8, n9, n10, n11, n12, n13, n14, n15⟩ := fd
      have e2 : (some (n1, n2, n3, n4, n5, n6, n7, n15) : He.FnW) = some (d.name, d.qual, d.params, .stmts d.body, d.scope, mainGlobals, [], builtinsNs) := e
      simp only [Option.some.injEq, Prod.mk.injEq] at e2
      obtain ⟨h1, h2, h3, h4, h5, h6, h7, h8⟩ := e2
      subst h1 h2 h3 h4 h5 h6 h7 h8
      have c3 : (PySem.W.codeIn K n13 d.qual && He.dflB K n8 (d.dvs K)) = true := c2
      obtain ⟨k1, k2⟩ := He.ba c3
      exact ⟨_, ⟨oc, od, n8, n9, n10, n11, n12, n13, n14, osl, rfl, q, k1, He.dflB_ok k2, .inl rfl⟩, kp⟩
    | _ => cases c2
/-! ### the Hook -/
abbrev AlN : Type := Bool × List He.FnW
/-- addresses looked at: what the module's names reach, and the interpreter's own three -/
def asN (g : Addr → Option Obj) : Nat → List Addr
  | 0 => [mainGlobals, cStatics, sysModules]
  | n + 1 => He.growD g (asN g n)
def seesN (g : Addr → Option Obj) (n : Nat) : List Addr := (He.asD g n ++ [cStatics, sysModules]).eraseDups
def obsN (fa : List He.Fa) (fn : List DefA) (ex : PySem.W.Frag → Bool) (K : PySem.W.Frag) : AlN := (ex K && ((fa.all fun f => f.ok K) && fn.all fun d => d.ok K), fn.map fun d => fnA K (d.ad K))
def valN (fn : List DefA) : AlN := (true, fn.map DefA.val)
def SaysN (fa : List He.Fa) (fn : List DefA) (ex : PySem.W.Frag → Bool) (K : PySem.W.Frag) : Prop := obsN fa fn ex K = valN fn
def obsNG (n : Nat) (fa : List He.Fa) (fn : List DefA) (ex : PySem.W.Frag → Bool) (g : Addr → Option Obj) : AlN := obsN fa fn ex (He.frG g (seesN g n))
def hookN (n : Nat) (fa : List He.Fa) (fn : List DefA) (ex : PySem.W.Frag → Bool) : PySem.W.Hook where
  α := AlN
  obs := fun s => obsNG n fa fn ex s.heap.get?
  val := fun _ => valN fn
  says := fun _ h => ∃ K : PySem.W.Frag, K.In h ∧ SaysN fa fn ex K
  of := fun _ _ e => ⟨_, He.frG_in, e⟩
  keeps := fun _ _ _ ⟨K, hK, c⟩ k => ⟨K, PySem.W.Frag.In.keeps hK k, c⟩
theorem obsNG_eq {n : Nat} {fa : List He.Fa} {fn : List DefA} {ex : PySem.W.Frag → Bool} {g : Addr → Option Obj} {s : Shared} (h : ∀ a, g a = s.heap.get? a) : obsNG n fa fn ex g = (hookN n fa fn ex).obs s := by
  have e : g = s.heap.get? := funext h
  rw [e] <;> rfl
section
variable {fa : List He.Fa} {fn : List DefA} {ex : PySem.W.Frag → Bool} {K : PySem.W.Frag}
theorem SaysN.ex_ (c : SaysN fa fn ex K) : ex K = true := (He.ba (show (ex K && ((fa.all fun f => f.ok K) && fn.all fun d => d.ok K)) = true from congrArg (fun z : AlN => z.1) c)).1
theorem SaysN.fact (c : SaysN fa fn ex K) (i : Nat) {f : He.Fa} (h : fa[i]? = some f := by rfl) : f.ok K = true := by
  have c1 := (He.ba (He.ba (show (ex K && ((fa.all fun f => f.ok K) && fn.all fun d => d.ok K)) = true from congrArg (fun z : AlN => z.1) c)).2).1
  exact List.all_eq_true.mp c1 f (List.mem_of_getElem? h)
theorem SaysN.def_ (c : SaysN fa fn ex K) (i : Nat) {d : DefA} (h : fn[i]? = some d := by rfl) : ∃ fd, FunD K d.name d.qual d.params d.body d.scope (d.dvs K) [] (d.ad K) fd := by
  have c2 := (He.ba (He.ba (show (ex K && ((fa.all fun f => f.ok K) && fn.all fun d => d.ok K)) = true from congrArg (fun z : AlN => z.1) c)).2).2
  have e : fn.map (fun d => fnA K (d.ad K)) = fn.map DefA.val := congrArg (fun z : AlN => z.2) c
  have e2 : (fn.map fun d => fnA K (d.ad K))[i]? = (fn.map DefA.val)[i]? := by rw [e]
  rw [List.getElem?_map, List.getElem?_map, h] at e2
  exact DefA.funD (Option.some.inj e2) (List.all_eq_true.mp c2 d (List.mem_of_getElem? h))
end
end NL

/-! text Txt -/
set_option Elab.async false
set_option linter.all false
set_option maxRecDepth 100000
set_option maxHeartbeats 4000000
/-! The text by places (printed by wip/gen_txt.py). -/
namespace NL
open PySem PySem.Spec L2
def topS (i : Nat) : Stmt := PySem.Challenge.pw_neverlouder_k79_whole_lots_of_tolds.main.body.getD i (.Pass ⟨0, 0, 0, 0⟩)
abbrev s_is_integer : Stmt := topS 12
abbrev n_is_integer : List Str := ["value"]
theorem sc_is_integer : FnScope n_is_integer ["value"] (defScope s_is_integer) := ⟨rfl, rfl, rfl, by decide +kernel, rfl, by decide +kernel, by decide +kernel⟩
def d_is_integer : DefA := ⟨fun K => He.ga K "is_integer", "is_integer", "is_integer", defArgs s_is_integer, defBody s_is_integer, defScope s_is_integer, []⟩
abbrev Fd_is_integer (K : PySem.W.Frag) (f : Addr) (fd : FuncData) : Prop := FunD K "is_integer" "is_integer" (defArgs s_is_integer) (defBody s_is_integer) (defScope s_is_integer) [] [] f fd
abbrev s_is_count : Stmt := topS 13
abbrev n_is_count : List Str := ["value"]
theorem sc_is_count : FnScope n_is_count ["value"] (defScope s_is_count) := ⟨rfl, rfl, rfl, by decide +kernel, rfl, by decide +kernel, by decide +kernel⟩
def d_is_count : DefA := ⟨fun K => He.ga K "is_count", "is_count", "is_count", defArgs s_is_count, defBody s_is_count, defScope s_is_count, []⟩
abbrev Fd_is_count (K : PySem.W.Frag) (f : Addr) (fd : FuncData) : Prop := FunD K "is_count" "is_count" (defArgs s_is_count) (defBody s_is_count) (defScope s_is_count) [] [] f fd
abbrev s_is_list : Stmt := topS 14
abbrev n_is_list : List Str := ["value"]
theorem sc_is_list : FnScope n_is_list ["value"] (defScope s_is_list) := ⟨rfl, rfl, rfl, by decide +kernel, rfl, by decide +kernel, by decide +kernel⟩
def d_is_list : DefA := ⟨fun K => He.ga K "is_list", "is_list", "is_list", defArgs s_is_list, defBody s_is_list, defScope s_is_list, []⟩
abbrev Fd_is_list (K : PySem.W.Frag) (f : Addr) (fd : FuncData) : Prop := FunD K "is_list" "is_list" (defArgs s_is_list) (defBody s_is_list) (defScope s_is_list) [] [] f fd
abbrev s_want_many : Stmt := topS 15
abbrev n_want_many : List Str := ["value"]
theorem sc_want_many : FnScope n_want_many ["value"] (defScope s_want_many) := ⟨rfl, rfl, rfl, by decide +kernel, rfl, by decide +kernel, by decide +kernel⟩
def d_want_many : DefA := ⟨fun K => He.ga K "want_many", "want_many", "want_many", defArgs s_want_many, defBody s_want_many, defScope s_want_many, []⟩
abbrev Fd_want_many (K : PySem.W.Frag) (f : Addr) (fd : FuncData) : Prop := FunD K "want_many" "want_many" (defArgs s_want_many) (defBody s_want_many) (defScope s_want_many) [] [] f fd
abbrev s_want_at_most : Stmt := topS 16
abbrev n_want_at_most : List Str := ["what", "limit", "number"]
theorem sc_want_at_most : FnScope n_want_at_most ["what", "limit", "number"] (defScope s_want_at_most) := ⟨rfl, rfl, rfl, by decide +kernel, rfl, by decide +kernel, by decide +kernel⟩
def d_want_at_most : DefA := ⟨fun K => He.ga K "want_at_most", "want_at_most", "want_at_most", defArgs s_want_at_most, defBody s_want_at_most, defScope s_want_at_most, []⟩
abbrev Fd_want_at_most (K : PySem.W.Frag) (f : Addr) (fd : FuncData) : Prop := FunD K "want_at_most" "want_at_most" (defArgs s_want_at_most) (defBody s_want_at_most) (defScope s_want_at_most) [] [] f fd
abbrev s_common_part : Stmt := topS 20
abbrev n_common_part : List Str := ["one", "other"]
theorem sc_common_part : FnScope n_common_part ["one", "other"] (defScope s_common_part) := ⟨rfl, rfl, rfl, by decide +kernel, rfl, by decide +kernel, by decide +kernel⟩
def d_common_part : DefA := ⟨fun K => He.ga K "common_part", "common_part", "common_part", defArgs s_common_part, defBody s_common_part, defScope s_common_part, []⟩
abbrev Fd_common_part (K : PySem.W.Frag) (f : Addr) (fd : FuncData) : Prop := FunD K "common_part" "common_part" (defArgs s_common_part) (defBody s_common_part) (defScope s_common_part) [] [] f fd
abbrev s_Ratio_init : Stmt := inClass (topS 21) 0
abbrev n_Ratio_init : List Str := ["self", "top", "bottom", "common_one"]
theorem sc_Ratio_init : FnScope n_Ratio_init ["self", "top", "bottom"] (defScope s_Ratio_init) := ⟨rfl, rfl, rfl, by decide +kernel, rfl, by decide +kernel, by decide +kernel⟩
def d_Ratio_init : DefA := ⟨fun K => He.ma K (He.ga K "Ratio") "__init__", "__init__", "Ratio.__init__", defArgs s_Ratio_init, defBody s_Ratio_init, defScope s_Ratio_init, [.int 1]⟩
abbrev Fd_Ratio_init (K : PySem.W.Frag) (f : Addr) (fd : FuncData) : Prop := FunD K "__init__" "Ratio.__init__" (defArgs s_Ratio_init) (defBody s_Ratio_init) (defScope s_Ratio_init) [V.int 1] [] f fd
abbrev s_Ratio_sign : Stmt := inClass (topS 21) 3
abbrev n_Ratio_sign : List Str := ["self"]
theorem sc_Ratio_sign : FnScope n_Ratio_sign ["self"] (defScope s_Ratio_sign) := ⟨rfl, rfl, rfl, by decide +kernel, rfl, by decide +kernel, by decide +kernel⟩
def d_Ratio_sign : DefA := ⟨fun K => prAd K "Ratio" "sign", "sign", "Ratio.sign", defArgs s_Ratio_sign, defBody s_Ratio_sign, defScope s_Ratio_sign, []⟩
abbrev Fd_Ratio_sign (K : PySem.W.Frag) (f : Addr) (fd : FuncData) : Prop := FunD K "sign" "Ratio.sign" (defArgs s_Ratio_sign) (defBody s_Ratio_sign) (defScope s_Ratio_sign) [] [] f fd
abbrev s_Ratio_is_below : Stmt := inClass (topS 21) 15
abbrev n_Ratio_is_below : List Str := ["self", "ratio", "top", "bottom"]
theorem sc_Ratio_is_below : FnScope n_Ratio_is_below ["self", "ratio"] (defScope s_Ratio_is_below) := ⟨rfl, rfl, rfl, by decide +kernel, rfl, by decide +kernel, by decide +kernel⟩
def d_Ratio_is_below : DefA := ⟨fun K => He.ma K (He.ga K "Ratio") "is_below", "is_below", "Ratio.is_below", defArgs s_Ratio_is_below, defBody s_Ratio_is_below, defScope s_Ratio_is_below, []⟩
abbrev Fd_Ratio_is_below (K : PySem.W.Frag) (f : Addr) (fd : FuncData) : Prop := FunD K "is_below" "Ratio.is_below" (defArgs s_Ratio_is_below) (defBody s_Ratio_is_below) (defScope s_Ratio_is_below) [] [] f fd
abbrev s_told_pair : Stmt := topS 22
abbrev n_told_pair : List Str := ["value"]
theorem sc_told_pair : FnScope n_told_pair ["value"] (defScope s_told_pair) := ⟨rfl, rfl, rfl, by decide +kernel, rfl, by decide +kernel, by decide +kernel⟩
def d_told_pair : DefA := ⟨fun K => He.ga K "told_pair", "told_pair", "told_pair", defArgs s_told_pair, defBody s_told_pair, defScope s_told_pair, []⟩
abbrev Fd_told_pair (K : PySem.W.Frag) (f : Addr) (fd : FuncData) : Prop := FunD K "told_pair" "told_pair" (defArgs s_told_pair) (defBody s_told_pair) (defScope s_told_pair) [] [] f fd
abbrev s_Parts_init : Stmt := inClass (topS 25) 0
abbrev n_Parts_init : List Str := ["self", "left", "right", "low"]
theorem sc_Parts_init : FnScope n_Parts_init ["self", "left", "right", "low"] (defScope s_Parts_init) := ⟨rfl, rfl, rfl, by decide +kernel, rfl, by decide +kernel, by decide +kernel⟩
def d_Parts_init : DefA := ⟨fun K => He.ma K (He.ga K "Parts") "__init__", "__init__", "Parts.__init__", defArgs s_Parts_init, defBody s_Parts_init, defScope s_Parts_init, []⟩
abbrev Fd_Parts_init (K : PySem.W.Frag) (f : Addr) (fd : FuncData) : Prop := FunD K "__init__" "Parts.__init__" (defArgs s_Parts_init) (defBody s_Parts_init) (defScope s_Parts_init) [] [] f fd
abbrev s_Twin_init : Stmt := inClass (topS 26) 0
abbrev n_Twin_init : List Str := ["self", "plain", "side", "left", "right", "most", "shared_part"]
theorem sc_Twin_init : FnScope n_Twin_init ["self", "plain", "side"] (defScope s_Twin_init) := ⟨rfl, rfl, rfl, by decide +kernel, rfl, by decide +kernel, by decide +kernel⟩
def d_Twin_init : DefA := ⟨fun K => He.ma K (He.ga K "Twin") "__init__", "__init__", "Twin.__init__", defArgs s_Twin_init, defBody s_Twin_init, defScope s_Twin_init, [.int 0]⟩
abbrev Fd_Twin_init (K : PySem.W.Frag) (f : Addr) (fd : FuncData) : Prop := FunD K "__init__" "Twin.__init__" (defArgs s_Twin_init) (defBody s_Twin_init) (defScope s_Twin_init) [V.int 0] [] f fd
abbrev s_Twin_plain : Stmt := inClass (topS 26) 1
abbrev n_Twin_plain : List Str := ["self"]
theorem sc_Twin_plain : FnScope n_Twin_plain ["self"] (defScope s_Twin_plain) := ⟨rfl, rfl, rfl, by decide +kernel, rfl, by decide +kernel, by decide +kernel⟩
def d_Twin_plain : DefA := ⟨fun K => prAd K "Twin" "plain", "plain", "Twin.plain", defArgs s_Twin_plain, defBody s_Twin_plain, defScope s_Twin_plain, []⟩
abbrev Fd_Twin_plain (K : PySem.W.Frag) (f : Addr) (fd : FuncData) : Prop := FunD K "plain" "Twin.plain" (defArgs s_Twin_plain) (defBody s_Twin_plain) (defScope s_Twin_plain) [] [] f fd
abbrev s_Twin_is_nought : Stmt := inClass (topS 26) 4
abbrev n_Twin_is_nought : List Str := ["self"]
theorem sc_Twin_is_nought : FnScope n_Twin_is_nought ["self"] (defScope s_Twin_is_nought) := ⟨rfl, rfl, rfl, by decide +kernel, rfl, by decide +kernel, by decide +kernel⟩
def d_Twin_is_nought : DefA := ⟨fun K => prAd K "Twin" "is_nought", "is_nought", "Twin.is_nought", defArgs s_Twin_is_nought, defBody s_Twin_is_nought, defScope s_Twin_is_nought, []⟩
abbrev Fd_Twin_is_nought (K : PySem.W.Frag) (f : Addr) (fd : FuncData) : Prop := FunD K "is_nought" "Twin.is_nought" (defArgs s_Twin_is_nought) (defBody s_Twin_is_nought) (defScope s_Twin_is_nought) [] [] f fd
abbrev s_Twin_add : Stmt := inClass (topS 26) 6
abbrev n_Twin_add : List Str := ["self", "other", "left", "right", "low", "plain_one", "side_one"]
theorem sc_Twin_add : FnScope n_Twin_add ["self", "other"] (defScope s_Twin_add) := ⟨rfl, rfl, rfl, by decide +kernel, rfl, by decide +kernel, by decide +kernel⟩
def d_Twin_add : DefA := ⟨fun K => He.ma K (He.ga K "Twin") "__add__", "__add__", "Twin.__add__", defArgs s_Twin_add, defBody s_Twin_add, defScope s_Twin_add, []⟩
abbrev Fd_Twin_add (K : PySem.W.Frag) (f : Addr) (fd : FuncData) : Prop := FunD K "__add__" "Twin.__add__" (defArgs s_Twin_add) (defBody s_Twin_add) (defScope s_Twin_add) [] [] f fd
abbrev s_Twin_sub : Stmt := inClass (topS 26) 8
abbrev n_Twin_sub : List Str := ["self", "other", "left", "right", "low", "plain_one", "side_one"]
theorem sc_Twin_sub : FnScope n_Twin_sub ["self", "other"] (defScope s_Twin_sub) := ⟨rfl, rfl, rfl, by decide +kernel, rfl, by decide +kernel, by decide +kernel⟩
def d_Twin_sub : DefA := ⟨fun K => He.ma K (He.ga K "Twin") "__sub__", "__sub__", "Twin.__sub__", defArgs s_Twin_sub, defBody s_Twin_sub, defScope s_Twin_sub, []⟩
abbrev Fd_Twin_sub (K : PySem.W.Frag) (f : Addr) (fd : FuncData) : Prop := FunD K "__sub__" "Twin.__sub__" (defArgs s_Twin_sub) (defBody s_Twin_sub) (defScope s_Twin_sub) [] [] f fd
abbrev s_Twin_mul : Stmt := inClass (topS 26) 10
abbrev n_Twin_mul : List Str := ["self", "other", "left", "right", "low", "plain_one"]
theorem sc_Twin_mul : FnScope n_Twin_mul ["self", "other"] (defScope s_Twin_mul) := ⟨rfl, rfl, rfl, by decide +kernel, rfl, by decide +kernel, by decide +kernel⟩
def d_Twin_mul : DefA := ⟨fun K => He.ma K (He.ga K "Twin") "__mul__", "__mul__", "Twin.__mul__", defArgs s_Twin_mul, defBody s_Twin_mul, defScope s_Twin_mul, []⟩
abbrev Fd_Twin_mul (K : PySem.W.Frag) (f : Addr) (fd : FuncData) : Prop := FunD K "__mul__" "Twin.__mul__" (defArgs s_Twin_mul) (defBody s_Twin_mul) (defScope s_Twin_mul) [] [] f fd
abbrev s_Twin_over : Stmt := inClass (topS 26) 13
abbrev n_Twin_over : List Str := ["self", "number", "left", "right", "low", "most", "plain_one"]
theorem sc_Twin_over : FnScope n_Twin_over ["self", "number"] (defScope s_Twin_over) := ⟨rfl, rfl, rfl, by decide +kernel, rfl, by decide +kernel, by decide +kernel⟩
def d_Twin_over : DefA := ⟨fun K => He.ma K (He.ga K "Twin") "over", "over", "Twin.over", defArgs s_Twin_over, defBody s_Twin_over, defScope s_Twin_over, []⟩
abbrev Fd_Twin_over (K : PySem.W.Frag) (f : Addr) (fd : FuncData) : Prop := FunD K "over" "Twin.over" (defArgs s_Twin_over) (defBody s_Twin_over) (defScope s_Twin_over) [] [] f fd
abbrev s_Twin_mirror : Stmt := inClass (topS 26) 14
abbrev n_Twin_mirror : List Str := ["self"]
theorem sc_Twin_mirror : FnScope n_Twin_mirror ["self"] (defScope s_Twin_mirror) := ⟨rfl, rfl, rfl, by decide +kernel, rfl, by decide +kernel, by decide +kernel⟩
def d_Twin_mirror : DefA := ⟨fun K => He.ma K (He.ga K "Twin") "mirror", "mirror", "Twin.mirror", defArgs s_Twin_mirror, defBody s_Twin_mirror, defScope s_Twin_mirror, []⟩
abbrev Fd_Twin_mirror (K : PySem.W.Frag) (f : Addr) (fd : FuncData) : Prop := FunD K "mirror" "Twin.mirror" (defArgs s_Twin_mirror) (defBody s_Twin_mirror) (defScope s_Twin_mirror) [] [] f fd
abbrev s_Twin_size : Stmt := inClass (topS 26) 15
abbrev n_Twin_size : List Str := ["self"]
theorem sc_Twin_size : FnScope n_Twin_size ["self"] (defScope s_Twin_size) := ⟨rfl, rfl, rfl, by decide +kernel, rfl, by decide +kernel, by decide +kernel⟩
def d_Twin_size : DefA := ⟨fun K => He.ma K (He.ga K "Twin") "size", "size", "Twin.size", defArgs s_Twin_size, defBody s_Twin_size, defScope s_Twin_size, []⟩
abbrev Fd_Twin_size (K : PySem.W.Frag) (f : Addr) (fd : FuncData) : Prop := FunD K "size" "Twin.size" (defArgs s_Twin_size) (defBody s_Twin_size) (defScope s_Twin_size) [] [] f fd
abbrev s_Twin_power : Stmt := inClass (topS 26) 16
abbrev n_Twin_power : List Str := ["self", "many", "found", "_"]
theorem sc_Twin_power : FnScope n_Twin_power ["self", "many"] (defScope s_Twin_power) := ⟨rfl, rfl, rfl, by decide +kernel, rfl, by decide +kernel, by decide +kernel⟩
def d_Twin_power : DefA := ⟨fun K => He.ma K (He.ga K "Twin") "power", "power", "Twin.power", defArgs s_Twin_power, defBody s_Twin_power, defScope s_Twin_power, []⟩
abbrev Fd_Twin_power (K : PySem.W.Frag) (f : Addr) (fd : FuncData) : Prop := FunD K "power" "Twin.power" (defArgs s_Twin_power) (defBody s_Twin_power) (defScope s_Twin_power) [] [] f fd
abbrev s_Twin_eq : Stmt := inClass (topS 26) 17
abbrev n_Twin_eq : List Str := ["self", "other"]
theorem sc_Twin_eq : FnScope n_Twin_eq ["self", "other"] (defScope s_Twin_eq) := ⟨rfl, rfl, rfl, by decide +kernel, rfl, by decide +kernel, by decide +kernel⟩
def d_Twin_eq : DefA := ⟨fun K => He.ma K (He.ga K "Twin") "__eq__", "__eq__", "Twin.__eq__", defArgs s_Twin_eq, defBody s_Twin_eq, defScope s_Twin_eq, []⟩
abbrev Fd_Twin_eq (K : PySem.W.Frag) (f : Addr) (fd : FuncData) : Prop := FunD K "__eq__" "Twin.__eq__" (defArgs s_Twin_eq) (defBody s_Twin_eq) (defScope s_Twin_eq) [] [] f fd
abbrev s_handed_parts : Stmt := topS 27
abbrev n_handed_parts : List Str := ["plain", "side", "left", "below", "right", "under"]
theorem sc_handed_parts : FnScope n_handed_parts ["plain", "side"] (defScope s_handed_parts) := ⟨rfl, rfl, rfl, by decide +kernel, rfl, by decide +kernel, by decide +kernel⟩
def d_handed_parts : DefA := ⟨fun K => He.ga K "handed_parts", "handed_parts", "handed_parts", defArgs s_handed_parts, defBody s_handed_parts, defScope s_handed_parts, []⟩
abbrev Fd_handed_parts (K : PySem.W.Frag) (f : Addr) (fd : FuncData) : Prop := FunD K "handed_parts" "handed_parts" (defArgs s_handed_parts) (defBody s_handed_parts) (defScope s_handed_parts) [] [] f fd
abbrev s_by_parts : Stmt := topS 28
abbrev n_by_parts : List Str := ["left", "right", "low"]
theorem sc_by_parts : FnScope n_by_parts ["left", "right", "low"] (defScope s_by_parts) := ⟨rfl, rfl, rfl, by decide +kernel, rfl, by decide +kernel, by decide +kernel⟩
def d_by_parts : DefA := ⟨fun K => He.ga K "by_parts", "by_parts", "by_parts", defArgs s_by_parts, defBody s_by_parts, defScope s_by_parts, []⟩
abbrev Fd_by_parts (K : PySem.W.Frag) (f : Addr) (fd : FuncData) : Prop := FunD K "by_parts" "by_parts" (defArgs s_by_parts) (defBody s_by_parts) (defScope s_by_parts) [] [] f fd
abbrev s_told_parts : Stmt := topS 29
abbrev n_told_parts : List Str := ["value"]
theorem sc_told_parts : FnScope n_told_parts ["value"] (defScope s_told_parts) := ⟨rfl, rfl, rfl, by decide +kernel, rfl, by decide +kernel, by decide +kernel⟩
def d_told_parts : DefA := ⟨fun K => He.ga K "told_parts", "told_parts", "told_parts", defArgs s_told_parts, defBody s_told_parts, defScope s_told_parts, []⟩
abbrev Fd_told_parts (K : PySem.W.Frag) (f : Addr) (fd : FuncData) : Prop := FunD K "told_parts" "told_parts" (defArgs s_told_parts) (defBody s_told_parts) (defScope s_told_parts) [] [] f fd
abbrev s_nought : Stmt := topS 30
abbrev n_nought : List Str := []
theorem sc_nought : FnScope n_nought [] (defScope s_nought) := ⟨rfl, rfl, rfl, by decide +kernel, rfl, by decide +kernel, by decide +kernel⟩
def d_nought : DefA := ⟨fun K => He.ga K "nought", "nought", "nought", defArgs s_nought, defBody s_nought, defScope s_nought, []⟩
abbrev Fd_nought (K : PySem.W.Frag) (f : Addr) (fd : FuncData) : Prop := FunD K "nought" "nought" (defArgs s_nought) (defBody s_nought) (defScope s_nought) [] [] f fd
abbrev s_one : Stmt := topS 31
abbrev n_one : List Str := []
theorem sc_one : FnScope n_one [] (defScope s_one) := ⟨rfl, rfl, rfl, by decide +kernel, rfl, by decide +kernel, by decide +kernel⟩
def d_one : DefA := ⟨fun K => He.ga K "one", "one", "one", defArgs s_one, defBody s_one, defScope s_one, []⟩
abbrev Fd_one (K : PySem.W.Frag) (f : Addr) (fd : FuncData) : Prop := FunD K "one" "one" (defArgs s_one) (defBody s_one) (defScope s_one) [] [] f fd
abbrev s_is_value : Stmt := topS 32
abbrev n_is_value : List Str := ["value"]
theorem sc_is_value : FnScope n_is_value ["value"] (defScope s_is_value) := ⟨rfl, rfl, rfl, by decide +kernel, rfl, by decide +kernel, by decide +kernel⟩
def d_is_value : DefA := ⟨fun K => He.ga K "is_value", "is_value", "is_value", defArgs s_is_value, defBody s_is_value, defScope s_is_value, []⟩
abbrev Fd_is_value (K : PySem.W.Frag) (f : Addr) (fd : FuncData) : Prop := FunD K "is_value" "is_value" (defArgs s_is_value) (defBody s_is_value) (defScope s_is_value) [] [] f fd
abbrev s_twin_of : Stmt := topS 33
abbrev n_twin_of : List Str := ["value"]
theorem sc_twin_of : FnScope n_twin_of ["value"] (defScope s_twin_of) := ⟨rfl, rfl, rfl, by decide +kernel, rfl, by decide +kernel, by decide +kernel⟩
def d_twin_of : DefA := ⟨fun K => He.ga K "twin_of", "twin_of", "twin_of", defArgs s_twin_of, defBody s_twin_of, defScope s_twin_of, []⟩
abbrev Fd_twin_of (K : PySem.W.Frag) (f : Addr) (fd : FuncData) : Prop := FunD K "twin_of" "twin_of" (defArgs s_twin_of) (defBody s_twin_of) (defScope s_twin_of) [] [] f fd
abbrev s_is_point : Stmt := topS 34
abbrev n_is_point : List Str := ["value"]
theorem sc_is_point : FnScope n_is_point ["value"] (defScope s_is_point) := ⟨rfl, rfl, rfl, by decide +kernel, rfl, by decide +kernel, by decide +kernel⟩
def d_is_point : DefA := ⟨fun K => He.ga K "is_point", "is_point", "is_point", defArgs s_is_point, defBody s_is_point, defScope s_is_point, []⟩
abbrev Fd_is_point (K : PySem.W.Frag) (f : Addr) (fd : FuncData) : Prop := FunD K "is_point" "is_point" (defArgs s_is_point) (defBody s_is_point) (defScope s_is_point) [] [] f fd
abbrev s_Walk_init : Stmt := inClass (topS 36) 0
abbrev n_Walk_init : List Str := ["self", "twins", "many", "row", "near", "far"]
theorem sc_Walk_init : FnScope n_Walk_init ["self", "twins"] (defScope s_Walk_init) := ⟨rfl, rfl, rfl, by decide +kernel, rfl, by decide +kernel, by decide +kernel⟩
def d_Walk_init : DefA := ⟨fun K => He.ma K (He.ga K "Walk") "__init__", "__init__", "Walk.__init__", defArgs s_Walk_init, defBody s_Walk_init, defScope s_Walk_init, []⟩
abbrev Fd_Walk_init (K : PySem.W.Frag) (f : Addr) (fd : FuncData) : Prop := FunD K "__init__" "Walk.__init__" (defArgs s_Walk_init) (defBody s_Walk_init) (defScope s_Walk_init) [] [] f fd
abbrev s_Walk_middle : Stmt := inClass (topS 36) 1
abbrev n_Walk_middle : List Str := ["self", "place"]
theorem sc_Walk_middle : FnScope n_Walk_middle ["self", "place"] (defScope s_Walk_middle) := ⟨rfl, rfl, rfl, by decide +kernel, rfl, by decide +kernel, by decide +kernel⟩
def d_Walk_middle : DefA := ⟨fun K => He.ma K (He.ga K "Walk") "middle", "middle", "Walk.middle", defArgs s_Walk_middle, defBody s_Walk_middle, defScope s_Walk_middle, []⟩
abbrev Fd_Walk_middle (K : PySem.W.Frag) (f : Addr) (fd : FuncData) : Prop := FunD K "middle" "Walk.middle" (defArgs s_Walk_middle) (defBody s_Walk_middle) (defScope s_Walk_middle) [] [] f fd
abbrev s_Walk_first_with : Stmt := inClass (topS 36) 2
abbrev n_Walk_first_with : List Str := ["self", "sign", "place"]
theorem sc_Walk_first_with : FnScope n_Walk_first_with ["self", "sign"] (defScope s_Walk_first_with) := ⟨rfl, rfl, rfl, by decide +kernel, rfl, by decide +kernel, by decide +kernel⟩
def d_Walk_first_with : DefA := ⟨fun K => He.ma K (He.ga K "Walk") "first_with", "first_with", "Walk.first_with", defArgs s_Walk_first_with, defBody s_Walk_first_with, defScope s_Walk_first_with, []⟩
abbrev Fd_Walk_first_with (K : PySem.W.Frag) (f : Addr) (fd : FuncData) : Prop := FunD K "first_with" "Walk.first_with" (defArgs s_Walk_first_with) (defBody s_Walk_first_with) (defScope s_Walk_first_with) [] [] f fd
abbrev s_Walk_first_beside : Stmt := inClass (topS 36) 3
abbrev n_Walk_first_beside : List Str := ["self", "near", "far"]
theorem sc_Walk_first_beside : FnScope n_Walk_first_beside ["self"] (defScope s_Walk_first_beside) := ⟨rfl, rfl, rfl, by decide +kernel, rfl, by decide +kernel, by decide +kernel⟩
def d_Walk_first_beside : DefA := ⟨fun K => He.ma K (He.ga K "Walk") "first_beside", "first_beside", "Walk.first_beside", defArgs s_Walk_first_beside, defBody s_Walk_first_beside, defScope s_Walk_first_beside, []⟩
abbrev Fd_Walk_first_beside (K : PySem.W.Frag) (f : Addr) (fd : FuncData) : Prop := FunD K "first_beside" "Walk.first_beside" (defArgs s_Walk_first_beside) (defBody s_Walk_first_beside) (defScope s_Walk_first_beside) [] [] f fd
abbrev s_Walk_column : Stmt := inClass (topS 36) 4
abbrev n_Walk_column : List Str := ["self", "place", "own", "many", "at"]
theorem sc_Walk_column : FnScope n_Walk_column ["self", "place"] (defScope s_Walk_column) := ⟨rfl, rfl, rfl, by decide +kernel, rfl, by decide +kernel, by decide +kernel⟩
def d_Walk_column : DefA := ⟨fun K => He.ma K (He.ga K "Walk") "column", "column", "Walk.column", defArgs s_Walk_column, defBody s_Walk_column, defScope s_Walk_column, []⟩
abbrev Fd_Walk_column (K : PySem.W.Frag) (f : Addr) (fd : FuncData) : Prop := FunD K "column" "Walk.column" (defArgs s_Walk_column) (defBody s_Walk_column) (defScope s_Walk_column) [] [] f fd
abbrev s_Walk_take : Stmt := inClass (topS 36) 5
abbrev n_Walk_take : List Str := ["self", "place", "quotients", "row", "at"]
theorem sc_Walk_take : FnScope n_Walk_take ["self", "place"] (defScope s_Walk_take) := ⟨rfl, rfl, rfl, by decide +kernel, rfl, by decide +kernel, by decide +kernel⟩
def d_Walk_take : DefA := ⟨fun K => He.ma K (He.ga K "Walk") "take", "take", "Walk.take", defArgs s_Walk_take, defBody s_Walk_take, defScope s_Walk_take, []⟩
abbrev Fd_Walk_take (K : PySem.W.Frag) (f : Addr) (fd : FuncData) : Prop := FunD K "take" "Walk.take" (defArgs s_Walk_take) (defBody s_Walk_take) (defScope s_Walk_take) [] [] f fd
abbrev s_less_times : Stmt := topS 37
abbrev n_less_times : List Str := ["row", "twin", "other", "near", "far"]
theorem sc_less_times : FnScope n_less_times ["row", "twin", "other"] (defScope s_less_times) := ⟨rfl, rfl, rfl, by decide +kernel, rfl, by decide +kernel, by decide +kernel⟩
def d_less_times : DefA := ⟨fun K => He.ga K "less_times", "less_times", "less_times", defArgs s_less_times, defBody s_less_times, defScope s_less_times, []⟩
abbrev Fd_less_times (K : PySem.W.Frag) (f : Addr) (fd : FuncData) : Prop := FunD K "less_times" "less_times" (defArgs s_less_times) (defBody s_less_times) (defScope s_less_times) [] [] f fd
abbrev s_squares_of : Stmt := topS 38
abbrev n_squares_of : List Str := ["twins", "walk", "found", "place"]
theorem sc_squares_of : FnScope n_squares_of ["twins"] (defScope s_squares_of) := ⟨rfl, rfl, rfl, by decide +kernel, rfl, by decide +kernel, by decide +kernel⟩
def d_squares_of : DefA := ⟨fun K => He.ga K "squares_of", "squares_of", "squares_of", defArgs s_squares_of, defBody s_squares_of, defScope s_squares_of, []⟩
abbrev Fd_squares_of (K : PySem.W.Frag) (f : Addr) (fd : FuncData) : Prop := FunD K "squares_of" "squares_of" (defArgs s_squares_of) (defBody s_squares_of) (defScope s_squares_of) [] [] f fd
abbrev s_is_never_below_of : Stmt := topS 39
abbrev n_is_never_below_of : List Str := ["twins"]
theorem sc_is_never_below_of : FnScope n_is_never_below_of ["twins"] (defScope s_is_never_below_of) := ⟨rfl, rfl, rfl, by decide +kernel, rfl, by decide +kernel, by decide +kernel⟩
def d_is_never_below_of : DefA := ⟨fun K => He.ga K "is_never_below_of", "is_never_below_of", "is_never_below_of", defArgs s_is_never_below_of, defBody s_is_never_below_of, defScope s_is_never_below_of, []⟩
abbrev Fd_is_never_below_of (K : PySem.W.Frag) (f : Addr) (fd : FuncData) : Prop := FunD K "is_never_below_of" "is_never_below_of" (defArgs s_is_never_below_of) (defBody s_is_never_below_of) (defScope s_is_never_below_of) [] [] f fd
abbrev s_is_told : Stmt := topS 43
abbrev n_is_told : List Str := ["value", "number"]
theorem sc_is_told : FnScope n_is_told ["value"] (defScope s_is_told) := ⟨rfl, rfl, rfl, by decide +kernel, rfl, by decide +kernel, by decide +kernel⟩
def d_is_told : DefA := ⟨fun K => He.ga K "is_told", "is_told", "is_told", defArgs s_is_told, defBody s_is_told, defScope s_is_told, []⟩
abbrev Fd_is_told (K : PySem.W.Frag) (f : Addr) (fd : FuncData) : Prop := FunD K "is_told" "is_told" (defArgs s_is_told) (defBody s_is_told) (defScope s_is_told) [] [] f fd
abbrev s_told_telling : Stmt := topS 44
abbrev n_told_telling : List Str := ["telling", "found", "position", "value", "point", "other", "numbers", "number"]
theorem sc_told_telling : FnScope n_told_telling ["telling"] (defScope s_told_telling) := ⟨rfl, rfl, rfl, by decide +kernel, rfl, by decide +kernel, by decide +kernel⟩
def d_told_telling : DefA := ⟨fun K => He.ga K "told_telling", "told_telling", "told_telling", defArgs s_told_telling, defBody s_told_telling, defScope s_told_telling, []⟩
abbrev Fd_told_telling (K : PySem.W.Frag) (f : Addr) (fd : FuncData) : Prop := FunD K "told_telling" "told_telling" (defArgs s_told_telling) (defBody s_told_telling) (defScope s_told_telling) [] [] f fd
abbrev s_spots_of : Stmt := topS 45
abbrev n_spots_of : List Str := ["tolds", "position", "times"]
theorem sc_spots_of : FnScope n_spots_of ["tolds"] (defScope s_spots_of) := ⟨rfl, rfl, rfl, by decide +kernel, rfl, by decide +kernel, by decide +kernel⟩
def d_spots_of : DefA := ⟨fun K => He.ga K "spots_of", "spots_of", "spots_of", defArgs s_spots_of, defBody s_spots_of, defScope s_spots_of, []⟩
abbrev Fd_spots_of (K : PySem.W.Frag) (f : Addr) (fd : FuncData) : Prop := FunD K "spots_of" "spots_of" (defArgs s_spots_of) (defBody s_spots_of) (defScope s_spots_of) [] [] f fd
abbrev s_product_to : Stmt := topS 46
abbrev n_product_to : List Str := ["number", "found", "factor"]
theorem sc_product_to : FnScope n_product_to ["number"] (defScope s_product_to) := ⟨rfl, rfl, rfl, by decide +kernel, rfl, by decide +kernel, by decide +kernel⟩
def d_product_to : DefA := ⟨fun K => He.ga K "product_to", "product_to", "product_to", defArgs s_product_to, defBody s_product_to, defScope s_product_to, []⟩
abbrev Fd_product_to (K : PySem.W.Frag) (f : Addr) (fd : FuncData) : Prop := FunD K "product_to" "product_to" (defArgs s_product_to) (defBody s_product_to) (defScope s_product_to) [] [] f fd
abbrev s_entry : Stmt := topS 47
abbrev n_entry : List Str := ["point", "times", "other", "more", "far", "share", "found", "both", "ways", "power"]
theorem sc_entry : FnScope n_entry ["point", "times", "other", "more"] (defScope s_entry) := ⟨rfl, rfl, rfl, by decide +kernel, rfl, by decide +kernel, by decide +kernel⟩
def d_entry : DefA := ⟨fun K => He.ga K "entry", "entry", "entry", defArgs s_entry, defBody s_entry, defScope s_entry, []⟩
abbrev Fd_entry (K : PySem.W.Frag) (f : Addr) (fd : FuncData) : Prop := FunD K "entry" "entry" (defArgs s_entry) (defBody s_entry) (defScope s_entry) [] [] f fd
abbrev s_force_table_of : Stmt := topS 48
abbrev n_force_table_of : List Str := ["tolds", "spots", "found", "row", "first", "times", "column", "second", "more", "number"]
theorem sc_force_table_of : FnScope n_force_table_of ["tolds"] (defScope s_force_table_of) := ⟨rfl, rfl, rfl, by decide +kernel, rfl, by decide +kernel, by decide +kernel⟩
def d_force_table_of : DefA := ⟨fun K => He.ga K "force_table_of", "force_table_of", "force_table_of", defArgs s_force_table_of, defBody s_force_table_of, defScope s_force_table_of, []⟩
abbrev Fd_force_table_of (K : PySem.W.Frag) (f : Addr) (fd : FuncData) : Prop := FunD K "force_table_of" "force_table_of" (defArgs s_force_table_of) (defBody s_force_table_of) (defScope s_force_table_of) [] [] f fd
abbrev s_answered : Stmt := topS 50
abbrev n_answered : List Str := ["tolds", "table", "spots", "found", "position", "times", "first", "row", "step", "number", "column", "here", "more"]
theorem sc_answered : FnScope n_answered ["tolds", "table"] (defScope s_answered) := ⟨rfl, rfl, rfl, by decide +kernel, rfl, by decide +kernel, by decide +kernel⟩
def d_answered : DefA := ⟨fun K => He.ga K "answered", "answered", "answered", defArgs s_answered, defBody s_answered, defScope s_answered, []⟩
abbrev Fd_answered (K : PySem.W.Frag) (f : Addr) (fd : FuncData) : Prop := FunD K "answered" "answered" (defArgs s_answered) (defBody s_answered) (defScope s_answered) [] [] f fd
abbrev s_turned : Stmt := topS 51
abbrev n_turned : List Str := ["table", "column", "row"]
theorem sc_turned : FnScope n_turned ["table"] (defScope s_turned) := ⟨rfl, rfl, rfl, by decide +kernel, rfl, by decide +kernel, by decide +kernel⟩
def d_turned : DefA := ⟨fun K => He.ga K "turned", "turned", "turned", defArgs s_turned, defBody s_turned, defScope s_turned, []⟩
abbrev Fd_turned (K : PySem.W.Frag) (f : Addr) (fd : FuncData) : Prop := FunD K "turned" "turned" (defArgs s_turned) (defBody s_turned) (defScope s_turned) [] [] f fd
abbrev s_out_table_of : Stmt := topS 52
abbrev n_out_table_of : List Str := ["tolds", "table"]
theorem sc_out_table_of : FnScope n_out_table_of ["tolds", "table"] (defScope s_out_table_of) := ⟨rfl, rfl, rfl, by decide +kernel, rfl, by decide +kernel, by decide +kernel⟩
def d_out_table_of : DefA := ⟨fun K => He.ga K "out_table_of", "out_table_of", "out_table_of", defArgs s_out_table_of, defBody s_out_table_of, defScope s_out_table_of, []⟩
abbrev Fd_out_table_of (K : PySem.W.Frag) (f : Addr) (fd : FuncData) : Prop := FunD K "out_table_of" "out_table_of" (defArgs s_out_table_of) (defBody s_out_table_of) (defScope s_out_table_of) [] [] f fd
abbrev s_table_of : Stmt := topS 53
abbrev n_table_of : List Str := ["tolds", "table", "out", "row", "line", "near", "far"]
theorem sc_table_of : FnScope n_table_of ["tolds"] (defScope s_table_of) := ⟨rfl, rfl, rfl, by decide +kernel, rfl, by decide +kernel, by decide +kernel⟩
def d_table_of : DefA := ⟨fun K => He.ga K "table_of", "table_of", "table_of", defArgs s_table_of, defBody s_table_of, defScope s_table_of, []⟩
abbrev Fd_table_of (K : PySem.W.Frag) (f : Addr) (fd : FuncData) : Prop := FunD K "table_of" "table_of" (defArgs s_table_of) (defBody s_table_of) (defScope s_table_of) [] [] f fd
abbrev s_made_table : Stmt := topS 54
abbrev n_made_table : List Str := ["telling"]
theorem sc_made_table : FnScope n_made_table ["telling"] (defScope s_made_table) := ⟨rfl, rfl, rfl, by decide +kernel, rfl, by decide +kernel, by decide +kernel⟩
def d_made_table : DefA := ⟨fun K => He.ga K "made_table", "made_table", "made_table", defArgs s_made_table, defBody s_made_table, defScope s_made_table, []⟩
abbrev Fd_made_table (K : PySem.W.Frag) (f : Addr) (fd : FuncData) : Prop := FunD K "made_table" "made_table" (defArgs s_made_table) (defBody s_made_table) (defScope s_made_table) [] [] f fd
abbrev s_is_doable : Stmt := topS 55
abbrev n_is_doable : List Str := ["telling"]
theorem sc_is_doable : FnScope n_is_doable ["telling"] (defScope s_is_doable) := ⟨rfl, rfl, rfl, by decide +kernel, rfl, by decide +kernel, by decide +kernel⟩
def d_is_doable : DefA := ⟨fun K => He.ga K "is_doable", "is_doable", "is_doable", defArgs s_is_doable, defBody s_is_doable, defScope s_is_doable, []⟩
abbrev Fd_is_doable (K : PySem.W.Frag) (f : Addr) (fd : FuncData) : Prop := FunD K "is_doable" "is_doable" (defArgs s_is_doable) (defBody s_is_doable) (defScope s_is_doable) [] [] f fd
abbrev s_is_lot : Stmt := topS 57
abbrev n_is_lot : List Str := ["value", "many", "position", "one", "other"]
theorem sc_is_lot : FnScope n_is_lot ["value", "many"] (defScope s_is_lot) := ⟨rfl, rfl, rfl, by decide +kernel, rfl, by decide +kernel, by decide +kernel⟩
def d_is_lot : DefA := ⟨fun K => He.ga K "is_lot", "is_lot", "is_lot", defArgs s_is_lot, defBody s_is_lot, defScope s_is_lot, []⟩
abbrev Fd_is_lot (K : PySem.W.Frag) (f : Addr) (fd : FuncData) : Prop := FunD K "is_lot" "is_lot" (defArgs s_is_lot) (defBody s_is_lot) (defScope s_is_lot) [] [] f fd
abbrev s_is_let : Stmt := topS 58
abbrev n_is_let : List Str := ["tolds", "lot", "position"]
theorem sc_is_let : FnScope n_is_let ["tolds", "lot"] (defScope s_is_let) := ⟨rfl, rfl, rfl, by decide +kernel, rfl, by decide +kernel, by decide +kernel⟩
def d_is_let : DefA := ⟨fun K => He.ga K "is_let", "is_let", "is_let", defArgs s_is_let, defBody s_is_let, defScope s_is_let, []⟩
abbrev Fd_is_let (K : PySem.W.Frag) (f : Addr) (fd : FuncData) : Prop := FunD K "is_let" "is_let" (defArgs s_is_let) (defBody s_is_let) (defScope s_is_let) [] [] f fd
abbrev s_is_doable_lot : Stmt := topS 59
abbrev n_is_doable_lot : List Str := ["telling", "value", "tolds"]
theorem sc_is_doable_lot : FnScope n_is_doable_lot ["telling", "value"] (defScope s_is_doable_lot) := ⟨rfl, rfl, rfl, by decide +kernel, rfl, by decide +kernel, by decide +kernel⟩
def d_is_doable_lot : DefA := ⟨fun K => He.ga K "is_doable_lot", "is_doable_lot", "is_doable_lot", defArgs s_is_doable_lot, defBody s_is_doable_lot, defScope s_is_doable_lot, []⟩
abbrev Fd_is_doable_lot (K : PySem.W.Frag) (f : Addr) (fd : FuncData) : Prop := FunD K "is_doable_lot" "is_doable_lot" (defArgs s_is_doable_lot) (defBody s_is_doable_lot) (defScope s_is_doable_lot) [] [] f fd
abbrev s_longer : Stmt := topS 60
abbrev n_longer : List Str := ["lots", "many", "found", "lot", "position", "later", "at"]
theorem sc_longer : FnScope n_longer ["lots", "many"] (defScope s_longer) := ⟨rfl, rfl, rfl, by decide +kernel, rfl, by decide +kernel, by decide +kernel⟩
def d_longer : DefA := ⟨fun K => He.ga K "longer", "longer", "longer", defArgs s_longer, defBody s_longer, defScope s_longer, []⟩
abbrev Fd_longer (K : PySem.W.Frag) (f : Addr) (fd : FuncData) : Prop := FunD K "longer" "longer" (defArgs s_longer) (defBody s_longer) (defScope s_longer) [] [] f fd
abbrev s_doable_lots : Stmt := topS 61
abbrev n_doable_lots : List Str := ["tolds", "found", "lot"]
theorem sc_doable_lots : FnScope n_doable_lots ["tolds"] (defScope s_doable_lots) := ⟨rfl, rfl, rfl, by decide +kernel, rfl, by decide +kernel, by decide +kernel⟩
def d_doable_lots : DefA := ⟨fun K => He.ga K "doable_lots", "doable_lots", "doable_lots", defArgs s_doable_lots, defBody s_doable_lots, defScope s_doable_lots, []⟩
abbrev Fd_doable_lots (K : PySem.W.Frag) (f : Addr) (fd : FuncData) : Prop := FunD K "doable_lots" "doable_lots" (defArgs s_doable_lots) (defBody s_doable_lots) (defScope s_doable_lots) [] [] f fd
abbrev s_greatest_lots : Stmt := topS 62
abbrev n_greatest_lots : List Str := ["telling", "lots", "found", "some", "more", "lot", "other"]
theorem sc_greatest_lots : FnScope n_greatest_lots ["telling"] (defScope s_greatest_lots) := ⟨rfl, rfl, rfl, by decide +kernel, rfl, by decide +kernel, by decide +kernel⟩
def d_greatest_lots : DefA := ⟨fun K => He.ga K "greatest_lots", "greatest_lots", "greatest_lots", defArgs s_greatest_lots, defBody s_greatest_lots, defScope s_greatest_lots, []⟩
abbrev Fd_greatest_lots (K : PySem.W.Frag) (f : Addr) (fd : FuncData) : Prop := FunD K "greatest_lots" "greatest_lots" (defArgs s_greatest_lots) (defBody s_greatest_lots) (defScope s_greatest_lots) [] [] f fd
abbrev s_is_part : Stmt := topS 63
abbrev n_is_part : List Str := ["lot", "other", "position"]
theorem sc_is_part : FnScope n_is_part ["lot", "other"] (defScope s_is_part) := ⟨rfl, rfl, rfl, by decide +kernel, rfl, by decide +kernel, by decide +kernel⟩
def d_is_part : DefA := ⟨fun K => He.ga K "is_part", "is_part", "is_part", defArgs s_is_part, defBody s_is_part, defScope s_is_part, []⟩
abbrev Fd_is_part (K : PySem.W.Frag) (f : Addr) (fd : FuncData) : Prop := FunD K "is_part" "is_part" (defArgs s_is_part) (defBody s_is_part) (defScope s_is_part) [] [] f fd
abbrev s_fewest_out : Stmt := topS 64
abbrev n_fewest_out : List Str := ["telling", "tolds", "lots", "lot", "position"]
theorem sc_fewest_out : FnScope n_fewest_out ["telling"] (defScope s_fewest_out) := ⟨rfl, rfl, rfl, by decide +kernel, rfl, by decide +kernel, by decide +kernel⟩
def d_fewest_out : DefA := ⟨fun K => He.ga K "fewest_out", "fewest_out", "fewest_out", defArgs s_fewest_out, defBody s_fewest_out, defScope s_fewest_out, []⟩
abbrev Fd_fewest_out (K : PySem.W.Frag) (f : Addr) (fd : FuncData) : Prop := FunD K "fewest_out" "fewest_out" (defArgs s_fewest_out) (defBody s_fewest_out) (defScope s_fewest_out) [] [] f fd
abbrev s_Lpot : Stmt := topS 66
abbrev n_Lpot : List Str := ["_law_script", "_law_k", "_law_cell"]
theorem sc_Lpot : FnScope n_Lpot ["_law_script", "_law_k"] (defScope s_Lpot) := ⟨rfl, rfl, rfl, by decide +kernel, rfl, by decide +kernel, by decide +kernel⟩
def d_Lpot : DefA := ⟨fun K => He.ga K "_law_pot", "_law_pot", "_law_pot", defArgs s_Lpot, defBody s_Lpot, defScope s_Lpot, []⟩
abbrev Fd_Lpot (K : PySem.W.Frag) (f : Addr) (fd : FuncData) : Prop := FunD K "_law_pot" "_law_pot" (defArgs s_Lpot) (defBody s_Lpot) (defScope s_Lpot) [] [] f fd
abbrev s_Ldraw : Stmt := topS 67
abbrev n_Ldraw : List Str := ["_law_pot_here", "_law_size_here", "_law_digit"]
theorem sc_Ldraw : FnScope n_Ldraw ["_law_pot_here", "_law_size_here"] (defScope s_Ldraw) := ⟨rfl, rfl, rfl, by decide +kernel, rfl, by decide +kernel, by decide +kernel⟩
def d_Ldraw : DefA := ⟨fun K => He.ga K "_law_draw", "_law_draw", "_law_draw", defArgs s_Ldraw, defBody s_Ldraw, defScope s_Ldraw, []⟩
abbrev Fd_Ldraw (K : PySem.W.Frag) (f : Addr) (fd : FuncData) : Prop := FunD K "_law_draw" "_law_draw" (defArgs s_Ldraw) (defBody s_Ldraw) (defScope s_Ldraw) [] [] f fd
abbrev s_Lgcd : Stmt := topS 69
abbrev n_Lgcd : List Str := ["_law_one", "_law_other"]
theorem sc_Lgcd : FnScope n_Lgcd ["_law_one", "_law_other"] (defScope s_Lgcd) := ⟨rfl, rfl, rfl, by decide +kernel, rfl, by decide +kernel, by decide +kernel⟩
def d_Lgcd : DefA := ⟨fun K => He.ga K "_law_gcd", "_law_gcd", "_law_gcd", defArgs s_Lgcd, defBody s_Lgcd, defScope s_Lgcd, []⟩
abbrev Fd_Lgcd (K : PySem.W.Frag) (f : Addr) (fd : FuncData) : Prop := FunD K "_law_gcd" "_law_gcd" (defArgs s_Lgcd) (defBody s_Lgcd) (defScope s_Lgcd) [] [] f fd
abbrev s_Lnumber : Stmt := topS 70
abbrev n_Lnumber : List Str := ["_law_plain", "_law_side", "_law_bottom", "_law_part"]
theorem sc_Lnumber : FnScope n_Lnumber ["_law_plain", "_law_side", "_law_bottom"] (defScope s_Lnumber) := ⟨rfl, rfl, rfl, by decide +kernel, rfl, by decide +kernel, by decide +kernel⟩
def d_Lnumber : DefA := ⟨fun K => He.ga K "_law_number", "_law_number", "_law_number", defArgs s_Lnumber, defBody s_Lnumber, defScope s_Lnumber, []⟩
abbrev Fd_Lnumber (K : PySem.W.Frag) (f : Addr) (fd : FuncData) : Prop := FunD K "_law_number" "_law_number" (defArgs s_Lnumber) (defBody s_Lnumber) (defScope s_Lnumber) [] [] f fd
abbrev s_Lplus : Stmt := topS 71
abbrev n_Lplus : List Str := ["_law_one", "_law_other"]
theorem sc_Lplus : FnScope n_Lplus ["_law_one", "_law_other"] (defScope s_Lplus) := ⟨rfl, rfl, rfl, by decide +kernel, rfl, by decide +kernel, by decide +kernel⟩
def d_Lplus : DefA := ⟨fun K => He.ga K "_law_plus", "_law_plus", "_law_plus", defArgs s_Lplus, defBody s_Lplus, defScope s_Lplus, []⟩
abbrev Fd_Lplus (K : PySem.W.Frag) (f : Addr) (fd : FuncData) : Prop := FunD K "_law_plus" "_law_plus" (defArgs s_Lplus) (defBody s_Lplus) (defScope s_Lplus) [] [] f fd
abbrev s_Lless : Stmt := topS 72
abbrev n_Lless : List Str := ["_law_one", "_law_other"]
theorem sc_Lless : FnScope n_Lless ["_law_one", "_law_other"] (defScope s_Lless) := ⟨rfl, rfl, rfl, by decide +kernel, rfl, by decide +kernel, by decide +kernel⟩
def d_Lless : DefA := ⟨fun K => He.ga K "_law_less", "_law_less", "_law_less", defArgs s_Lless, defBody s_Lless, defScope s_Lless, []⟩
abbrev Fd_Lless (K : PySem.W.Frag) (f : Addr) (fd : FuncData) : Prop := FunD K "_law_less" "_law_less" (defArgs s_Lless) (defBody s_Lless) (defScope s_Lless) [] [] f fd
abbrev s_Ltimes : Stmt := topS 73
abbrev n_Ltimes : List Str := ["_law_one", "_law_other", "_law_plain", "_law_side"]
theorem sc_Ltimes : FnScope n_Ltimes ["_law_one", "_law_other"] (defScope s_Ltimes) := ⟨rfl, rfl, rfl, by decide +kernel, rfl, by decide +kernel, by decide +kernel⟩
def d_Ltimes : DefA := ⟨fun K => He.ga K "_law_times", "_law_times", "_law_times", defArgs s_Ltimes, defBody s_Ltimes, defScope s_Ltimes, []⟩
abbrev Fd_Ltimes (K : PySem.W.Frag) (f : Addr) (fd : FuncData) : Prop := FunD K "_law_times" "_law_times" (defArgs s_Ltimes) (defBody s_Ltimes) (defScope s_Ltimes) [] [] f fd
abbrev s_Lmirror : Stmt := topS 74
abbrev n_Lmirror : List Str := ["_law_one"]
theorem sc_Lmirror : FnScope n_Lmirror ["_law_one"] (defScope s_Lmirror) := ⟨rfl, rfl, rfl, by decide +kernel, rfl, by decide +kernel, by decide +kernel⟩
def d_Lmirror : DefA := ⟨fun K => He.ga K "_law_mirror", "_law_mirror", "_law_mirror", defArgs s_Lmirror, defBody s_Lmirror, defScope s_Lmirror, []⟩
abbrev Fd_Lmirror (K : PySem.W.Frag) (f : Addr) (fd : FuncData) : Prop := FunD K "_law_mirror" "_law_mirror" (defArgs s_Lmirror) (defBody s_Lmirror) (defScope s_Lmirror) [] [] f fd
abbrev s_Lsize : Stmt := topS 75
abbrev n_Lsize : List Str := ["_law_one"]
theorem sc_Lsize : FnScope n_Lsize ["_law_one"] (defScope s_Lsize) := ⟨rfl, rfl, rfl, by decide +kernel, rfl, by decide +kernel, by decide +kernel⟩
def d_Lsize : DefA := ⟨fun K => He.ga K "_law_size", "_law_size", "_law_size", defArgs s_Lsize, defBody s_Lsize, defScope s_Lsize, []⟩
abbrev Fd_Lsize (K : PySem.W.Frag) (f : Addr) (fd : FuncData) : Prop := FunD K "_law_size" "_law_size" (defArgs s_Lsize) (defBody s_Lsize) (defScope s_Lsize) [] [] f fd
abbrev s_Lover : Stmt := topS 76
abbrev n_Lover : List Str := ["_law_one", "_law_other", "_law_found", "_law_square"]
theorem sc_Lover : FnScope n_Lover ["_law_one", "_law_other"] (defScope s_Lover) := ⟨rfl, rfl, rfl, by decide +kernel, rfl, by decide +kernel, by decide +kernel⟩
def d_Lover : DefA := ⟨fun K => He.ga K "_law_over", "_law_over", "_law_over", defArgs s_Lover, defBody s_Lover, defScope s_Lover, []⟩
abbrev Fd_Lover (K : PySem.W.Frag) (f : Addr) (fd : FuncData) : Prop := FunD K "_law_over" "_law_over" (defArgs s_Lover) (defBody s_Lover) (defScope s_Lover) [] [] f fd
abbrev s_Lvalue : Stmt := topS 77
abbrev n_Lvalue : List Str := ["_law_one"]
theorem sc_Lvalue : FnScope n_Lvalue ["_law_one"] (defScope s_Lvalue) := ⟨rfl, rfl, rfl, by decide +kernel, rfl, by decide +kernel, by decide +kernel⟩
def d_Lvalue : DefA := ⟨fun K => He.ga K "_law_value", "_law_value", "_law_value", defArgs s_Lvalue, defBody s_Lvalue, defScope s_Lvalue, []⟩
abbrev Fd_Lvalue (K : PySem.W.Frag) (f : Addr) (fd : FuncData) : Prop := FunD K "_law_value" "_law_value" (defArgs s_Lvalue) (defBody s_Lvalue) (defScope s_Lvalue) [] [] f fd
abbrev s_Lpoint : Stmt := topS 78
abbrev n_Lpoint : List Str := ["_law_pot_here", "_law_bottom", "_law_wide", "_law_side"]
theorem sc_Lpoint : FnScope n_Lpoint ["_law_pot_here"] (defScope s_Lpoint) := ⟨rfl, rfl, rfl, by decide +kernel, rfl, by decide +kernel, by decide +kernel⟩
def d_Lpoint : DefA := ⟨fun K => He.ga K "_law_point", "_law_point", "_law_point", defArgs s_Lpoint, defBody s_Lpoint, defScope s_Lpoint, []⟩
abbrev Fd_Lpoint (K : PySem.W.Frag) (f : Addr) (fd : FuncData) : Prop := FunD K "_law_point" "_law_point" (defArgs s_Lpoint) (defBody s_Lpoint) (defScope s_Lpoint) [] [] f fd
abbrev s_Lanswer : Stmt := topS 79
abbrev n_Lanswer : List Str := ["_law_pot_here", "_law_most", "_law_bottom", "_law_side"]
theorem sc_Lanswer : FnScope n_Lanswer ["_law_pot_here", "_law_most"] (defScope s_Lanswer) := ⟨rfl, rfl, rfl, by decide +kernel, rfl, by decide +kernel, by decide +kernel⟩
def d_Lanswer : DefA := ⟨fun K => He.ga K "_law_answer", "_law_answer", "_law_answer", defArgs s_Lanswer, defBody s_Lanswer, defScope s_Lanswer, []⟩
abbrev Fd_Lanswer (K : PySem.W.Frag) (f : Addr) (fd : FuncData) : Prop := FunD K "_law_answer" "_law_answer" (defArgs s_Lanswer) (defBody s_Lanswer) (defScope s_Lanswer) [] [] f fd
abbrev s_Ltelling : Stmt := topS 80
abbrev n_Ltelling : List Str := ["_law_pot_here", "_law_many", "_law_answers", "_law_most", "_law_found", "_law_turn", "_law_point_here", "_law_there", "_law_numbers", "_law_at"]
theorem sc_Ltelling : FnScope n_Ltelling ["_law_pot_here", "_law_many", "_law_answers", "_law_most"] (defScope s_Ltelling) := ⟨rfl, rfl, rfl, by decide +kernel, rfl, by decide +kernel, by decide +kernel⟩
def d_Ltelling : DefA := ⟨fun K => He.ga K "_law_telling", "_law_telling", "_law_telling", defArgs s_Ltelling, defBody s_Ltelling, defScope s_Ltelling, []⟩
abbrev Fd_Ltelling (K : PySem.W.Frag) (f : Addr) (fd : FuncData) : Prop := FunD K "_law_telling" "_law_telling" (defArgs s_Ltelling) (defBody s_Ltelling) (defScope s_Ltelling) [] [] f fd
abbrev s_Ltold : Stmt := topS 81
abbrev n_Ltold : List Str := ["_law_tolds", "_law_point_here", "_law_numbers", "_law_number_here"]
theorem sc_Ltold : FnScope n_Ltold ["_law_tolds"] (defScope s_Ltold) := ⟨rfl, rfl, rfl, by decide +kernel, rfl, by decide +kernel, by decide +kernel⟩
def d_Ltold : DefA := ⟨fun K => He.ga K "_law_told", "_law_told", "_law_told", defArgs s_Ltold, defBody s_Ltold, defScope s_Ltold, []⟩
abbrev Fd_Ltold (K : PySem.W.Frag) (f : Addr) (fd : FuncData) : Prop := FunD K "_law_told" "_law_told" (defArgs s_Ltold) (defBody s_Ltold) (defScope s_Ltold) [] [] f fd
abbrev s_Lpower : Stmt := topS 82
abbrev n_Lpower : List Str := ["_law_one", "_law_many", "_law_found", "_law_turn"]
theorem sc_Lpower : FnScope n_Lpower ["_law_one", "_law_many"] (defScope s_Lpower) := ⟨rfl, rfl, rfl, by decide +kernel, rfl, by decide +kernel, by decide +kernel⟩
def d_Lpower : DefA := ⟨fun K => He.ga K "_law_power", "_law_power", "_law_power", defArgs s_Lpower, defBody s_Lpower, defScope s_Lpower, []⟩
abbrev Fd_Lpower (K : PySem.W.Frag) (f : Addr) (fd : FuncData) : Prop := FunD K "_law_power" "_law_power" (defArgs s_Lpower) (defBody s_Lpower) (defScope s_Lpower) [] [] f fd
abbrev s_Lfactorial : Stmt := topS 83
abbrev n_Lfactorial : List Str := ["_law_many", "_law_found", "_law_number_here"]
theorem sc_Lfactorial : FnScope n_Lfactorial ["_law_many"] (defScope s_Lfactorial) := ⟨rfl, rfl, rfl, by decide +kernel, rfl, by decide +kernel, by decide +kernel⟩
def d_Lfactorial : DefA := ⟨fun K => He.ga K "_law_factorial", "_law_factorial", "_law_factorial", defArgs s_Lfactorial, defBody s_Lfactorial, defScope s_Lfactorial, []⟩
abbrev Fd_Lfactorial (K : PySem.W.Frag) (f : Addr) (fd : FuncData) : Prop := FunD K "_law_factorial" "_law_factorial" (defArgs s_Lfactorial) (defBody s_Lfactorial) (defScope s_Lfactorial) [] [] f fd
abbrev s_Ltones : Stmt := topS 84
abbrev n_Ltones : List Str := ["_law_z", "_law_j", "_law_w", "_law_l", "_law_found", "_law_near", "_law_m", "_law_ways", "_law_part"]
theorem sc_Ltones : FnScope n_Ltones ["_law_z", "_law_j", "_law_w", "_law_l"] (defScope s_Ltones) := ⟨rfl, rfl, rfl, by decide +kernel, rfl, by decide +kernel, by decide +kernel⟩
def d_Ltones : DefA := ⟨fun K => He.ga K "_law_tones", "_law_tones", "_law_tones", defArgs s_Ltones, defBody s_Ltones, defScope s_Ltones, []⟩
abbrev Fd_Ltones (K : PySem.W.Frag) (f : Addr) (fd : FuncData) : Prop := FunD K "_law_tones" "_law_tones" (defArgs s_Ltones) (defBody s_Ltones) (defScope s_Ltones) [] [] f fd
abbrev s_Lrows : Stmt := topS 85
abbrev n_Lrows : List Str := ["_law_tolds", "_law_found", "_law_point_here", "_law_numbers", "_law_times_here"]
theorem sc_Lrows : FnScope n_Lrows ["_law_tolds"] (defScope s_Lrows) := ⟨rfl, rfl, rfl, by decide +kernel, rfl, by decide +kernel, by decide +kernel⟩
def d_Lrows : DefA := ⟨fun K => He.ga K "_law_rows", "_law_rows", "_law_rows", defArgs s_Lrows, defBody s_Lrows, defScope s_Lrows, []⟩
abbrev Fd_Lrows (K : PySem.W.Frag) (f : Addr) (fd : FuncData) : Prop := FunD K "_law_rows" "_law_rows" (defArgs s_Lrows) (defBody s_Lrows) (defScope s_Lrows) [] [] f fd
abbrev s_Lentry : Stmt := topS 86
abbrev n_Lentry : List Str := ["_law_one", "_law_other", "_law_bound", "_law_z", "_law_j", "_law_near", "_law_w", "_law_l", "_law_far", "_law_found", "_law_i", "_law_k", "_law_part"]
theorem sc_Lentry : FnScope n_Lentry ["_law_one", "_law_other", "_law_bound"] (defScope s_Lentry) := ⟨rfl, rfl, rfl, by decide +kernel, rfl, by decide +kernel, by decide +kernel⟩
def d_Lentry : DefA := ⟨fun K => He.ga K "_law_entry", "_law_entry", "_law_entry", defArgs s_Lentry, defBody s_Lentry, defScope s_Lentry, []⟩
abbrev Fd_Lentry (K : PySem.W.Frag) (f : Addr) (fd : FuncData) : Prop := FunD K "_law_entry" "_law_entry" (defArgs s_Lentry) (defBody s_Lentry) (defScope s_Lentry) [] [] f fd
abbrev s_Ltable : Stmt := topS 87
abbrev n_Ltable : List Str := ["_law_tolds", "_law_bound", "_law_rows_here", "_law_one", "_law_other"]
theorem sc_Ltable : FnScope n_Ltable ["_law_tolds", "_law_bound"] (defScope s_Ltable) := ⟨rfl, rfl, rfl, by decide +kernel, rfl, by decide +kernel, by decide +kernel⟩
def d_Ltable : DefA := ⟨fun K => He.ga K "_law_table", "_law_table", "_law_table", defArgs s_Ltable, defBody s_Ltable, defScope s_Ltable, []⟩
abbrev Fd_Ltable (K : PySem.W.Frag) (f : Addr) (fd : FuncData) : Prop := FunD K "_law_table" "_law_table" (defArgs s_Ltable) (defBody s_Ltable) (defScope s_Ltable) [] [] f fd
abbrev s_Lrank : Stmt := topS 89
abbrev n_Lrank : List Str := ["_law_table_here", "_law_here", "_law_rank_here", "_law_at", "_law_first", "_law_to", "_law_part", "_law_row", "_law_entry_here", "_law_mate"]
theorem sc_Lrank : FnScope n_Lrank ["_law_table_here"] (defScope s_Lrank) := ⟨rfl, rfl, rfl, by decide +kernel, rfl, by decide +kernel, by decide +kernel⟩
def d_Lrank : DefA := ⟨fun K => He.ga K "_law_rank", "_law_rank", "_law_rank", defArgs s_Lrank, defBody s_Lrank, defScope s_Lrank, []⟩
abbrev Fd_Lrank (K : PySem.W.Frag) (f : Addr) (fd : FuncData) : Prop := FunD K "_law_rank" "_law_rank" (defArgs s_Lrank) (defBody s_Lrank) (defScope s_Lrank) [] [] f fd
abbrev s_Lis_let : Stmt := topS 90
abbrev n_Lis_let : List Str := ["_law_table_here", "_law_spots", "_law_lot", "_law_rows_here", "_law_at", "_law_here", "_law_there"]
theorem sc_Lis_let : FnScope n_Lis_let ["_law_table_here", "_law_spots", "_law_lot"] (defScope s_Lis_let) := ⟨rfl, rfl, rfl, by decide +kernel, rfl, by decide +kernel, by decide +kernel⟩
def d_Lis_let : DefA := ⟨fun K => He.ga K "_law_is_let", "_law_is_let", "_law_is_let", defArgs s_Lis_let, defBody s_Lis_let, defScope s_Lis_let, []⟩
abbrev Fd_Lis_let (K : PySem.W.Frag) (f : Addr) (fd : FuncData) : Prop := FunD K "_law_is_let" "_law_is_let" (defArgs s_Lis_let) (defBody s_Lis_let) (defScope s_Lis_let) [] [] f fd
abbrev s_Lall : Stmt := topS 91
abbrev n_Lall : List Str := ["_law_many", "_law_found", "_law_at", "_law_lot"]
theorem sc_Lall : FnScope n_Lall ["_law_many"] (defScope s_Lall) := ⟨rfl, rfl, rfl, by decide +kernel, rfl, by decide +kernel, by decide +kernel⟩
def d_Lall : DefA := ⟨fun K => He.ga K "_law_all", "_law_all", "_law_all", defArgs s_Lall, defBody s_Lall, defScope s_Lall, []⟩
abbrev Fd_Lall (K : PySem.W.Frag) (f : Addr) (fd : FuncData) : Prop := FunD K "_law_all" "_law_all" (defArgs s_Lall) (defBody s_Lall) (defScope s_Lall) [] [] f fd
abbrev s_Llots : Stmt := topS 92
abbrev n_Llots : List Str := ["_law_tolds", "_law_table_here", "_law_spots", "_law_at", "_law_number_here", "_law_lot"]
theorem sc_Llots : FnScope n_Llots ["_law_tolds"] (defScope s_Llots) := ⟨rfl, rfl, rfl, by decide +kernel, rfl, by decide +kernel, by decide +kernel⟩
def d_Llots : DefA := ⟨fun K => He.ga K "_law_lots", "_law_lots", "_law_lots", defArgs s_Llots, defBody s_Llots, defScope s_Llots, []⟩
abbrev Fd_Llots (K : PySem.W.Frag) (f : Addr) (fd : FuncData) : Prop := FunD K "_law_lots" "_law_lots" (defArgs s_Llots) (defBody s_Llots) (defScope s_Llots) [] [] f fd
abbrev s_Lis_part : Stmt := topS 93
abbrev n_Lis_part : List Str := ["_law_lot", "_law_other", "_law_at"]
theorem sc_Lis_part : FnScope n_Lis_part ["_law_lot", "_law_other"] (defScope s_Lis_part) := ⟨rfl, rfl, rfl, by decide +kernel, rfl, by decide +kernel, by decide +kernel⟩
def d_Lis_part : DefA := ⟨fun K => He.ga K "_law_is_part", "_law_is_part", "_law_is_part", defArgs s_Lis_part, defBody s_Lis_part, defScope s_Lis_part, []⟩
abbrev Fd_Lis_part (K : PySem.W.Frag) (f : Addr) (fd : FuncData) : Prop := FunD K "_law_is_part" "_law_is_part" (defArgs s_Lis_part) (defBody s_Lis_part) (defScope s_Lis_part) [] [] f fd
abbrev s_Lodd_right : Stmt := topS 94
abbrev n_Lodd_right : List Str := ["_law_told_here", "_law_lots_here", "_law_many", "_law_odd", "_law_value_here", "_law_lot"]
theorem sc_Lodd_right : FnScope n_Lodd_right ["_law_told_here", "_law_lots_here", "_law_many"] (defScope s_Lodd_right) := ⟨rfl, rfl, rfl, by decide +kernel, rfl, by decide +kernel, by decide +kernel⟩
def d_Lodd_right : DefA := ⟨fun K => He.ga K "_law_odd_right", "_law_odd_right", "_law_odd_right", defArgs s_Lodd_right, defBody s_Lodd_right, defScope s_Lodd_right, []⟩
abbrev Fd_Lodd_right (K : PySem.W.Frag) (f : Addr) (fd : FuncData) : Prop := FunD K "_law_odd_right" "_law_odd_right" (defArgs s_Lodd_right) (defBody s_Lodd_right) (defScope s_Lodd_right) [] [] f fd
abbrev s_Lright : Stmt := topS 95
abbrev n_Lright : List Str := ["_law_pot_here", "_law_tolds", "_law_told_here", "_law_many", "_law_lots_here", "_law_greatest", "_law_most", "_law_out", "_law_lot", "_law_left", "_law_other", "_law_at"]
theorem sc_Lright : FnScope n_Lright ["_law_pot_here"] (defScope s_Lright) := ⟨rfl, rfl, rfl, by decide +kernel, rfl, by decide +kernel, by decide +kernel⟩
def d_Lright : DefA := ⟨fun K => He.ga K "_law_right", "_law_right", "_law_right", defArgs s_Lright, defBody s_Lright, defScope s_Lright, []⟩
abbrev Fd_Lright (K : PySem.W.Frag) (f : Addr) (fd : FuncData) : Prop := FunD K "_law_right" "_law_right" (defArgs s_Lright) (defBody s_Lright) (defScope s_Lright) [] [] f fd
abbrev s_law : Stmt := topS 96
abbrev n_law : List Str := ["_law_script", "_law_k"]
theorem sc_law : FnScope n_law ["_law_script"] (defScope s_law) := ⟨rfl, rfl, rfl, by decide +kernel, rfl, by decide +kernel, by decide +kernel⟩
def d_law : DefA := ⟨fun K => He.ga K "law", "law", "law", defArgs s_law, defBody s_law, defScope s_law, []⟩
abbrev Fd_law (K : PySem.W.Frag) (f : Addr) (fd : FuncData) : Prop := FunD K "law" "law" (defArgs s_law) (defBody s_law) (defScope s_law) [] [] f fd
def fnl0 : List DefA := [d_is_integer, d_is_count, d_is_list, d_want_many, d_want_at_most, d_common_part, d_Ratio_init, d_Ratio_sign, d_Ratio_is_below, d_told_pair, d_Parts_init, d_Twin_init]
def fnl1 : List DefA := [d_Twin_plain, d_Twin_is_nought, d_Twin_add, d_Twin_sub, d_Twin_mul, d_Twin_over, d_Twin_mirror, d_Twin_size, d_Twin_power, d_Twin_eq, d_handed_parts, d_by_parts]
def fnl2 : List DefA := [d_told_parts, d_nought, d_one, d_is_value, d_twin_of, d_is_point, d_Walk_init, d_Walk_middle, d_Walk_first_with, d_Walk_first_beside, d_Walk_column, d_Walk_take]
def fnl3 : List DefA := [d_less_times, d_squares_of, d_is_never_below_of, d_is_told, d_told_telling, d_spots_of, d_product_to, d_entry, d_force_table_of, d_answered, d_turned, d_out_table_of]
def fnl4 : List DefA := [d_table_of, d_made_table, d_is_doable, d_is_lot, d_is_let, d_is_doable_lot, d_longer, d_doable_lots, d_greatest_lots, d_is_part, d_fewest_out, d_Lpot]
def fnl5 : List DefA := [d_Ldraw, d_Lgcd, d_Lnumber, d_Lplus, d_Lless, d_Ltimes, d_Lmirror, d_Lsize, d_Lover, d_Lvalue, d_Lpoint, d_Lanswer]
def fnl6 : List DefA := [d_Ltelling, d_Ltold, d_Lpower, d_Lfactorial, d_Ltones, d_Lrows, d_Lentry, d_Ltable, d_Lrank, d_Lis_let, d_Lall, d_Llots]
def fnl7 : List DefA := [d_Lis_part, d_Lodd_right, d_Lright, d_law]
def fnAll : List DefA := fnl0 ++ fnl1 ++ fnl2 ++ fnl3 ++ fnl4 ++ fnl5 ++ fnl6 ++ fnl7
def fal0 : List He.Fa := [.glo "is_integer", .glo "is_count", .glo "is_list", .glo "want_many", .glo "want_at_most", .glo "common_part", .glo "told_pair", .glo "handed_parts", .glo "by_parts", .glo "told_parts", .glo "nought", .glo "one"]
def fal1 : List He.Fa := [.glo "is_value", .glo "twin_of", .glo "is_point", .glo "less_times", .glo "squares_of", .glo "is_never_below_of", .glo "is_told", .glo "told_telling", .glo "spots_of", .glo "product_to", .glo "entry", .glo "force_table_of"]
def fal2 : List He.Fa := [.glo "answered", .glo "turned", .glo "out_table_of", .glo "table_of", .glo "made_table", .glo "is_doable", .glo "is_lot", .glo "is_let", .glo "is_doable_lot", .glo "longer", .glo "doable_lots", .glo "greatest_lots"]
def fal3 : List He.Fa := [.glo "is_part", .glo "fewest_out", .glo "_law_pot", .glo "_law_draw", .glo "_law_gcd", .glo "_law_number", .glo "_law_plus", .glo "_law_less", .glo "_law_times", .glo "_law_mirror", .glo "_law_size", .glo "_law_over"]
def fal4 : List He.Fa := [.glo "_law_value", .glo "_law_point", .glo "_law_answer", .glo "_law_telling", .glo "_law_told", .glo "_law_power", .glo "_law_factorial", .glo "_law_tones", .glo "_law_rows", .glo "_law_entry", .glo "_law_table", .glo "_law_rank"]
def fal5 : List He.Fa := [.glo "_law_is_let", .glo "_law_all", .glo "_law_lots", .glo "_law_is_part", .glo "_law_odd_right", .glo "_law_right", .glo "law", .glo "Ratio", .cls "Ratio", .mkr "Ratio", .glo "Parts", .cls "Parts"]
def fal6 : List He.Fa := [.mkr "Parts", .glo "Twin", .cls "Twin", .mkr "Twin", .glo "Walk", .cls "Walk", .mkr "Walk", .noat "Ratio" "own_top", .noat "Ratio" "own_bottom", .noat "Parts" "own_left", .noat "Parts" "own_right", .noat "Parts" "own_below"]
def fal7 : List He.Fa := [.noat "Twin" "own_plain", .noat "Twin" "own_side", .noat "Twin" "own_low", .noat "Walk" "own_values", .noat "Walk" "own_weights", .noat "Walk" "own_left", .meth "Ratio" "is_below", .meth "Twin" "__add__", .meth "Twin" "__sub__", .meth "Twin" "__mul__", .meth "Twin" "over", .meth "Twin" "mirror"]
def fal8 : List He.Fa := [.meth "Twin" "size", .meth "Twin" "power", .meth "Twin" "__eq__", .meth "Walk" "middle", .meth "Walk" "first_with", .meth "Walk" "first_beside", .meth "Walk" "column", .meth "Walk" "take", .free "isinstance", .free "len", .free "range", .free "zip"]
def fal9 : List He.Fa := [.free "enumerate", .free "all", .free "any", .free "sorted", .free "min", .free "max", .free "abs", .free "int", .free "list", .free "tuple", .free "repr", .free "divmod"]
def fal10 : List He.Fa := [.free "bool", .int "MOST_POWER" 200, .int "MOST_ANSWERS" 6, .int "MOST_TOLD" 4]
def faAll : List He.Fa := fal0 ++ fal1 ++ fal2 ++ fal3 ++ fal4 ++ fal5 ++ fal6 ++ fal7 ++ fal8 ++ fal9 ++ fal10
def exB (K : PySem.W.Frag) : Bool := seerB K && (kitAll K && (clsTyB K (He.ga K "Twin") && (clsTyB K (He.ga K "Ratio") && (clsTyB K (He.ga K "Parts") && (propB K "Ratio" "sign" && (propB K "Twin" "plain" && (propB K "Twin" "is_nought" && (PySem.W.selfFirst K (He.ga K "Twin") && (intB K &&
  (He.eqO (PySem.W.nsIn K mainGlobals "gcd") (some (some (.builtin "math.gcd"))) && He.eqO (PySem.W.findIn K (.ref (He.ga K "Twin")) "__rmul__") (some (some (.ref (He.ma K (He.ga K "Twin") "__rmul__"))))))))))))))
/-- what the walk leans on -/
structure Tx (P : Program) (K : PySem.W.Frag) (mg : Str → Option Value) : Prop where
  tree : P.given.tree = none
  ex : exB K = true
  gcd : mg "gcd" = some (.builtin "math.gcd")
  MOST_POWER : ∃ t, mg "MOST_POWER" = some (.int 200 t)
  MOST_ANSWERS : ∃ t, mg "MOST_ANSWERS" = some (.int 6 t)
  MOST_TOLD : ∃ t, mg "MOST_TOLD" = some (.int 4 t)
  b_isinstance : mg "isinstance" = none
  b_len : mg "len" = none
  b_range : mg "range" = none
  b_zip : mg "zip" = none
  b_enumerate : mg "enumerate" = none
  b_all : mg "all" = none
  b_any : mg "any" = none
  b_sorted : mg "sorted" = none
  b_min : mg "min" = none
  b_max : mg "max" = none
  b_abs : mg "abs" = none
  b_int : mg "int" = none
  b_list : mg "list" = none
  b_tuple : mg "tuple" = none
  b_repr : mg "repr" = none
  b_divmod : mg "divmod" = none
  b_bool : mg "bool" = none
  g_is_integer : mg "is_integer" = some (.ref (He.ga K "is_integer"))
  g_is_count : mg "is_count" = some (.ref (He.ga K "is_count"))
  g_is_list : mg "is_list" = some (.ref (He.ga K "is_list"))
  g_want_many : mg "want_many" = some (.ref (He.ga K "want_many"))
  g_want_at_most : mg "want_at_most" = some (.ref (He.ga K "want_at_most"))
  g_common_part : mg "common_part" = some (.ref (He.ga K "common_part"))
  g_told_pair : mg "told_pair" = some (.ref (He.ga K "told_pair"))
  g_handed_parts : mg "handed_parts" = some (.ref (He.ga K "handed_parts"))
  g_by_parts : mg "by_parts" = some (.ref (He.ga K "by_parts"))
  g_told_parts : mg "told_parts" = some (.ref (He.ga K "told_parts"))
  g_nought : mg "nought" = some (.ref (He.ga K "nought"))
  g_one : mg "one" = some (.ref (He.ga K "one"))
  g_is_value : mg "is_value" = some (.ref (He.ga K "is_value"))
  g_twin_of : mg "twin_of" = some (.ref (He.ga K "twin_of"))
  g_is_point : mg "is_point" = some (.ref (He.ga K "is_point"))
  g_less_times : mg "less_times" = some (.ref (He.ga K "less_times"))
  g_squares_of : mg "squares_of" = some (.ref (He.ga K "squares_of"))
  g_is_never_below_of : mg "is_never_below_of" = some (.ref (He.ga K "is_never_below_of"))
  g_is_told : mg "is_told" = some (.ref (He.ga K "is_told"))
  g_told_telling : mg "told_telling" = some (.ref (He.ga K "told_telling"))
  g_spots_of : mg "spots_of" = some (.ref (He.ga K "spots_of"))
  g_product_to : mg "product_to" = some (.ref (He.ga K "product_to"))
  g_entry : mg "entry" = some (.ref (He.ga K "entry"))
  g_force_table_of : mg "force_table_of" = some (.ref (He.ga K "force_table_of"))
  g_answered : mg "answered" = some (.ref (He.ga K "answered"))
  g_turned : mg "turned" = some (.ref (He.ga K "turned"))
  g_out_table_of : mg "out_table_of" = some (.ref (He.ga K "out_table_of"))
  g_table_of : mg "table_of" = some (.ref (He.ga K "table_of"))
  g_made_table : mg "made_table" = some (.ref (He.ga K "made_table"))
  g_is_doable : mg "is_doable" = some (.ref (He.ga K "is_doable"))
  g_is_lot : mg "is_lot" = some (.ref (He.ga K "is_lot"))
  g_is_let : mg "is_let" = some (.ref (He.ga K "is_let"))
  g_is_doable_lot : mg "is_doable_lot" = some (.ref (He.ga K "is_doable_lot"))
  g_longer : mg "longer" = some (.ref (He.ga K "longer"))
  g_doable_lots : mg "doable_lots" = some (.ref (He.ga K "doable_lots"))
  g_greatest_lots : mg "greatest_lots" = some (.ref (He.ga K "greatest_lots"))
  g_is_part : mg "is_part" = some (.ref (He.ga K "is_part"))
  g_fewest_out : mg "fewest_out" = some (.ref (He.ga K "fewest_out"))
  g_Lpot : mg "_law_pot" = some (.ref (He.ga K "_law_pot"))
  g_Ldraw : mg "_law_draw" = some (.ref (He.ga K "_law_draw"))
  g_Lgcd : mg "_law_gcd" = some (.ref (He.ga K "_law_gcd"))
  g_Lnumber : mg "_law_number" = some (.ref (He.ga K "_law_number"))
  g_Lplus : mg "_law_plus" = some (.ref (He.ga K "_law_plus"))
  g_Lless : mg "_law_less" = some (.ref (He.ga K "_law_less"))
  g_Ltimes : mg "_law_times" = some (.ref (He.ga K "_law_times"))
  g_Lmirror : mg "_law_mirror" = some (.ref (He.ga K "_law_mirror"))
  g_Lsize : mg "_law_size" = some (.ref (He.ga K "_law_size"))
  g_Lover : mg "_law_over" = some (.ref (He.ga K "_law_over"))
  g_Lvalue : mg "_law_value" = some (.ref (He.ga K "_law_value"))
  g_Lpoint : mg "_law_point" = some (.ref (He.ga K "_law_point"))
  g_Lanswer : mg "_law_answer" = some (.ref (He.ga K "_law_answer"))
  g_Ltelling : mg "_law_telling" = some (.ref (He.ga K "_law_telling"))
  g_Ltold : mg "_law_told" = some (.ref (He.ga K "_law_told"))
  g_Lpower : mg "_law_power" = some (.ref (He.ga K "_law_power"))
  g_Lfactorial : mg "_law_factorial" = some (.ref (He.ga K "_law_factorial"))
  g_Ltones : mg "_law_tones" = some (.ref (He.ga K "_law_tones"))
  g_Lrows : mg "_law_rows" = some (.ref (He.ga K "_law_rows"))
  g_Lentry : mg "_law_entry" = some (.ref (He.ga K "_law_entry"))
  g_Ltable : mg "_law_table" = some (.ref (He.ga K "_law_table"))
  g_Lrank : mg "_law_rank" = some (.ref (He.ga K "_law_rank"))
  g_Lis_let : mg "_law_is_let" = some (.ref (He.ga K "_law_is_let"))
  g_Lall : mg "_law_all" = some (.ref (He.ga K "_law_all"))
  g_Llots : mg "_law_lots" = some (.ref (He.ga K "_law_lots"))
  g_Lis_part : mg "_law_is_part" = some (.ref (He.ga K "_law_is_part"))
  g_Lodd_right : mg "_law_odd_right" = some (.ref (He.ga K "_law_odd_right"))
  g_Lright : mg "_law_right" = some (.ref (He.ga K "_law_right"))
  g_law : mg "law" = some (.ref (He.ga K "law"))
  g_Ratio : mg "Ratio" = some (.ref (He.ga K "Ratio"))
  cl_Ratio : Cls K (He.ga K "Ratio")
  mk_Ratio : Mk K (He.ga K "Ratio") (He.ma K (He.ga K "Ratio") "__init__")
  g_Parts : mg "Parts" = some (.ref (He.ga K "Parts"))
  cl_Parts : Cls K (He.ga K "Parts")
  mk_Parts : Mk K (He.ga K "Parts") (He.ma K (He.ga K "Parts") "__init__")
  g_Twin : mg "Twin" = some (.ref (He.ga K "Twin"))
  cl_Twin : Cls K (He.ga K "Twin")
  mk_Twin : Mk K (He.ga K "Twin") (He.ma K (He.ga K "Twin") "__init__")
  g_Walk : mg "Walk" = some (.ref (He.ga K "Walk"))
  cl_Walk : Cls K (He.ga K "Walk")
  mk_Walk : Mk K (He.ga K "Walk") (He.ma K (He.ga K "Walk") "__init__")
  na_Ratio_own_top : NoAttr K (He.ga K "Ratio") "own_top"
  na_Ratio_own_bottom : NoAttr K (He.ga K "Ratio") "own_bottom"
  na_Parts_own_left : NoAttr K (He.ga K "Parts") "own_left"
  na_Parts_own_right : NoAttr K (He.ga K "Parts") "own_right"
  na_Parts_own_below : NoAttr K (He.ga K "Parts") "own_below"
  na_Twin_own_plain : NoAttr K (He.ga K "Twin") "own_plain"
  na_Twin_own_side : NoAttr K (He.ga K "Twin") "own_side"
  na_Twin_own_low : NoAttr K (He.ga K "Twin") "own_low"
  na_Walk_own_values : NoAttr K (He.ga K "Walk") "own_values"
  na_Walk_own_weights : NoAttr K (He.ga K "Walk") "own_weights"
  na_Walk_own_left : NoAttr K (He.ga K "Walk") "own_left"
  m_Ratio_is_below : Meth K (He.ga K "Ratio") "is_below" (He.ma K (He.ga K "Ratio") "is_below")
  m_Twin_add : Meth K (He.ga K "Twin") "__add__" (He.ma K (He.ga K "Twin") "__add__")
  m_Twin_sub : Meth K (He.ga K "Twin") "__sub__" (He.ma K (He.ga K "Twin") "__sub__")
  m_Twin_mul : Meth K (He.ga K "Twin") "__mul__" (He.ma K (He.ga K "Twin") "__mul__")
  m_Twin_over : Meth K (He.ga K "Twin") "over" (He.ma K (He.ga K "Twin") "over")
  m_Twin_mirror : Meth K (He.ga K "Twin") "mirror" (He.ma K (He.ga K "Twin") "mirror")
  m_Twin_size : Meth K (He.ga K "Twin") "size" (He.ma K (He.ga K "Twin") "size")
  m_Twin_power : Meth K (He.ga K "Twin") "power" (He.ma K (He.ga K "Twin") "power")
  m_Twin_eq : Meth K (He.ga K "Twin") "__eq__" (He.ma K (He.ga K "Twin") "__eq__")
  m_Walk_middle : Meth K (He.ga K "Walk") "middle" (He.ma K (He.ga K "Walk") "middle")
  m_Walk_first_with : Meth K (He.ga K "Walk") "first_with" (He.ma K (He.ga K "Walk") "first_with")
  m_Walk_first_beside : Meth K (He.ga K "Walk") "first_beside" (He.ma K (He.ga K "Walk") "first_beside")
  m_Walk_column : Meth K (He.ga K "Walk") "column" (He.ma K (He.ga K "Walk") "column")
  m_Walk_take : Meth K (He.ga K "Walk") "take" (He.ma K (He.ga K "Walk") "take")
  F_is_integer : ∃ fd, Fd_is_integer K (d_is_integer.ad K) fd
  F_is_count : ∃ fd, Fd_is_count K (d_is_count.ad K) fd
  F_is_list : ∃ fd, Fd_is_list K (d_is_list.ad K) fd
  F_want_many : ∃ fd, Fd_want_many K (d_want_many.ad K) fd
  F_want_at_most : ∃ fd, Fd_want_at_most K (d_want_at_most.ad K) fd
  F_common_part : ∃ fd, Fd_common_part K (d_common_part.ad K) fd
  F_Ratio_init : ∃ fd, Fd_Ratio_init K (d_Ratio_init.ad K) fd
  F_Ratio_sign : ∃ fd, Fd_Ratio_sign K (d_Ratio_sign.ad K) fd
  F_Ratio_is_below : ∃ fd, Fd_Ratio_is_below K (d_Ratio_is_below.ad K) fd
  F_told_pair : ∃ fd, Fd_told_pair K (d_told_pair.ad K) fd
  F_Parts_init : ∃ fd, Fd_Parts_init K (d_Parts_init.ad K) fd
  F_Twin_init : ∃ fd, Fd_Twin_init K (d_Twin_init.ad K) fd
  F_Twin_plain : ∃ fd, Fd_Twin_plain K (d_Twin_plain.ad K) fd
  F_Twin_is_nought : ∃ fd, Fd_Twin_is_nought K (d_Twin_is_nought.ad K) fd
  F_Twin_add : ∃ fd, Fd_Twin_add K (d_Twin_add.ad K) fd
  F_Twin_sub : ∃ fd, Fd_Twin_sub K (d_Twin_sub.ad K) fd
  F_Twin_mul : ∃ fd, Fd_Twin_mul K (d_Twin_mul.ad K) fd
  F_Twin_over : ∃ fd, Fd_Twin_over K (d_Twin_over.ad K) fd
  F_Twin_mirror : ∃ fd, Fd_Twin_mirror K (d_Twin_mirror.ad K) fd
  F_Twin_size : ∃ fd, Fd_Twin_size K (d_Twin_size.ad K) fd
  F_Twin_power : ∃ fd, Fd_Twin_power K (d_Twin_power.ad K) fd
  F_Twin_eq : ∃ fd, Fd_Twin_eq K (d_Twin_eq.ad K) fd
  F_handed_parts : ∃ fd, Fd_handed_parts K (d_handed_parts.ad K) fd
  F_by_parts : ∃ fd, Fd_by_parts K (d_by_parts.ad K) fd
  F_told_parts : ∃ fd, Fd_told_parts K (d_told_parts.ad K) fd
  F_nought : ∃ fd, Fd_nought K (d_nought.ad K) fd
  F_one : ∃ fd, Fd_one K (d_one.ad K) fd
  F_is_value : ∃ fd, Fd_is_value K (d_is_value.ad K) fd
  F_twin_of : ∃ fd, Fd_twin_of K (d_twin_of.ad K) fd
  F_is_point : ∃ fd, Fd_is_point K (d_is_point.ad K) fd
  F_Walk_init : ∃ fd, Fd_Walk_init K (d_Walk_init.ad K) fd
  F_Walk_middle : ∃ fd, Fd_Walk_middle K (d_Walk_middle.ad K) fd
  F_Walk_first_with : ∃ fd, Fd_Walk_first_with K (d_Walk_first_with.ad K) fd
  F_Walk_first_beside : ∃ fd, Fd_Walk_first_beside K (d_Walk_first_beside.ad K) fd
  F_Walk_column : ∃ fd, Fd_Walk_column K (d_Walk_column.ad K) fd
  F_Walk_take : ∃ fd, Fd_Walk_take K (d_Walk_take.ad K) fd
  F_less_times : ∃ fd, Fd_less_times K (d_less_times.ad K) fd
  F_squares_of : ∃ fd, Fd_squares_of K (d_squares_of.ad K) fd
  F_is_never_below_of : ∃ fd, Fd_is_never_below_of K (d_is_never_below_of.ad K) fd
  F_is_told : ∃ fd, Fd_is_told K (d_is_told.ad K) fd
  F_told_telling : ∃ fd, Fd_told_telling K (d_told_telling.ad K) fd
  F_spots_of : ∃ fd, Fd_spots_of K (d_spots_of.ad K) fd
  F_product_to : ∃ fd, Fd_product_to K (d_product_to.ad K) fd
  F_entry : ∃ fd, Fd_entry K (d_entry.ad K) fd
  F_force_table_of : ∃ fd, Fd_force_table_of K (d_force_table_of.ad K) fd
  F_answered : ∃ fd, Fd_answered K (d_answered.ad K) fd
  F_turned : ∃ fd, Fd_turned K (d_turned.ad K) fd
  F_out_table_of : ∃ fd, Fd_out_table_of K (d_out_table_of.ad K) fd
  F_table_of : ∃ fd, Fd_table_of K (d_table_of.ad K) fd
  F_made_table : ∃ fd, Fd_made_table K (d_made_table.ad K) fd
  F_is_doable : ∃ fd, Fd_is_doable K (d_is_doable.ad K) fd
  F_is_lot : ∃ fd, Fd_is_lot K (d_is_lot.ad K) fd
  F_is_let : ∃ fd, Fd_is_let K (d_is_let.ad K) fd
  F_is_doable_lot : ∃ fd, Fd_is_doable_lot K (d_is_doable_lot.ad K) fd
  F_longer : ∃ fd, Fd_longer K (d_longer.ad K) fd
  F_doable_lots : ∃ fd, Fd_doable_lots K (d_doable_lots.ad K) fd
  F_greatest_lots : ∃ fd, Fd_greatest_lots K (d_greatest_lots.ad K) fd
  F_is_part : ∃ fd, Fd_is_part K (d_is_part.ad K) fd
  F_fewest_out : ∃ fd, Fd_fewest_out K (d_fewest_out.ad K) fd
  F_Lpot : ∃ fd, Fd_Lpot K (d_Lpot.ad K) fd
  F_Ldraw : ∃ fd, Fd_Ldraw K (d_Ldraw.ad K) fd
  F_Lgcd : ∃ fd, Fd_Lgcd K (d_Lgcd.ad K) fd
  F_Lnumber : ∃ fd, Fd_Lnumber K (d_Lnumber.ad K) fd
  F_Lplus : ∃ fd, Fd_Lplus K (d_Lplus.ad K) fd
  F_Lless : ∃ fd, Fd_Lless K (d_Lless.ad K) fd
  F_Ltimes : ∃ fd, Fd_Ltimes K (d_Ltimes.ad K) fd
  F_Lmirror : ∃ fd, Fd_Lmirror K (d_Lmirror.ad K) fd
  F_Lsize : ∃ fd, Fd_Lsize K (d_Lsize.ad K) fd
  F_Lover : ∃ fd, Fd_Lover K (d_Lover.ad K) fd
  F_Lvalue : ∃ fd, Fd_Lvalue K (d_Lvalue.ad K) fd
  F_Lpoint : ∃ fd, Fd_Lpoint K (d_Lpoint.ad K) fd
  F_Lanswer : ∃ fd, Fd_Lanswer K (d_Lanswer.ad K) fd
  F_Ltelling : ∃ fd, Fd_Ltelling K (d_Ltelling.ad K) fd
  F_Ltold : ∃ fd, Fd_Ltold K (d_Ltold.ad K) fd
  F_Lpower : ∃ fd, Fd_Lpower K (d_Lpower.ad K) fd
  F_Lfactorial : ∃ fd, Fd_Lfactorial K (d_Lfactorial.ad K) fd
  F_Ltones : ∃ fd, Fd_Ltones K (d_Ltones.ad K) fd
  F_Lrows : ∃ fd, Fd_Lrows K (d_Lrows.ad K) fd
  F_Lentry : ∃ fd, Fd_Lentry K (d_Lentry.ad K) fd
  F_Ltable : ∃ fd, Fd_Ltable K (d_Ltable.ad K) fd
  F_Lrank : ∃ fd, Fd_Lrank K (d_Lrank.ad K) fd
  F_Lis_let : ∃ fd, Fd_Lis_let K (d_Lis_let.ad K) fd
  F_Lall : ∃ fd, Fd_Lall K (d_Lall.ad K) fd
  F_Llots : ∃ fd, Fd_Llots K (d_Llots.ad K) fd
  F_Lis_part : ∃ fd, Fd_Lis_part K (d_Lis_part.ad K) fd
  F_Lodd_right : ∃ fd, Fd_Lodd_right K (d_Lodd_right.ad K) fd
  F_Lright : ∃ fd, Fd_Lright K (d_Lright.ad K) fd
  F_law : ∃ fd, Fd_law K (d_law.ad K) fd
theorem Tx.of {P : Program} {K : PySem.W.Frag} {h : Heap} {mg : Str → Option Value} (tree : P.given.tree = none) (X : K.In h) (G : h.Ns mainGlobals mg) (c : SaysN faAll fnAll exB K) : Tx P K mg where
  tree := tree
  ex := c.ex_
  gcd := by
    have e := c.ex_
    unfold exB at e
    simp only [Bool.and_eq_true] at e
    exact PySem.W.mg_of X G (He.eqO_ok e.2.2.2.2.2.2.2.2.2.2.1)
  MOST_POWER := He.int_ok X G (c.fact 121 (f := .int "MOST_POWER" 200) rfl)
  MOST_ANSWERS := He.int_ok X G (c.fact 122 (f := .int "MOST_ANSWERS" 6) rfl)
  MOST_TOLD := He.int_ok X G (c.fact 123 (f := .int "MOST_TOLD" 4) rfl)
  b_isinstance := He.free_ok X G (c.fact 104 (f := .free "isinstance") rfl)
  b_len := He.free_ok X G (c.fact 105 (f := .free "len") rfl)
  b_range := He.free_ok X G (c.fact 106 (f := .free "range") rfl)
  b_zip := He.free_ok X G (c.fact 107 (f := .free "zip") rfl)
  b_enumerate := He.free_ok X G (c.fact 108 (f := .free "enumerate") rfl)
  b_all := He.free_ok X G (c.fact 109 (f := .free "all") rfl)
  b_any := He.free_ok X G (c.fact 110 (f := .free "any") rfl)
  b_sorted := He.free_ok X G (c.fact 111 (f := .free "sorted") rfl)
  b_min := He.free_ok X G (c.fact 112 (f := .free "min") rfl)
  b_max := He.free_ok X G (c.fact 113 (f := .free "max") rfl)
  b_abs := He.free_ok X G (c.fact 114 (f := .free "abs") rfl)
  b_int := He.free_ok X G (c.fact 115 (f := .free "int") rfl)
  b_list := He.free_ok X G (c.fact 116 (f := .free "list") rfl)
  b_tuple := He.free_ok X G (c.fact 117 (f := .free "tuple") rfl)
  b_repr := He.free_ok X G (c.fact 118 (f := .free "repr") rfl)
  b_divmod := He.free_ok X G (c.fact 119 (f := .free "divmod") rfl)
  b_bool := He.free_ok X G (c.fact 120 (f := .free "bool") rfl)
  g_is_integer := He.glo_ok X G (c.fact 0 (f := .glo "is_integer") rfl)
  g_is_count := He.glo_ok X G (c.fact 1 (f := .glo "is_count") rfl)
  g_is_list := He.glo_ok X G (c.fact 2 (f := .glo "is_list") rfl)
  g_want_many := He.glo_ok X G (c.fact 3 (f := .glo "want_many") rfl)
  g_want_at_most := He.glo_ok X G (c.fact 4 (f := .glo "want_at_most") rfl)
  g_common_part := He.glo_ok X G (c.fact 5 (f := .glo "common_part") rfl)
  g_told_pair := He.glo_ok X G (c.fact 6 (f := .glo "told_pair") rfl)
  g_handed_parts := He.glo_ok X G (c.fact 7 (f := .glo "handed_parts") rfl)
  g_by_parts := He.glo_ok X G (c.fact 8 (f := .glo "by_parts") rfl)
  g_told_parts := He.glo_ok X G (c.fact 9 (f := .glo "told_parts") rfl)
  g_nought := He.glo_ok X G (c.fact 10 (f := .glo "nought") rfl)
  g_one := He.glo_ok X G (c.fact 11 (f := .glo "one") rfl)
  g_is_value := He.glo_ok X G (c.fact 12 (f := .glo "is_value") rfl)
  g_twin_of := He.glo_ok X G (c.fact 13 (f := .glo "twin_of") rfl)
  g_is_point := He.glo_ok X G (c.fact 14 (f := .glo "is_point") rfl)
  g_less_times := He.glo_ok X G (c.fact 15 (f := .glo "less_times") rfl)
  g_squares_of := He.glo_ok X G (c.fact 16 (f := .glo "squares_of") rfl)
  g_is_never_below_of := He.glo_ok X G (c.fact 17 (f := .glo "is_never_below_of") rfl)
  g_is_told := He.glo_ok X G (c.fact 18 (f := .glo "is_told") rfl)
  g_told_telling := He.glo_ok X G (c.fact 19 (f := .glo "told_telling") rfl)
  g_spots_of := He.glo_ok X G (c.fact 20 (f := .glo "spots_of") rfl)
  g_product_to := He.glo_ok X G (c.fact 21 (f := .glo "product_to") rfl)
  g_entry := He.glo_ok X G (c.fact 22 (f := .glo "entry") rfl)
  g_force_table_of := He.glo_ok X G (c.fact 23 (f := .glo "force_table_of") rfl)
  g_answered := He.glo_ok X G (c.fact 24 (f := .glo "answered") rfl)
  g_turned := He.glo_ok X G (c.fact 25 (f := .glo "turned") rfl)
  g_out_table_of := He.glo_ok X G (c.fact 26 (f := .glo "out_table_of") rfl)
  g_table_of := He.glo_ok X G (c.fact 27 (f := .glo "table_of") rfl)
  g_made_table := He.glo_ok X G (c.fact 28 (f := .glo "made_table") rfl)
  g_is_doable := He.glo_ok X G (c.fact 29 (f := .glo "is_doable") rfl)
  g_is_lot := He.glo_ok X G (c.fact 30 (f := .glo "is_lot") rfl)
  g_is_let := He.glo_ok X G (c.fact 31 (f := .glo "is_let") rfl)
  g_is_doable_lot := He.glo_ok X G (c.fact 32 (f := .glo "is_doable_lot") rfl)
  g_longer := He.glo_ok X G (c.fact 33 (f := .glo "longer") rfl)
  g_doable_lots := He.glo_ok X G (c.fact 34 (f := .glo "doable_lots") rfl)
  g_greatest_lots := He.glo_ok X G (c.fact 35 (f := .glo "greatest_lots") rfl)
  g_is_part := He.glo_ok X G (c.fact 36 (f := .glo "is_part") rfl)
  g_fewest_out := He.glo_ok X G (c.fact 37 (f := .glo "fewest_out") rfl)
  g_Lpot := He.glo_ok X G (c.fact 38 (f := .glo "_law_pot") rfl)
  g_Ldraw := He.glo_ok X G (c.fact 39 (f := .glo "_law_draw") rfl)
  g_Lgcd := He.glo_ok X G (c.fact 40 (f := .glo "_law_gcd") rfl)
  g_Lnumber := He.glo_ok X G (c.fact 41 (f := .glo "_law_number") rfl)
  g_Lplus := He.glo_ok X G (c.fact 42 (f := .glo "_law_plus") rfl)
  g_Lless := He.glo_ok X G (c.fact 43 (f := .glo "_law_less") rfl)
  g_Ltimes := He.glo_ok X G (c.fact 44 (f := .glo "_law_times") rfl)
  g_Lmirror := He.glo_ok X G (c.fact 45 (f := .glo "_law_mirror") rfl)
  g_Lsize := He.glo_ok X G (c.fact 46 (f := .glo "_law_size") rfl)
  g_Lover := He.glo_ok X G (c.fact 47 (f := .glo "_law_over") rfl)
  g_Lvalue := He.glo_ok X G (c.fact 48 (f := .glo "_law_value") rfl)
  g_Lpoint := He.glo_ok X G (c.fact 49 (f := .glo "_law_point") rfl)
  g_Lanswer := He.glo_ok X G (c.fact 50 (f := .glo "_law_answer") rfl)
  g_Ltelling := He.glo_ok X G (c.fact 51 (f := .glo "_law_telling") rfl)
  g_Ltold := He.glo_ok X G (c.fact 52 (f := .glo "_law_told") rfl)
  g_Lpower := He.glo_ok X G (c.fact 53 (f := .glo "_law_power") rfl)
  g_Lfactorial := He.glo_ok X G (c.fact 54 (f := .glo "_law_factorial") rfl)
  g_Ltones := He.glo_ok X G (c.fact 55 (f := .glo "_law_tones") rfl)
  g_Lrows := He.glo_ok X G (c.fact 56 (f := .glo "_law_rows") rfl)
  g_Lentry := He.glo_ok X G (c.fact 57 (f := .glo "_law_entry") rfl)
  g_Ltable := He.glo_ok X G (c.fact 58 (f := .glo "_law_table") rfl)
  g_Lrank := He.glo_ok X G (c.fact 59 (f := .glo "_law_rank") rfl)
  g_Lis_let := He.glo_ok X G (c.fact 60 (f := .glo "_law_is_let") rfl)
  g_Lall := He.glo_ok X G (c.fact 61 (f := .glo "_law_all") rfl)
  g_Llots := He.glo_ok X G (c.fact 62 (f := .glo "_law_lots") rfl)
  g_Lis_part := He.glo_ok X G (c.fact 63 (f := .glo "_law_is_part") rfl)
  g_Lodd_right := He.glo_ok X G (c.fact 64 (f := .glo "_law_odd_right") rfl)
  g_Lright := He.glo_ok X G (c.fact 65 (f := .glo "_law_right") rfl)
  g_law := He.glo_ok X G (c.fact 66 (f := .glo "law") rfl)
  g_Ratio := He.glo_ok X G (c.fact 67 (f := .glo "Ratio") rfl)
  cl_Ratio := He.cls_ok (c.fact 68 (f := .cls "Ratio") rfl)
  mk_Ratio := He.mkr_ok (c.fact 69 (f := .mkr "Ratio") rfl)
  g_Parts := He.glo_ok X G (c.fact 70 (f := .glo "Parts") rfl)
  cl_Parts := He.cls_ok (c.fact 71 (f := .cls "Parts") rfl)
  mk_Parts := He.mkr_ok (c.fact 72 (f := .mkr "Parts") rfl)
  g_Twin := He.glo_ok X G (c.fact 73 (f := .glo "Twin") rfl)
  cl_Twin := He.cls_ok (c.fact 74 (f := .cls "Twin") rfl)
  mk_Twin := He.mkr_ok (c.fact 75 (f := .mkr "Twin") rfl)
  g_Walk := He.glo_ok X G (c.fact 76 (f := .glo "Walk") rfl)
  cl_Walk := He.cls_ok (c.fact 77 (f := .cls "Walk") rfl)
  mk_Walk := He.mkr_ok (c.fact 78 (f := .mkr "Walk") rfl)
  na_Ratio_own_top := He.noat_ok (c.fact 79 (f := .noat "Ratio" "own_top") rfl)
  na_Ratio_own_bottom := He.noat_ok (c.fact 80 (f := .noat "Ratio" "own_bottom") rfl)
  na_Parts_own_left := He.noat_ok (c.fact 81 (f := .noat "Parts" "own_left") rfl)
  na_Parts_own_right := He.noat_ok (c.fact 82 (f := .noat "Parts" "own_right") rfl)
  na_Parts_own_below := He.noat_ok (c.fact 83 (f := .noat "Parts" "own_below") rfl)
  na_Twin_own_plain := He.noat_ok (c.fact 84 (f := .noat "Twin" "own_plain") rfl)
  na_Twin_own_side := He.noat_ok (c.fact 85 (f := .noat "Twin" "own_side") rfl)
  na_Twin_own_low := He.noat_ok (c.fact 86 (f := .noat "Twin" "own_low") rfl)
  na_Walk_own_values := He.noat_ok (c.fact 87 (f := .noat "Walk" "own_values") rfl)
  na_Walk_own_weights := He.noat_ok (c.fact 88 (f := .noat "Walk" "own_weights") rfl)
  na_Walk_own_left := He.noat_ok (c.fact 89 (f := .noat "Walk" "own_left") rfl)
  m_Ratio_is_below := He.meth_ok (c.fact 90 (f := .meth "Ratio" "is_below") rfl)
  m_Twin_add := He.meth_ok (c.fact 91 (f := .meth "Twin" "__add__") rfl)
  m_Twin_sub := He.meth_ok (c.fact 92 (f := .meth "Twin" "__sub__") rfl)
  m_Twin_mul := He.meth_ok (c.fact 93 (f := .meth "Twin" "__mul__") rfl)
  m_Twin_over := He.meth_ok (c.fact 94 (f := .meth "Twin" "over") rfl)
  m_Twin_mirror := He.meth_ok (c.fact 95 (f := .meth "Twin" "mirror") rfl)
  m_Twin_size := He.meth_ok (c.fact 96 (f := .meth "Twin" "size") rfl)
  m_Twin_power := He.meth_ok (c.fact 97 (f := .meth "Twin" "power") rfl)
  m_Twin_eq := He.meth_ok (c.fact 98 (f := .meth "Twin" "__eq__") rfl)
  m_Walk_middle := He.meth_ok (c.fact 99 (f := .meth "Walk" "middle") rfl)
  m_Walk_first_with := He.meth_ok (c.fact 100 (f := .meth "Walk" "first_with") rfl)
  m_Walk_first_beside := He.meth_ok (c.fact 101 (f := .meth "Walk" "first_beside") rfl)
  m_Walk_column := He.meth_ok (c.fact 102 (f := .meth "Walk" "column") rfl)
  m_Walk_take := He.meth_ok (c.fact 103 (f := .meth "Walk" "take") rfl)
  F_is_integer := c.def_ 0 (d := d_is_integer) rfl
  F_is_count := c.def_ 1 (d := d_is_count) rfl
  F_is_list := c.def_ 2 (d := d_is_list) rfl
  F_want_many := c.def_ 3 (d := d_want_many) rfl
  F_want_at_most := c.def_ 4 (d := d_want_at_most) rfl
  F_common_part := c.def_ 5 (d := d_common_part) rfl
  F_Ratio_init := c.def_ 6 (d := d_Ratio_init) rfl
  F_Ratio_sign := c.def_ 7 (d := d_Ratio_sign) rfl
  F_Ratio_is_below := c.def_ 8 (d := d_Ratio_is_below) rfl
  F_told_pair := c.def_ 9 (d := d_told_pair) rfl
  F_Parts_init := c.def_ 10 (d := d_Parts_init) rfl
  F_Twin_init := c.def_ 11 (d := d_Twin_init) rfl
  F_Twin_plain := c.def_ 12 (d := d_Twin_plain) rfl
  F_Twin_is_nought := c.def_ 13 (d := d_Twin_is_nought) rfl
  F_Twin_add := c.def_ 14 (d := d_Twin_add) rfl
  F_Twin_sub := c.def_ 15 (d := d_Twin_sub) rfl
  F_Twin_mul := c.def_ 16 (d := d_Twin_mul) rfl
  F_Twin_over := c.def_ 17 (d := d_Twin_over) rfl
  F_Twin_mirror := c.def_ 18 (d := d_Twin_mirror) rfl
  F_Twin_size := c.def_ 19 (d := d_Twin_size) rfl
  F_Twin_power := c.def_ 20 (d := d_Twin_power) rfl
  F_Twin_eq := c.def_ 21 (d := d_Twin_eq) rfl
  F_handed_parts := c.def_ 22 (d := d_handed_parts) rfl
  F_by_parts := c.def_ 23 (d := d_by_parts) rfl
  F_told_parts := c.def_ 24 (d := d_told_parts) rfl
  F_nought := c.def_ 25 (d := d_nought) rfl
  F_one := c.def_ 26 (d := d_one) rfl
  F_is_value := c.def_ 27 (d := d_is_value) rfl
  F_twin_of := c.def_ 28 (d := d_twin_of) rfl
  F_is_point := c.def_ 29 (d := d_is_point) rfl
  F_Walk_init := c.def_ 30 (d := d_Walk_init) rfl
  F_Walk_middle := c.def_ 31 (d := d_Walk_middle) rfl
  F_Walk_first_with := c.def_ 32 (d := d_Walk_first_with) rfl
  F_Walk_first_beside := c.def_ 33 (d := d_Walk_first_beside) rfl
  F_Walk_column := c.def_ 34 (d := d_Walk_column) rfl
  F_Walk_take := c.def_ 35 (d := d_Walk_take) rfl
  F_less_times := c.def_ 36 (d := d_less_times) rfl
  F_squares_of := c.def_ 37 (d := d_squares_of) rfl
  F_is_never_below_of := c.def_ 38 (d := d_is_never_below_of) rfl
  F_is_told := c.def_ 39 (d := d_is_told) rfl
  F_told_telling := c.def_ 40 (d := d_told_telling) rfl
  F_spots_of := c.def_ 41 (d := d_spots_of) rfl
  F_product_to := c.def_ 42 (d := d_product_to) rfl
  F_entry := c.def_ 43 (d := d_entry) rfl
  F_force_table_of := c.def_ 44 (d := d_force_table_of) rfl
  F_answered := c.def_ 45 (d := d_answered) rfl
  F_turned := c.def_ 46 (d := d_turned) rfl
  F_out_table_of := c.def_ 47 (d := d_out_table_of) rfl
  F_table_of := c.def_ 48 (d := d_table_of) rfl
  F_made_table := c.def_ 49 (d := d_made_table) rfl
  F_is_doable := c.def_ 50 (d := d_is_doable) rfl
  F_is_lot := c.def_ 51 (d := d_is_lot) rfl
  F_is_let := c.def_ 52 (d := d_is_let) rfl
  F_is_doable_lot := c.def_ 53 (d := d_is_doable_lot) rfl
  F_longer := c.def_ 54 (d := d_longer) rfl
  F_doable_lots := c.def_ 55 (d := d_doable_lots) rfl
  F_greatest_lots := c.def_ 56 (d := d_greatest_lots) rfl
  F_is_part := c.def_ 57 (d := d_is_part) rfl
  F_fewest_out := c.def_ 58 (d := d_fewest_out) rfl
  F_Lpot := c.def_ 59 (d := d_Lpot) rfl
  F_Ldraw := c.def_ 60 (d := d_Ldraw) rfl
  F_Lgcd := c.def_ 61 (d := d_Lgcd) rfl
  F_Lnumber := c.def_ 62 (d := d_Lnumber) rfl
  F_Lplus := c.def_ 63 (d := d_Lplus) rfl
  F_Lless := c.def_ 64 (d := d_Lless) rfl
  F_Ltimes := c.def_ 65 (d := d_Ltimes) rfl
  F_Lmirror := c.def_ 66 (d := d_Lmirror) rfl
  F_Lsize := c.def_ 67 (d := d_Lsize) rfl
  F_Lover := c.def_ 68 (d := d_Lover) rfl
  F_Lvalue := c.def_ 69 (d := d_Lvalue) rfl
  F_Lpoint := c.def_ 70 (d := d_Lpoint) rfl
  F_Lanswer := c.def_ 71 (d := d_Lanswer) rfl
  F_Ltelling := c.def_ 72 (d := d_Ltelling) rfl
  F_Ltold := c.def_ 73 (d := d_Ltold) rfl
  F_Lpower := c.def_ 74 (d := d_Lpower) rfl
  F_Lfactorial := c.def_ 75 (d := d_Lfactorial) rfl
  F_Ltones := c.def_ 76 (d := d_Ltones) rfl
  F_Lrows := c.def_ 77 (d := d_Lrows) rfl
  F_Lentry := c.def_ 78 (d := d_Lentry) rfl
  F_Ltable := c.def_ 79 (d := d_Ltable) rfl
  F_Lrank := c.def_ 80 (d := d_Lrank) rfl
  F_Lis_let := c.def_ 81 (d := d_Lis_let) rfl
  F_Lall := c.def_ 82 (d := d_Lall) rfl
  F_Llots := c.def_ 83 (d := d_Llots) rfl
  F_Lis_part := c.def_ 84 (d := d_Lis_part) rfl
  F_Lodd_right := c.def_ 85 (d := d_Lodd_right) rfl
  F_Lright := c.def_ 86 (d := d_Lright) rfl
  F_law := c.def_ 87 (d := d_law) rfl
end NL

/-! text HeadN -/
set_option Elab.async false
set_option linter.all false
set_option maxRecDepth 100000
set_option maxHeartbeats 0
/-! The head: the whole top by one run (printed by wip/gen_txt.py). -/
namespace NL
open PySem PySem.W PySem.Calls PyProof.Rows
abbrev RW : OpenRow := OpenLaw.row PySem.Challenge.rw_neverlouder_k79_whole_lots_of_tolds
abbrev qv : Program := view RW.prog [0, 96]
def looseN : List PySem.Str := (["_wall", "BoxError", "LimitError", "InvalidNumber", "InvalidRatio", "InvalidMany", "InvalidTelling", "DividedByZero", "TooMany", "is_integer", "is_count", "is_list", "want_many", "want_at_most"] : List PySem.Str) ++ (["PART", "digits_of", "common_part", "Ratio", "told_pair", "MOST_POWER", "Parts", "Twin", "handed_parts", "by_parts", "told_parts", "nought", "one", "is_value", "twin_of"] : List PySem.Str) ++ (["is_point", "Walk", "less_times", "squares_of", "is_never_below_of", "MOST_ANSWERS", "MOST_TOLD", "is_told", "told_telling", "spots_of", "product_to", "entry", "force_table_of", "answered", "turned"] : List PySem.Str) ++ (["out_table_of", "table_of", "made_table", "is_doable", "is_lot", "is_let", "is_doable_lot", "longer", "doable_lots", "greatest_lots", "is_part", "fewest_out", "_law_pot", "_law_draw", "_law_pick"] : List PySem.Str) ++ (["_law_gcd", "_law_number", "_law_plus", "_law_less", "_law_times", "_law_mirror", "_law_size", "_law_over", "_law_value", "_law_point", "_law_answer", "_law_telling", "_law_told", "_law_power", "_law_factorial"] : List PySem.Str) ++ (["_law_tones", "_law_rows", "_law_entry", "_law_table", "_law_form", "_law_rank", "_law_is_let", "_law_all", "_law_lots", "_law_is_part", "_law_odd_right", "_law_right"] : List PySem.Str)
def nd0 : List Addr := [1, 2, 3, 4, 188, 189, 195, 196, 202, 203, 209, 210, 216, 217, 230]
def nd1 : List Addr := [231, 239, 240, 241, 242, 243, 244, 245, 246, 252, 253, 254, 260, 261, 262]
def nd2 : List Addr := [268, 269, 270, 276, 277, 278, 284, 285, 286, 287, 288, 289, 290, 291, 292]
def nd3 : List Addr := [293, 294, 295, 296, 297, 298, 299, 300, 301, 302, 303, 304, 305, 306, 307]
def nd4 : List Addr := [308, 309, 310, 311, 312, 313, 314, 315, 316, 317, 318, 319, 320, 321, 322]
def nd5 : List Addr := [323, 324, 325, 326, 327, 328, 329, 330, 331, 332, 333, 334, 335, 336, 337]
def nd6 : List Addr := [338, 339, 340, 341, 342, 343, 344, 345, 346, 347, 348, 349, 350, 351, 352]
def nd7 : List Addr := [353, 354, 355, 356, 357, 358, 359, 360, 361, 362, 363, 364, 365, 366, 367]
def nd8 : List Addr := [368, 369, 370, 371, 372, 373, 374, 375, 376, 377, 378, 379, 380, 381, 382]
def nd9 : List Addr := [383, 384, 385, 386, 387, 388, 389, 390, 391, 399, 400, 408, 409, 410, 411]
def nd10 : List Addr := [412, 413, 414, 415, 416, 417, 418, 419, 429, 430, 431, 432, 433, 434, 435]
def nd11 : List Addr := [436, 442, 443, 444, 450, 451, 452, 458, 459, 460, 466, 467, 468, 474, 475]
def nd12 : List Addr := [476, 477, 478, 479, 480, 481, 482, 483, 484, 485, 486, 487, 488, 489, 490]
def nd13 : List Addr := [491, 492, 493, 494, 495, 496, 497, 498, 499, 500, 501, 502, 503, 504, 505]
def nd14 : List Addr := [506, 507, 508, 509, 510, 511, 512, 513, 514, 515, 516, 517, 518, 519, 520]
def nd15 : List Addr := [521, 522, 523, 524, 525, 526, 527, 528, 529, 530, 531, 532, 533, 534, 535]
def nd16 : List Addr := [536, 537, 538, 539, 540, 541, 542, 543, 544, 545, 546, 547, 548, 549, 550]
def nd17 : List Addr := [551, 552, 553, 554, 555, 556, 557, 558, 559, 560, 561, 562, 563, 564, 565]
def nd18 : List Addr := [566, 567, 568, 569, 570, 571, 572, 573, 574, 575, 576, 577, 578, 579, 580]
def nd19 : List Addr := [581, 589, 590, 596, 597, 603, 604, 610, 611, 617, 618, 624, 625, 631, 632]
def nd20 : List Addr := [638, 639, 647, 648, 649, 650, 651, 652, 653, 654, 655, 656, 657, 658, 659]
def nd21 : List Addr := [660, 661, 662, 663, 664, 665, 666, 667, 668, 669, 670, 671, 672, 673, 674]
def nd22 : List Addr := [675, 676, 677, 678, 679, 680, 681, 682, 683, 684, 685, 686, 687, 693, 694]
def nd23 : List Addr := [700, 701, 707, 708, 712, 713, 717, 718, 722, 723, 729, 730, 736, 737, 741]
def nd24 : List Addr := [742, 746, 747, 751, 752, 758, 759, 763, 764, 770, 771, 777, 778, 782, 783]
def nd25 : List Addr := [787, 788, 794, 795, 799, 800, 804, 805, 809, 810, 814, 815, 819, 820, 826]
def nd26 : List Addr := [827, 833, 834, 847, 848, 854, 855, 861, 862, 868, 869, 875, 876, 882, 883]
def nd27 : List Addr := [889, 890, 896, 897, 903, 904, 910, 911, 917, 918, 922, 923, 927, 928, 934]
def nd28 : List Addr := [935, 941, 942, 948, 949, 953, 954, 960, 961, 965, 966, 977, 978, 982, 983]
def nd29 : List Addr := [987, 988, 992, 993, 997, 998, 1002, 1003, 1007, 1008, 1012, 1013]
def needL : List Addr := nd0 ++ nd1 ++ nd2 ++ nd3 ++ nd4 ++ nd5 ++ nd6 ++ nd7 ++ nd8 ++ nd9 ++ nd10 ++ nd11 ++ nd12 ++ nd13 ++ nd14 ++ nd15 ++ nd16 ++ nd17 ++ nd18 ++ nd19 ++ nd20 ++ nd21 ++ nd22 ++ nd23 ++ nd24 ++ nd25 ++ nd26 ++ nd27 ++ nd28 ++ nd29
def obsM (fa : List He.Fa) (fn : List DefA) (ex : PySem.W.Frag → Bool) (g : Addr → Option Obj) : AlN := obsN fa fn ex (He.frG g needL)
def hookM (fa : List He.Fa) (fn : List DefA) (ex : PySem.W.Frag → Bool) : PySem.W.Hook where
  α := AlN
  obs := fun s => obsM fa fn ex s.heap.get?
  val := fun _ => valN fn
  says := fun _ h => ∃ K : PySem.W.Frag, K.In h ∧ SaysN fa fn ex K
  of := fun _ _ e => ⟨_, He.frG_in, e⟩
  keeps := fun _ _ _ ⟨K, hK, c⟩ k => ⟨K, PySem.W.Frag.In.keeps hK k, c⟩
def hkN : PySem.W.Hook := hookM faAll fnAll exB
def obN (s : PySem.W.SharedT) : AlN := obsM faAll fnAll exB (HandSHeadRun.getT s)
theorem obN_eq (s : PySem.W.SharedT) : obN s = hkN.obs s.abs := by
  have e : HandSHeadRun.getT s = s.abs.heap.get? := funext (HandSHeadRun.getT_eq s)
  unfold obN
  rw [e] <;> rfl
/-! the run, seen four times: one equation for all asks too much memory -/
noncomputable abbrev hdqX (w : World) : Option (Shared × SharedT) := HandSHeadRun.wholeF (fun p => HandSHeadRun.stepQ (HandSHeadRun.denQ HandSHeadRun.tabQ) p w) HandSHeadRun.fenceQ 40000 RW.prog
theorem hdq_ab (w : World) : (hdqX w).map (fun x => (HandSHeadRun.looksF RW.prog x.1.heap x.2.abs, HandSHeadRun.seenQ qv looseN (importedModules RW.prog.main.body) (fun s => xlAt qv [] s && recOk RW.toRowW.records s) x.2.abs)) = some (true, openGood qv looseN) := by kernel_rfl
theorem hdq_fa (w : World) : (hdqX w).map (fun x => exB (He.frG (HandSHeadRun.getT x.2) needL) && faAll.all fun f => f.ok (He.frG (HandSHeadRun.getT x.2) needL)) = some true := by kernel_rfl
theorem hdq_ok (w : World) : (hdqX w).map (fun x => fnAll.all fun d => d.ok (He.frG (HandSHeadRun.getT x.2) needL)) = some true := by kernel_rfl
theorem hdq_fn (w : World) : (hdqX w).map (fun x => fnAll.map fun d => fnA (He.frG (HandSHeadRun.getT x.2) needL) (d.ad (He.frG (HandSHeadRun.getT x.2) needL))) = some (fnAll.map DefA.val) := by kernel_rfl
theorem hdq_join {α β γ : Type} {X : Option α} {f : α → Bool} {f2 : α → β} {b : β} {e fa ok : α → Bool} {g : α → γ} {c : γ} (h1 : X.map (fun x => (f x, f2 x)) = some (true, b)) (h2 : X.map (fun x => e x && fa x) = some true) (h3 : X.map ok = some true) (h4 : X.map g = some c) : X.map (fun x => (f x, f2 x, (e x && (fa x && ok x), g x))) = some (true, b, (true, c)) := by
  cases X with
  | none => cases h1
  | some x =>
    have h1 : (f x, f2 x) = (true, b) := Option.some.inj h1
    have h2 : (e x && fa x) = true := Option.some.inj h2
    have h3 : ok x = true := Option.some.inj h3
    have h4 : g x = c := Option.some.inj h4
    obtain ⟨h5, h6⟩ := Bool.and_eq_true_iff.mp h2
    obtain ⟨h7, h8⟩ := Prod.mk.inj h1
    show some (f x, f2 x, (e x && (fa x && ok x), g x)) = some (true, b, (true, c))
    rw [h7, h8, h3, h4, h5, h6]; rfl
theorem obN_is (s : PySem.W.SharedT) : obN s = (exB (He.frG (HandSHeadRun.getT s) needL) && ((faAll.all fun f => f.ok (He.frG (HandSHeadRun.getT s) needL)) && fnAll.all fun d => d.ok (He.frG (HandSHeadRun.getT s) needL)), fnAll.map fun d => fnA (He.frG (HandSHeadRun.getT s) needL) (d.ad (He.frG (HandSHeadRun.getT s) needL))) := by
  unfold obN obsM obsN
  rfl
theorem runN (w : World) : HandSHeadRun.RunEqI RW qv hkN obN 40000 looseN w := by
  have h := hdq_join (hdq_ab w) (hdq_fa w) (hdq_ok w) (hdq_fn w)
  unfold HandSHeadRun.RunEqI
  simp only [obN_is]
  exact h
end NL

/-! text DL8 -/
set_option Elab.async false
set_option linter.all false
set_option maxRecDepth 100000
set_option maxHeartbeats 4000000
/-! The D-layer: isinstance, operators of Twins, defs made. -/
namespace NL
open PySem PySem.Spec L2
open PyProof.Rows (envOfC)

def tyD : D → DTy
  | .non => .b "NoneType"
  | .bl _ => .b "bool"
  | .int _ => .b "int"
  | .str _ => .b "str"
  | .num _ => .c "Twin"
  | .rat _ => .c "Ratio"
  | .parts _ _ _ => .c "Parts"
  | .lst _ => .b "list"
  | .tup _ => .b "tuple"
  | .dict => .b "dict"
  | _ => .b "?"
def okD : D → Bool
  | .ol _ => false
  | .ob _ _ _ => false
  | .pot => false
  | .cls _ => false
  | .adr _ => false
  | .walk _ _ => false
  | .ty _ => false
  | .scr _ => false
  | _ => true
def clsD : D → Option DTy
  | .ty n => some (.b n)
  | .cls x => some (.c x)
  | _ => none
section
variable {P : Program} {K : PySem.W.Frag} {mg : Str → Option Value}
theorem Tx.parts8 (T : Tx P K mg) : seerB K = true ∧ kitAll K = true ∧ clsTyB K (He.ga K "Twin") = true ∧ clsTyB K (He.ga K "Ratio") = true ∧ clsTyB K (He.ga K "Parts") = true ∧ propB K "Ratio" "sign" = true ∧ propB K "Twin" "plain" = true ∧ propB K "Twin" "is_nought" = true ∧
    PySem.W.selfFirst K (He.ga K "Twin") = true ∧ intB K = true ∧ PySem.W.findIn K (.ref (He.ga K "Twin")) "__rmul__" = some (some (.ref (He.ma K (He.ga K "Twin") "__rmul__"))) := by
  have e := T.ex
  unfold exB at e
  simp only [Bool.and_eq_true] at e
  obtain ⟨e1, e2, e3, e4, e5, e6, e7, e8, e9, e10, _, e11⟩ := e
  exact ⟨e1, e2, e3, e4, e5, e6, e7, e8, e9, e10, He.eqO_ok e11⟩
theorem Tx.seer (T : Tx P K mg) : seerB K = true := T.parts8.1
theorem Tx.kit (T : Tx P K mg) : kitAll K = true := T.parts8.2.1
theorem tyX_of (T : Tx P K mg) {H0 G H : Hp} {v : V} {d : D} (l : Le G H) (h : Is K H0 G H v d) (o : okD d = true) : TyX K H v ((tyD d).v K) := by
  obtain ⟨_, _, t1, t2, t3, _⟩ := T.parts8
  cases d with
  | ol _ => cases o
  | ob _ _ _ => cases o
  | pot => cases o
  | cls _ => cases o
  | adr _ => cases o
  | walk _ _ => cases o
  | ty _ => cases o
  | scr _ => cases o
  | non => cases h; exact .base .non
  | bl b => cases h; exact .base (.bl _)
  | int b => cases h; exact .base (.int _)
  | str b => cases h; exact .base (.str _)
  | num b => cases h with
    | num e n => have c := clsTy_ok t1; exact .base (.ins (l.at_ _ _ e ins_not_pot) T.cl_Twin c.ha c.hn c.ht c.hm)
  | rat b => cases h with
    | rat e n => have c := clsTy_ok t2; exact .base (.ins (l.at_ _ _ e ins_not_pot) T.cl_Ratio c.ha c.hn c.ht c.hm)
  | parts a b c => cases h with
    | parts e => have c := clsTy_ok t3; exact .base (.ins (l.at_ _ _ e ins_not_pot) T.cl_Parts c.ha c.hn c.ht c.hm)
  | lst b => cases h with
    | lst e n => exact .base (.lst (l.at_ _ _ e pot_lst))
  | tup b => cases h with
    | tup e n => exact .base (.tup (l.at_ _ _ e pot_tup))
  | dict => cases h with
    | dict e => exact .base (.dK (l.at_ _ _ e (fun z => nomatch z)))
theorem tyD_mem {d : D} (o : okD d = true) : tyD d ∈ tyL := by
  cases d <;> first | (simp [okD] at o; done) | simp [tyD, tyL]
theorem clsV_of {G : Hp} {v : V} {d : D} {u : DTy} (h : Da K G v d) (e : clsD d = some u) : ClsV v (u.v K) := by
  cases h <;> cases e
  · exact .ty _
  · exact .own _
end
section
variable {X : Cx} {ρ : Env} {S : D → Prop} {pos p : Pos} {a b : Expr}
theorem xv_isi {d c : D} {u : DTy} (T : Tx X.prog X.K X.mg) (ha : XV X a ρ d) (hb : XV X b ρ c) (o : okD d = true) (e : clsD c = some u) (hu : u ∈ usL := by decide) (hg : Gl X "isinstance" := by rfl) (he : starEach [a, b] X.env = (false, eval a X.env) :: starEach [b] X.env := by rfl)
    (he2 : starEach [b] X.env = (false, eval b X.env) :: starEach [] X.env := by rfl) (hpl : (backTo pos (starEach [b] X.env)).any (·.1) = false := by rfl) : XV X (.Call (.Name "isinstance" p) [a, b] [] pos) ρ (.bl (kitR (tyD d) u)) :=
  xe_blt call_isi T.b_isinstance (xva_cons ha (xva_cons hb xva_nil he2) he) (fun H0 G H vs l ii Q q => by
    obtain ⟨v, w, rfl, i1, i2⟩ := isl2 ii
    have dc : Da X.K G w c := i2.da (by cases c <;> first | rfl | cases e)
    exact ⟨v, w, _, _, _, rfl, clsV_of dc e, tyX_of T l i1 o, kit_at T.kit (tyD_mem o) hu, q G H _ _ (Tr.refl l) (Is.of (.bl _)) rfl⟩) (by decide +kernel) hg (by decide) (by decide) he hpl
theorem xv_isi2 {d c1 c2 : D} {u1 u2 : DTy} (T : Tx X.prog X.K X.mg) (ha : XV X a ρ d) (hb : XV X b ρ (.tup [c1, c2])) (o : okD d = true) (e1 : clsD c1 = some u1) (e2 : clsD c2 = some u2) (hu1 : u1 ∈ usL := by decide) (hu2 : u2 ∈ usL := by decide) (hg : Gl X "isinstance" := by rfl) (he : starEach [a, b] X.env = (false, eval a X.env) :: starEach [b] X.env := by rfl)
    (he2 : starEach [b] X.env = (false, eval b X.env) :: starEach [] X.env := by rfl) (hpl : (backTo pos (starEach [b] X.env)).any (·.1) = false := by rfl) : XV X (.Call (.Name "isinstance" p) [a, b] [] pos) ρ (.bl (kitR (tyD d) u1 || kitR (tyD d) u2)) :=
  xe_blt call_isiT T.b_isinstance (xva_cons ha (xva_cons hb xva_nil he2) he) (fun H0 G H vs l ii Q q => by
    obtain ⟨v, w, rfl, i1, i2⟩ := isl2 ii
    cases i2 with
    | @tup p vs _ x1 x2 x3 =>
      obtain ⟨va, vs1, rfl, da, hr⟩ := DaL.cases_cons ⟨x2, x3⟩
      obtain ⟨vb, vs2, rfl, db, hr⟩ := hr.cases_cons
      obtain rfl := hr.cases_nil
      refine ⟨v, p, _, _, [u1.v X.K, u2.v X.K], kitR (tyD d) u1 || kitR (tyD d) u2, rfl, l.at_ _ _ x1 pot_tup, .cons (clsV_of da e1) (.cons (clsV_of db e2) .nil), tyX_of T l i1 o, ?_, q G H _ _ (Tr.refl l) (Is.of (.bl _)) rfl⟩
      refine kitAny_cons (kit_at T.kit (tyD_mem o) hu1) (fun z => kitAny_cons (kit_at T.kit (tyD_mem o) hu2) (fun z2 => ?_) fun z2 => ?_) fun z => ?_
      · rw [z, z2]; exact kitAny_nil
      · rw [z2, Bool.or_true]
      · rw [z, Bool.true_or]) (by decide +kernel) hg (by decide) (by decide) he hpl
end
/-! ### defs made -/
section
variable {P : Program} {w : World} {K : PySem.W.Frag} {mg : Str → Option Value} {base : Heap} {x x' qual : Str} {params : Arguments} {body : List Stmt} {scope : Scope} {f : Addr} {fd : FuncData}
theorem mkFk {N ps : List Str} {k : Nat} {R : Rel} (F : FunD K x qual params body scope [] [] f fd) (S : FnScope N ps scope) (g : mg x' = some (.ref f)) (len : ∀ ds T, R ds T → ds.length = ps.length)
    (hb : ∀ (cdv : Value) (A : Around) (outer : List PySem.Env) (s : Shared) (H : Hp) (E : XK), Room k (A.deeper (envOfC qual scope s.heap.objs.size f cdv)) → ∀ ds T, R ds T → XSs (cxD P w K mg base N qual scope f cdv A outer s H E) body (startE N ds) { nx := fun _ => T .non, rt := fun d => T d ∧ noOl d = true })
    (bn : ∀ (kV doc pm : Value) (an : Option Addr) (cdv ct : Value) (us : List Value), us.length = ps.length → bindArgs (PySem.W.fnOf x qual params body scope .none kV doc pm an cdv ct) ⟨us, []⟩ = pure (ps.zip us)) : Fk P w K mg base x' (k + 1) R :=
  ⟨f, fd, ps, fn_R F S len hb, g, F.kp, F.bindsN bn⟩
/-- .. called by keywords alone, ks; g puts their values in the parameters' order -/
structure FkK (P : Program) (w : World) (K : PySem.W.Frag) (mg : Str → Option Value) (base : Heap) (x : Str) (k : Nat) (ks : List Str) (gV : List V → List V → List V) (R : Rel) : Prop where
  ex : ∃ (f : Addr) (fd : FuncData) (ps : List Str) (g : List Value → List Value → List Value), FnOk P w K mg base CX0 k f fd ps (spR K R) ∧ mg x = some (.ref f) ∧ PySem.W.keepIn K (.ref f) = true ∧ KBinds K fd ps ks g gV
theorem mkFk2 {N ps ks : List Str} {k : Nat} {R : Rel} (g : {α : Type} → List α → List α → List α) (F : FunD K x qual params body scope [] [] f fd) (S : FnScope N ps scope) (gm : mg x' = some (.ref f)) (len : ∀ ds T, R ds T → ds.length = ps.length)
    (hb : ∀ (cdv : Value) (A : Around) (outer : List PySem.Env) (s : Shared) (H : Hp) (E : XK), Room k (A.deeper (envOfC qual scope s.heap.objs.size f cdv)) → ∀ ds T, R ds T → XSs (cxD P w K mg base N qual scope f cdv A outer s H E) body (startE N ds) { nx := fun _ => T .non, rt := fun d => T d ∧ noOl d = true })
    (bn : ∀ (kV doc pm : Value) (an : Option Addr) (cdv ct : Value) (us : List Value), us.length = ps.length → bindArgs (PySem.W.fnOf x qual params body scope .none kV doc pm an cdv ct) ⟨us, []⟩ = pure (ps.zip us))
    (bk : ∀ (kV doc pm : Value) (an : Option Addr) (cdv ct : Value) (us ws : List Value), (g us ws).length = ps.length → bindArgs (PySem.W.fnOf x qual params body scope .none kV doc pm an cdv ct) ⟨us, ks.zip ws⟩ = pure (ps.zip (g us ws)))
    (rel : ∀ {vs : List V} {us : List Value} {zs : List V} {ws : List Value}, Vals vs us → Vals zs ws → Vals (g vs zs) (g us ws)) : Fk P w K mg base x' (k + 1) R ∧ FkK P w K mg base x' (k + 1) ks (fun a b => g a b) R := by
  have h := fn_R (P := P) (w := w) (mg := mg) (base := base) F S len hb
  refine ⟨⟨f, fd, ps, h, gm, F.kp, F.bindsN bn⟩, ⟨f, fd, ps, fun a b => g a b, h, gm, F.kp, ⟨fun s us ws _ hl => ?_, rel⟩⟩⟩
  obtain ⟨oc, od, dV, kV, doc, pm, an, cdv, ct, osl, rfl, lk, hcd, hD, hK⟩ := F.ex
  rcases hD with ⟨_, rfl⟩ | ⟨e, _⟩
  · exact .of_eq (bk kV doc pm an cdv ct us ws hl)
  · exact absurd rfl e
def swap2 {α : Type} : List α → List α → List α
  | [], [a, b] => [b, a]
  | _, _ => []
def one1 {α : Type} : List α → List α → List α
  | [], [a] => [a]
  | _, _ => []
theorem swap2_rel {vs : List V} {us : List Value} {zs : List V} {ws : List Value} (h : Vals vs us) (h' : Vals zs ws) : Vals (swap2 vs zs) (swap2 us ws) := by
  cases h with
  | cons _ _ => exact .nil
  | nil =>
    cases h' with
    | nil => exact .nil
    | cons a t =>
      cases t with
      | nil => exact .nil
      | cons b t =>
        cases t with
        | nil => exact .cons b (.cons a .nil)
        | cons _ _ => exact .nil
theorem one1_rel {vs : List V} {us : List Value} {zs : List V} {ws : List Value} (h : Vals vs us) (h' : Vals zs ws) : Vals (one1 vs zs) (one1 us ws) := by
  cases h with
  | cons _ _ => exact .nil
  | nil =>
    cases h' with
    | nil => exact .nil
    | cons a t =>
      cases t with
      | nil => exact .cons a .nil
      | cons _ _ => exact .nil
theorem mkMth {C : Addr} {N ps : List Str} {k : Nat} {R : Rel} (F : FunD K x qual params body scope [] [] f fd) (S : FnScope N ps scope) (c : Cls K C) (m : Meth K C x' f) (len : ∀ ds T, R ds T → ds.length = ps.length)
    (hb : ∀ (cdv : Value) (A : Around) (outer : List PySem.Env) (s : Shared) (H : Hp) (E : XK), Room k (A.deeper (envOfC qual scope s.heap.objs.size f cdv)) → ∀ ds T, R ds T → XSs (cxD P w K mg base N qual scope f cdv A outer s H E) body (startE N ds) { nx := fun _ => T .non, rt := fun d => T d ∧ noOl d = true })
    (bn : ∀ (kV doc pm : Value) (an : Option Addr) (cdv ct : Value) (us : List Value), us.length = ps.length → bindArgs (PySem.W.fnOf x qual params body scope .none kV doc pm an cdv ct) ⟨us, []⟩ = pure (ps.zip us)) : Mth P w K mg base C x' (k + 1) R :=
  ⟨f, fd, ps, fn_R F S len hb, c, m, F.bindsN bn⟩
theorem mkPrp {C p : Addr} {N ps : List Str} {k : Nat} {R : Rel} (F : FunD K x qual params body scope [] [] f fd) (S : FnScope N ps scope) (c : Cls K C) (m : PropOf K C x' p f) (len : ∀ ds T, R ds T → ds.length = ps.length)
    (hb : ∀ (cdv : Value) (A : Around) (outer : List PySem.Env) (s : Shared) (H : Hp) (E : XK), Room k (A.deeper (envOfC qual scope s.heap.objs.size f cdv)) → ∀ ds T, R ds T → XSs (cxD P w K mg base N qual scope f cdv A outer s H E) body (startE N ds) { nx := fun _ => T .non, rt := fun d => T d ∧ noOl d = true })
    (bn : ∀ (kV doc pm : Value) (an : Option Addr) (cdv ct : Value) (us : List Value), us.length = ps.length → bindArgs (PySem.W.fnOf x qual params body scope .none kV doc pm an cdv ct) ⟨us, []⟩ = pure (ps.zip us)) : Prp P w K mg base C x' (k + 1) R :=
  ⟨p, f, fd, ps, fn_R F S len hb, c, m, F.bindsN bn⟩
theorem plain_cx {N : List Str} {cdv : Value} {A : Around} {outer : List PySem.Env} {s : Shared} {H : Hp} {E : XK} (S : scope.isGenerator = false ∧ scope.isCoroutine = false) : Plain (cxD P w K mg base N qual scope f cdv A outer s H E) := ⟨_, _, rfl, S.1, S.2, rfl, rfl⟩
end
end NL

/-! text DL9 -/
set_option Elab.async false
set_option linter.all false
set_option maxRecDepth 100000
set_option maxHeartbeats 4000000
/-! The D-layer: short words for statements. -/
namespace NL
open PySem PySem.Spec L2
theorem putF_le (f : Str) (v : V) : ∀ fs : List (Str × V), (putF f v fs).length ≤ fs.length + 1
  | [] => Nat.le_refl _
  | p :: r => by
    unfold putF
    split
    · simp
    · have := putF_le f v r
      simp; omega
theorem fl1 (a : Str) (x : V) : (putF a x []).length < 1000 := Nat.lt_of_le_of_lt (putF_le _ _ _) (by decide)
theorem fl2 (a b : Str) (x y : V) : (putF b y (putF a x [])).length < 1000 := by
  have h1 := putF_le b y (putF a x [])
  have h2 := putF_le a x []
  simp at h2
  omega
section
variable {X : Cx} {ρ : Env} {Φ : Out} {pos : Pos} {rest : List Stmt}
theorem xss_set (i : Nat) {x : Str} {e : Expr} {pos' : Pos} {d : D} (hN : X.N.Nodup) (h : XV X e ρ d) (hr : XSs X rest (ρ.set i (some d)) Φ) (n : noOl d = true := by rfl) (hi : X.N[i]? = some x := by rfl) (hx : Loc X.env.scope x := by first | exact Or.inl rfl | exact Or.inr rfl)
    (hs : swapsWithSole [.Name x pos'] e pos.line X.env = pure false := by rfl) (hw : swappedStores [.Name x pos'] e X.env = pure none := by rfl)
    (hf : X.fn x = true ∨ X.env.scope.names.lookup x = some .local := by first | exact .inl rfl | exact .inr rfl | assumption) : XSs X (.Assign [.Name x pos'] e pos :: rest) ρ Φ :=
  xss_seq (xs_set i h (fun _ s => by subst s; exact ⟨n, rfl⟩) hN hi hx hs hw hf) hr
theorem xss_setF (i : Nat) {x : Str} {e : Expr} {pos' : Pos} {ds : List D} (hN : X.N.Nodup) (h : XF X e ρ (fun z => z = ds)) (hr : XSs X rest (ρ.set i (some (.ol ds))) Φ) (hi : X.N[i]? = some x := by rfl) (hx : Loc X.env.scope x := by first | exact Or.inl rfl | exact Or.inr rfl)
    (hs : swapsWithSole [.Name x pos'] e pos.line X.env = pure false := by rfl) (hw : swappedStores [.Name x pos'] e X.env = pure none := by rfl)
    (hf : X.fn x = true ∨ X.env.scope.names.lookup x = some .local := by first | exact .inl rfl | exact .inr rfl | assumption) : XSs X (.Assign [.Name x pos'] e pos :: rest) ρ Φ :=
  xss_seq (xs_setF i h (fun _ s => by subst s; rfl) hN hi hx hs hw hf) hr
theorem xv_of_xf {e : Expr} {ds : List D} (h : XF X e ρ (fun z => z = ds)) : XV X e ρ (.lst ds) := xe_of_xf h fun _ s => by rw [s]
/-- a test that is not met -/
theorem xss_no {c : Expr} {a : List Stmt} (hc : XT X c ρ (fun z => z = false)) (hr : XSs X rest ρ Φ) : XSs X (.If c a [] pos :: rest) ρ Φ :=
  xss_seq (xs_if hc (fun z => nomatch z) fun _ => xss_nil rfl) hr
/-- a test that ends the def -/
theorem xss_yes {c : Expr} {a b : List Stmt} (hc : XT X c ρ (fun z => z = true)) (hr : XSs X a ρ { Φ with nx := fun _ => False }) : XSs X (.If c a b pos :: rest) ρ Φ :=
  xss_cons (M := fun _ => False) (xs_if hc (fun _ => hr) fun z => nomatch z) fun _ z => z.elim
theorem xt_to {e : Expr} {b c : Bool} (h : XT X e ρ (fun z => z = b)) (w : b = c) : XT X e ρ (fun z => z = c) := w ▸ h
theorem xss_fld (i : Nat) {x : Str} {e : Expr} {f : Str} {px apos : Pos} {p C : Addr} {fs : List (Str × V)} {n : Int} (he : XV X e ρ (.int n)) (hc : Cls X.K C) (hna : NoAttr X.K C f) (hr : XSs X rest (ρ.set i (some (.ob p C (putF f (.int n) fs)))) Φ) (hi : ρ[i]? = some (some (.ob p C fs)) := by rfl) (hlen : fs.length < 1000 := by first | decide | exact fl1 _ _ | exact fl2 _ _ _ _)
    (hx : PE X (Expr.Name x px) (tVar i) := by exact pv _) (hs : swapsWith e (some (.Attribute (.Name x px) f apos)) pos.line X.env = pure false := by rfl) : XSs X (.Assign [.Attribute (.Name x px) f apos] e pos :: rest) ρ Φ :=
  xss_seq (xs_fld i hi he hc hna hlen rfl hx hs) hr
theorem xss_asgG {tg e : Expr} {τ : D → Env → Env → Prop} {L : List Nat} {d : D} {ρ' : Env} (h : XV X e ρ d) (hg : XG X tg τ L) (hτ : τ d ρ ρ') (hr : XSs X rest ρ' Φ) (n : noOl d = true := by rfl)
    (hs : swapsWithSole [tg] e pos.line X.env = pure false := by rfl) (hw : swappedStores [tg] e X.env = pure none := by rfl) (h1 : (assignEach [tg] X.env).map (·.2) = [assign tg X.env] := by rfl) : XSs X (.Assign [tg] e pos :: rest) ρ Φ :=
  xss_seq (xs_asgG h hg (fun _ s => by subst s; exact ⟨n, ρ', hτ, rfl⟩) hs hw h1) hr
/-- x, y = a, b -/
theorem xss_par (i j : Nat) {x y : Str} {a b : Expr} {px py pt : Pos} {kt k2 pt2} {d e : D} (hN : X.N.Nodup) (ha : XV X a ρ d) (hb : XV X b ρ e) (hr : XSs X rest ((ρ.set i (some d)).set j (some e)) Φ) (n1 : noOl d = true := by rfl) (n2 : noOl e = true := by rfl) (hc : X.calm = true := by rfl)
    (hi : X.N[i]? = some x := by rfl) (hj : X.N[j]? = some y := by rfl) (hij : i ≠ j := by decide) (hx : X.env.scope.names.lookup x = some .local := by rfl) (hy : X.env.scope.names.lookup y = some .local := by rfl)
    (he : starEach [a, b] X.env = (false, eval a X.env) :: starEach [b] X.env := by rfl) (he2 : starEach [b] X.env = (false, eval b X.env) :: starEach [] X.env := by rfl)
    (hw : swappedStores [.Tuple [.Name x px, .Name y py] kt pt] (.Tuple [a, b] k2 pt2) X.env = pure (some [x, y]) := by rfl) (hs : swapsWithSole [.Tuple [.Name x px, .Name y py] kt pt] (.Tuple [a, b] k2 pt2) pos.line X.env = pure false := by rfl) :
    XSs X (.Assign [.Tuple [.Name x px, .Name y py] kt pt] (.Tuple [a, b] k2 pt2) pos :: rest) ρ Φ :=
  xss_seq (ps_imp (ps_par hc hN hi hj hij hx hy (xva_cons ha (xva_cons hb xva_nil he2) he) hw hs) fun Dn σ H ⟨G0, H0, G, t, sl, k1, _⟩ => ⟨G, H0, t.ok, sl, fun G' H' vs ds t' ii s => by
    subst s
    obtain ⟨v, u, rfl, i1, i2⟩ := isl2 ii
    exact ⟨v, u, rfl, k1 G' H' _ _ (t.trans t') (((sl.mono t').set (i1.da n1)).set (i2.da n2)) rfl⟩⟩) hr
end
end NL

/-! text P1 -/
set_option Elab.async false
set_option linter.all false
set_option maxRecDepth 100000
set_option maxHeartbeats 4000000
/-! basics, ratios, twins: the defs. -/
namespace NL
open PySem PySem.Spec L2
open PyProof.Rows (envOfC)
variable {P : Program} {w : World} {K : PySem.W.Frag} {mg : Str → Option Value} {base : Heap}
def isInt : D → Bool
  | .int _ => true
  | _ => false
def R_is_integer : Rel := fun ds T => ∃ d, ds = [d] ∧ okD d = true ∧ T = fun z => z = .bl (isInt d)
theorem isInt_kit {d : D} (o : okD d = true) : (kitR (tyD d) (.b "int") && !kitR (tyD d) (.b "bool")) = isInt d := by
  cases d <;> first | (simp [okD] at o; done) | rfl
theorem ok_is_integer (T : Tx P K mg) : Fk P w K mg base "is_integer" 1 R_is_integer := by
  obtain ⟨fd, F⟩ := T.F_is_integer
  refine mkFk F sc_is_integer T.g_is_integer ?_ ?_ (fun _ _ _ _ _ _ us hl => match us, hl with | [_], _ => rfl)
  · rintro ds S ⟨d, rfl, _⟩; rfl
  · rintro cdv A outer s H E hr ds S ⟨d, rfl, hd, rfl⟩
    exact xss_one (xs_retv (xv_to (xe_and (xv_isi T (xv_var 0) (xv_ty T.b_int) hd rfl) fun _ => xe_one (xe_not (xv_isi T (xv_var 0) (xv_ty T.b_bool) hd rfl))) (congrArg D.bl (isInt_kit hd))) ⟨rfl, rfl⟩)

def isCnt : D → Bool
  | .int i => decide (0 ≤ i)
  | _ => false
def R_is_count : Rel := fun ds T => ∃ d, ds = [d] ∧ okD d = true ∧ T = fun z => z = .bl (isCnt d)
theorem ok_is_count (T : Tx P K mg) : Fk P w K mg base "is_count" 2 R_is_count := by
  obtain ⟨fd, F⟩ := T.F_is_count
  refine mkFk F sc_is_count T.g_is_count ?_ ?_ (fun _ _ _ _ _ _ us hl => match us, hl with | [_], _ => rfl)
  · rintro ds S ⟨d, rfl, _⟩; rfl
  · rintro cdv A outer s H E hr ds S ⟨d, rfl, hd, rfl⟩
    cases hi : isInt d with
    | false =>
      have e : isCnt d = false := by cases d <;> first | rfl | cases hi
      rw [e]
      exact xss_one (xs_retv (xv_to (xe_and (d := false) (xv_to (xv_call (ok_is_integer T) hr (xva_cons (xv_var 0) xva_nil) ⟨d, rfl, hd, rfl⟩ (by cases d <;> first | rfl | (simp [okD] at hd; done))) (congrArg D.bl hi)) (fun z => nomatch z)) rfl) ⟨rfl, rfl⟩)
    | true =>
      obtain ⟨i, rfl⟩ : ∃ i, d = .int i := by cases d <;> first | exact ⟨_, rfl⟩ | cases hi
      exact xss_one (xs_retv (xv_to (xe_and (xv_call (ok_is_integer T) hr (xva_cons (xv_var 0) xva_nil) ⟨_, rfl, hd, rfl⟩) fun _ => xe_one (xv_ge (xv_var 0) xv_int)) rfl) ⟨rfl, rfl⟩)
def isLst : D → Bool
  | .lst _ => true
  | .tup _ => true
  | _ => false
def R_is_list : Rel := fun ds T => ∃ d, ds = [d] ∧ okD d = true ∧ T = fun z => z = .bl (isLst d)
theorem isLst_kit {d : D} (o : okD d = true) : (kitR (tyD d) (.b "list") || kitR (tyD d) (.b "tuple")) = isLst d := by
  cases d <;> first | (simp [okD] at o; done) | rfl
theorem ok_is_list (T : Tx P K mg) : Fk P w K mg base "is_list" 1 R_is_list := by
  obtain ⟨fd, F⟩ := T.F_is_list
  refine mkFk F sc_is_list T.g_is_list ?_ ?_ (fun _ _ _ _ _ _ us hl => match us, hl with | [_], _ => rfl)
  · rintro ds S ⟨d, rfl, _⟩; rfl
  · rintro cdv A outer s H E hr ds S ⟨d, rfl, hd, rfl⟩
    exact xss_one (xs_retv (xv_to (xv_isi2 T (xv_var 0) (xv_tup (xva_cons (xv_ty T.b_list) (xva_cons (xv_ty T.b_tuple) xva_nil))) hd rfl rfl) (congrArg D.bl (isLst_kit hd))) ⟨rfl, rfl⟩)
/-- want_many, want_at_most: nothing is raised -/
def R_want_many : Rel := fun ds T => ∃ i : Int, ds = [.int i] ∧ 0 ≤ i ∧ T = fun z => z = .non
theorem ok_want_many (T : Tx P K mg) : Fk P w K mg base "want_many" 3 R_want_many := by
  obtain ⟨fd, F⟩ := T.F_want_many
  refine mkFk F sc_want_many T.g_want_many ?_ ?_ (fun _ _ _ _ _ _ us hl => match us, hl with | [_], _ => rfl)
  · rintro ds S ⟨d, rfl, _⟩; rfl
  · rintro cdv A outer s H E hr ds S ⟨i, rfl, hd, rfl⟩
    refine xss_one (xs_if (xt_not (xt_val (xv_call (ok_is_count T) hr (xva_cons (xv_var 0) xva_nil) ⟨_, rfl, rfl, rfl⟩))) (fun z => ?_) fun _ => xss_nil rfl)
    have : isCnt (.int i) = true := decide_eq_true hd
    rw [this] at z; cases z
def R_want_at_most : Rel := fun ds T => ∃ (x : Str) (i j : Int), ds = [.str x, .int i, .int j] ∧ j ≤ i ∧ T = fun z => z = .non
theorem ok_want_at_most (T : Tx P K mg) : Fk P w K mg base "want_at_most" 1 R_want_at_most := by
  obtain ⟨fd, F⟩ := T.F_want_at_most
  refine mkFk F sc_want_at_most T.g_want_at_most ?_ ?_ (fun _ _ _ _ _ _ us hl => match us, hl with | [_, _, _], _ => rfl)
  · rintro ds S ⟨x, i, j, rfl, _⟩; rfl
  · rintro cdv A outer s H E hr ds S ⟨x, i, j, rfl, hd, rfl⟩
    refine xss_one (xs_if (xt_gt (xv_var 2) (xv_var 1)) (fun z => ?_) fun _ => xss_nil rfl)
    have := of_decide_eq_true z
    omega
def R_common_part : Rel := fun ds T => ∃ i j : Int, ds = [.int i, .int j] ∧ T = fun z => z = .int ((Nat.gcd i.natAbs j.natAbs : Nat) : Int)
theorem ok_common_part (T : Tx P K mg) : Fk P w K mg base "common_part" 1 R_common_part := by
  obtain ⟨fd, F⟩ := T.F_common_part
  refine mkFk F sc_common_part T.g_common_part ?_ ?_ (fun _ _ _ _ _ _ us hl => match us, hl with | [_, _], _ => rfl)
  · rintro ds S ⟨i, j, rfl, _⟩; rfl
  · rintro cdv A outer s H E hr ds S ⟨i, j, rfl, rfl⟩
    exact xss_one (xs_retv (xv_gcd T.gcd (xv_var 0) (xv_var 1)) ⟨rfl, rfl⟩)
end NL

/-! text P2 -/
set_option Elab.async false
set_option linter.all false
set_option maxRecDepth 100000
set_option maxHeartbeats 4000000
/-! Ratio, Parts, Twin: made. -/
namespace NL
open PySem PySem.Spec L2
open PyProof.Rows (envOfC)
variable {P : Program} {w : World} {K : PySem.W.Frag} {mg : Str → Option Value} {base : Heap}

/-! ### making -/
theorem mkMkr {C f : Addr} {x qual xq : Str} {params : Arguments} {body : List Stmt} {scope : Scope} {fd : FuncData} {N ps : List Str} {k : Nat} {R : Rel} (F : FunD K x qual params body scope [] [] f fd) (S : FnScope N ps scope) (M : Mk K C f) (g : mg xq = some (.ref C)) (len : ∀ ds T, R ds T → ds.length + 1 = ps.length)
    (hb : ∀ (cdv : Value) (A : Around) (outer : List PySem.Env) (s : Shared) (H : Hp) (E : XK), Room k (A.deeper (envOfC qual scope s.heap.objs.size f cdv)) → ∀ p ds T, R ds T →
      XSs (cxD P w K mg base N qual scope f cdv A outer s H E) body (startE N (.ob p C [] :: ds)) { nx := fun ρ => ∃ fs, ρ[0]? = some (some (.ob p C fs)) ∧ ∀ (G : Hp) dx, G p = some (.ins C dx fs) → ∃ d, Da K G (.ref p) d ∧ T d, rt := fun _ => False })
    (bn : ∀ (kV doc pm : Value) (an : Option Addr) (cdv ct : Value) (us : List Value), us.length = ps.length → bindArgs (PySem.W.fnOf x qual params body scope .none kV doc pm an cdv ct) ⟨us, []⟩ = pure (ps.zip us)) : Mkr P w K mg base xq (k + 1) [] R :=
  ⟨C, f, fd, ps, [], [], M, fn_I F S len hb, g, F.bindsN bn, .nil, fun G => DaL.nil⟩
/-- with one default, an int: n values are written -/
theorem mkMkr1 {C f : Addr} {x qual xq : Str} {params : Arguments} {body : List Stmt} {scope : Scope} {fd : FuncData} {N ps : List Str} {k n : Nat} {R : Rel} {z : Int} (F : FunD K x qual params body scope [.int z] [] f fd) (S : FnScope N ps scope) (M : Mk K C f) (g : mg xq = some (.ref C)) (len : ∀ ds T, R ds T → ds.length + 1 = ps.length)
    (hb : ∀ (cdv : Value) (A : Around) (outer : List PySem.Env) (s : Shared) (H : Hp) (E : XK), Room k (A.deeper (envOfC qual scope s.heap.objs.size f cdv)) → ∀ p ds T, R ds T →
      XSs (cxD P w K mg base N qual scope f cdv A outer s H E) body (startE N (.ob p C [] :: ds)) { nx := fun ρ => ∃ fs, ρ[0]? = some (some (.ob p C fs)) ∧ ∀ (G : Hp) dx, G p = some (.ins C dx fs) → ∃ d, Da K G (.ref p) d ∧ T d, rt := fun _ => False })
    (hn : n + 1 = ps.length) (bn : ∀ (T : Addr) (kV doc pm : Value) (an : Option Addr) (cdv ct : Value) (us its : List Value), us.length = n → its.length = 1 →
      ∃ k, bindArgs (PySem.W.fnOf x qual params body scope (.ref T) kV doc pm an cdv ct) ⟨us, []⟩ = seqItems? (.ref T) >>= k ∧ k (some its.toArray) = pure (ps.zip (us ++ its.drop 0))) : Mkr P w K mg base xq (k + 1) [.int z] R := by
  obtain ⟨ds, hv, hb2⟩ := F.binds1 n 0 (List.cons_ne_nil _ _) hn bn
  exact ⟨C, f, fd, ps, ds, _, M, fn_I F S len hb, g, hb2, hv, fun G => DaL.cons (.int _) DaL.nil⟩
/-- with one default, all values written -/
theorem mkMkr2 {C f : Addr} {x qual xq : Str} {params : Arguments} {body : List Stmt} {scope : Scope} {fd : FuncData} {N ps : List Str} {k n : Nat} {R : Rel} {z : Int} (F : FunD K x qual params body scope [.int z] [] f fd) (S : FnScope N ps scope) (M : Mk K C f) (g : mg xq = some (.ref C)) (len : ∀ ds T, R ds T → ds.length + 1 = ps.length)
    (hb : ∀ (cdv : Value) (A : Around) (outer : List PySem.Env) (s : Shared) (H : Hp) (E : XK), Room k (A.deeper (envOfC qual scope s.heap.objs.size f cdv)) → ∀ p ds T, R ds T →
      XSs (cxD P w K mg base N qual scope f cdv A outer s H E) body (startE N (.ob p C [] :: ds)) { nx := fun ρ => ∃ fs, ρ[0]? = some (some (.ob p C fs)) ∧ ∀ (G : Hp) dx, G p = some (.ins C dx fs) → ∃ d, Da K G (.ref p) d ∧ T d, rt := fun _ => False })
    (hn : n = ps.length) (bn : ∀ (T : Addr) (kV doc pm : Value) (an : Option Addr) (cdv ct : Value) (us its : List Value), us.length = n → its.length = 1 →
      ∃ k, bindArgs (PySem.W.fnOf x qual params body scope (.ref T) kV doc pm an cdv ct) ⟨us, []⟩ = seqItems? (.ref T) >>= k ∧ k (some its.toArray) = pure (ps.zip (us ++ its.drop 1))) : Mkr P w K mg base xq (k + 1) [] R := by
  obtain ⟨ds, hv, hb2⟩ := F.binds1 n 1 (List.cons_ne_nil _ _) (by rw [hn]; rfl) bn
  exact ⟨C, f, fd, ps, ds, _, M, fn_I F S len hb, g, hb2, hv, fun G => DaL.nil⟩

/-! ### Ratio -/
def R_Ratio : Rel := fun ds T => ∃ (t b : Int) (q : Rat), ds = [.int t, .int b] ∧ rep t 0 b ⟨q, 0⟩ ∧ T = fun z => z = .rat q
theorem ratio_body (T : Tx P K mg) (f : Addr) (cdv : Value) (A : Around) (outer : List PySem.Env) (s : Shared) (H : Hp) (E : XK) (hr : Room 33 (A.deeper (envOfC "Ratio.__init__" (defScope s_Ratio_init) s.heap.objs.size f cdv))) (p : Addr) (ds : List D) (S : D → Prop) (hR : R_Ratio ds S) :
    XSs (cxD P w K mg base n_Ratio_init "Ratio.__init__" (defScope s_Ratio_init) f cdv A outer s H E) (defBody s_Ratio_init) (startE n_Ratio_init (.ob p (He.ga K "Ratio") [] :: ds)) { nx := fun ρ => ∃ fs, ρ[0]? = some (some (.ob p (He.ga K "Ratio") fs)) ∧ ∀ (G : Hp) dx, G p = some (.ins (He.ga K "Ratio") dx fs) → ∃ d, Da K G (.ref p) d ∧ S d, rt := fun _ => False } := by
  obtain ⟨t, b, q, rfl, hq, rfl⟩ := hR
  have hb := hq.1
  obtain ⟨g0, hn⟩ := hq.norm (g := ((Nat.gcd t.natAbs b.natAbs : Nat) : Int)) (by rw [show (0 : Int).natAbs = 0 from rfl, Nat.gcd_zero_right])
  rw [Int.zero_ediv] at hn
  have pl := plain_cx (P := P) (w := w) (K := K) (mg := mg) (base := base) (N := n_Ratio_init) (qual := "Ratio.__init__") (scope := defScope s_Ratio_init) (f := f) (cdv := cdv) (A := A) (outer := outer) (s := s) (H := H) (E := E) ⟨rfl, rfl⟩
  have hi : ∀ i : Int, R_is_integer [.int i] (fun z => z = .bl true) := fun i => ⟨_, rfl, rfl, rfl⟩
  refine xss_no (xt_not (xt_val (xv_call (ok_is_integer T) (hr.mono (by decide)) (xva_cons (xv_var 1) xva_nil) (hi t)))) ?_
  refine xss_no (xt_to (xt_or (xt_not (xt_val (xv_call (ok_is_integer T) (hr.mono (by decide)) (xva_cons (xv_var 2) xva_nil) (hi b)))) fun _ => pw_or1 (xt_to (xt_eq (xv_var 2) xv_int) (decide_eq_false (by omega)))).pt rfl) ?_
  refine xss_set 3 sc_Ratio_init.nd (xv_call (ok_common_part T) (hr.mono (by decide)) (xva_cons (xv_var 1) (xva_cons (xv_var 2) xva_nil)) ⟨t, b, rfl, rfl⟩) ?_
  refine xss_no (xt_to (xt_lt (xv_var 2) xv_int) (decide_eq_false (by omega))) ?_
  refine xss_fld 0 (xv_fdivL (xv_var 1) (xv_var 3) g0 T.seer T.tree hr pl) T.cl_Ratio T.na_Ratio_own_top ?_
  refine xss_fld 0 (xv_fdivL (xv_var 2) (xv_var 3) g0 T.seer T.tree hr pl) T.cl_Ratio T.na_Ratio_own_bottom (xss_nil ?_)
  exact ⟨_, rfl, fun G dx e => ⟨_, .rat e hn, rfl⟩⟩
theorem ok_Ratio2 (T : Tx P K mg) : Mkr P w K mg base "Ratio" 34 [] R_Ratio := by
  obtain ⟨fd, F⟩ := T.F_Ratio_init
  refine mkMkr2 F sc_Ratio_init T.mk_Ratio T.g_Ratio ?_ (fun cdv A outer s H E hr p ds S hR => ratio_body T _ cdv A outer s H E hr p ds S hR) rfl ?_
  · rintro ds S ⟨t, b, q, rfl, _⟩; rfl
  · intro T kV doc pm an cdv ct us its h1 h2
    match us, its, h1, h2 with
    | [a, b, c], [d], _, _ => exact ⟨_, rfl, rfl⟩

/-! ### told_pair, Parts, handed_parts, Twin -/
def R_told_pair : Rel := fun ds T => (∃ (q : Rat) (t b : Int), ds = [.rat q] ∧ nrm t 0 b ⟨q, 0⟩ ∧ T = fun z => z = .tup [.int t, .int b]) ∨ ∃ i : Int, ds = [.int i] ∧ T = fun z => z = .tup [.int i, .int 1]
theorem ok_told_pair (T : Tx P K mg) : Fk P w K mg base "told_pair" 2 R_told_pair := by
  obtain ⟨fd, F⟩ := T.F_told_pair
  refine mkFk F sc_told_pair T.g_told_pair ?_ ?_ (fun _ _ _ _ _ _ us hl => match us, hl with | [_], _ => rfl)
  · rintro ds S (⟨q, t, b, rfl, _⟩ | ⟨i, rfl, _⟩) <;> rfl
  · rintro cdv A outer s H E hr ds S (⟨q, t, b, rfl, hq, rfl⟩ | ⟨i, rfl, rfl⟩)
    · refine xss_yes (xt_to (xt_val (xv_isi T (xv_var 0) (xv_cls T.g_Ratio) rfl rfl)) rfl) (xss_one (xs_retv (xv_tup (xva_cons (xv_rat (xv_var 0) hq T.cl_Ratio T.na_Ratio_own_top (fRat_top _ _)) (xva_cons (xv_rat (xv_var 0) hq T.cl_Ratio T.na_Ratio_own_bottom (fRat_bottom _ _)) xva_nil))) ⟨rfl, rfl⟩))
    · refine xss_no (xt_to (xt_val (xv_isi T (xv_var 0) (xv_cls T.g_Ratio) rfl rfl)) rfl) ?_
      refine xss_no (xt_to (xt_not (xt_val (xv_call (ok_is_integer T) hr (xva_cons (xv_var 0) xva_nil) ⟨_, rfl, rfl, rfl⟩))) rfl) ?_
      exact xss_one (xs_retv (xv_tup (xva_cons (xv_var 0) (xva_cons xv_int xva_nil))) ⟨rfl, rfl⟩)
def R_Parts : Rel := fun ds T => ∃ l r w : Int, ds = [.int l, .int r, .int w] ∧ T = fun z => z = .parts l r w
theorem ok_Parts (T : Tx P K mg) : Mkr P w K mg base "Parts" 1 [] R_Parts := by
  obtain ⟨fd, F⟩ := T.F_Parts_init
  refine mkMkr F sc_Parts_init T.mk_Parts T.g_Parts ?_ ?_ (fun _ _ _ _ _ _ us hl => match us, hl with | [_, _, _, _], _ => rfl)
  · rintro ds S ⟨l, r, w, rfl, _⟩; rfl
  · rintro cdv A outer s H E hr p ds S ⟨l, r, w, rfl, rfl⟩
    refine xss_fld 0 (xv_var 1) T.cl_Parts T.na_Parts_own_left ?_
    refine xss_fld 0 (xv_var 2) T.cl_Parts T.na_Parts_own_right ?_
    refine xss_fld 0 (xv_var 3) T.cl_Parts T.na_Parts_own_below (xss_nil ?_)
    exact ⟨_, rfl, fun G dx e => ⟨_, .parts e, rfl⟩⟩
/-- what a Twin is made of -/
def Hand (ds : List D) (l r w : Int) : Prop := (∃ d, ds = [.parts l r w, d] ∧ okD d = true) ∨ (∃ i j : Int, ds = [.int i, .int j] ∧ i.natAbs < 2 ^ 60 ∧ j.natAbs < 2 ^ 60 ∧ l = i * 1 ∧ r = j * 1 ∧ w = 1 * 1) ∨
  ∃ (q1 q2 : Rat) (t1 b1 t2 b2 : Int) (n : Nat), ds = [.rat q1, .rat q2] ∧ nrm t1 0 b1 ⟨q1, 0⟩ ∧ nrm t2 0 b2 ⟨q2, 0⟩ ∧ t1.natAbs < 2 ^ n ∧ b1.natAbs < 2 ^ n ∧ t2.natAbs < 2 ^ n ∧ b2.natAbs < 2 ^ n ∧ 0 < n ∧ n ≤ 1000 ∧ l = t1 * b2 ∧ r = t2 * b1 ∧ w = b1 * b2
def R_handed : Rel := fun ds T => ∃ l r w : Int, Hand ds l r w ∧ T = fun z => z = .tup [.int l, .int r, .int w]
theorem Hand.len {ds : List D} {l r w : Int} (h : Hand ds l r w) : ds.length = 2 := by
  rcases h with ⟨d, rfl, _⟩ | ⟨i, j, rfl, _⟩ | ⟨q1, q2, t1, b1, t2, b2, n, rfl, _⟩ <;> rfl
theorem ok_handed_parts (T : Tx P K mg) : Fk P w K mg base "handed_parts" 3 R_handed := by
  obtain ⟨fd, F⟩ := T.F_handed_parts
  refine mkFk F sc_handed_parts T.g_handed_parts ?_ ?_ (fun _ _ _ _ _ _ us hl => match us, hl with | [_, _], _ => rfl)
  · rintro ds S ⟨l, r, w, h, _⟩; exact h.len
  · rintro cdv A outer s H E hr ds S ⟨l, r, w, h, rfl⟩
    rcases h with ⟨d, rfl, hd⟩ | ⟨i, j, rfl, hi, hj, rfl, rfl, rfl⟩ | ⟨q1, q2, t1, b1, t2, b2, n, rfl, h1, h2, x1, x2, x3, x4, n0, n1, rfl, rfl, rfl⟩
    · refine xss_yes (xt_to (xt_val (xv_isi T (xv_var 0) (xv_cls T.g_Parts) rfl rfl)) rfl) (xss_one (xs_retv (xv_tup (xva_cons (xv_par (xv_var 0) T.cl_Parts T.na_Parts_own_left (fPar_left _ _ _)) (xva_cons (xv_par (xv_var 0) T.cl_Parts T.na_Parts_own_right (fPar_right _ _ _)) (xva_cons (xv_par (xv_var 0) T.cl_Parts T.na_Parts_own_below (fPar_below _ _ _)) xva_nil)))) ⟨rfl, rfl⟩))
    · refine xss_no (xt_to (xt_val (xv_isi T (xv_var 0) (xv_cls T.g_Parts) rfl rfl)) rfl) ?_
      refine xss_asgG (L := [2, 3]) (xv_call (ok_told_pair T) hr (xva_cons (xv_var 0) xva_nil) (.inr ⟨i, rfl, rfl⟩)) (xg_pair 2 3 rfl sc_handed_parts.nd) ⟨_, _, rfl, rfl⟩ ?_
      refine xss_asgG (L := [4, 5]) (xv_call (ok_told_pair T) hr (xva_cons (xv_var 1) xva_nil) (.inr ⟨j, rfl, rfl⟩)) (xg_pair 4 5 rfl sc_handed_parts.nd) ⟨_, _, rfl, rfl⟩ ?_
      have o : (1 : Int).natAbs < 2 ^ 60 := by decide
      exact xss_one (xs_retv (xv_tup (xva_cons (xv_mul (xv_var 2) (xv_var 5) (mul_ok hi o (by decide) (by decide) (by decide))) (xva_cons (xv_mul (xv_var 4) (xv_var 3) (mul_ok hj o (by decide) (by decide) (by decide))) (xva_cons (xv_mul (xv_var 3) (xv_var 5) (mul_ok o o (by decide) (by decide) (by decide))) xva_nil)))) ⟨rfl, rfl⟩)
    · refine xss_no (xt_to (xt_val (xv_isi T (xv_var 0) (xv_cls T.g_Parts) rfl rfl)) rfl) ?_
      refine xss_asgG (L := [2, 3]) (xv_call (ok_told_pair T) hr (xva_cons (xv_var 0) xva_nil) (.inl ⟨q1, t1, b1, rfl, h1, rfl⟩)) (xg_pair 2 3 rfl sc_handed_parts.nd) ⟨_, _, rfl, rfl⟩ ?_
      refine xss_asgG (L := [4, 5]) (xv_call (ok_told_pair T) hr (xva_cons (xv_var 1) xva_nil) (.inl ⟨q2, t2, b2, rfl, h2, rfl⟩)) (xg_pair 4 5 rfl sc_handed_parts.nd) ⟨_, _, rfl, rfl⟩ ?_
      exact xss_one (xs_retv (xv_tup (xva_cons (xv_mul (xv_var 2) (xv_var 5) (mul_ok x1 x4 n0 n0 (by omega))) (xva_cons (xv_mul (xv_var 4) (xv_var 3) (mul_ok x3 x2 n0 n0 (by omega))) (xva_cons (xv_mul (xv_var 3) (xv_var 5) (mul_ok x2 x4 n0 n0 (by omega))) xva_nil)))) ⟨rfl, rfl⟩)
def R_Twin : Rel := fun ds T => ∃ (l r w : Int) (v : GQ), Hand ds l r w ∧ rep l r w v ∧ T = fun z => z = .num v
theorem twin_body (T : Tx P K mg) (f : Addr) (cdv : Value) (A : Around) (outer : List PySem.Env) (s : Shared) (H : Hp) (E : XK) (hr : Room 33 (A.deeper (envOfC "Twin.__init__" (defScope s_Twin_init) s.heap.objs.size f cdv))) (p : Addr) (ds : List D) (S : D → Prop) (hR : R_Twin ds S) :
    XSs (cxD P w K mg base n_Twin_init "Twin.__init__" (defScope s_Twin_init) f cdv A outer s H E) (defBody s_Twin_init) (startE n_Twin_init (.ob p (He.ga K "Twin") [] :: ds)) { nx := fun ρ => ∃ fs, ρ[0]? = some (some (.ob p (He.ga K "Twin") fs)) ∧ ∀ (G : Hp) dx, G p = some (.ins (He.ga K "Twin") dx fs) → ∃ d, Da K G (.ref p) d ∧ S d, rt := fun _ => False } := by
  obtain ⟨l, r, w', v, hh, hv, rfl⟩ := hR
  have hl := hh.len
  obtain ⟨a, b, rfl⟩ : ∃ a b, ds = [a, b] := match ds, hl with | [a, b], _ => ⟨a, b, rfl⟩
  have nn : [a, b].all noOl = true := by
    rcases hh with ⟨d, e, o⟩ | ⟨i, j, e, _⟩ | ⟨q1, q2, t1, b1, t2, b2, n, e, _⟩
    · cases e; cases b <;> first | rfl | (simp [okD] at o; done)
    · cases e; rfl
    · cases e; rfl
  obtain ⟨g0, hn⟩ := hv.norm (g := ((Nat.gcd ((Nat.gcd l.natAbs w'.natAbs : Nat) : Int).natAbs r.natAbs : Nat) : Int)) rfl
  have pl := plain_cx (P := P) (w := w) (K := K) (mg := mg) (base := base) (N := n_Twin_init) (qual := "Twin.__init__") (scope := defScope s_Twin_init) (f := f) (cdv := cdv) (A := A) (outer := outer) (s := s) (H := H) (E := E) ⟨rfl, rfl⟩
  refine xss_asgG (L := [3, 4, 5]) (xv_call (ok_handed_parts T) (hr.mono (by decide)) (xva_cons (xv_var 1) (xva_cons (xv_var 2) xva_nil)) ⟨l, r, w', hh, rfl⟩ nn) (xg_trip 3 4 5 rfl sc_Twin_init.nd) ⟨_, _, _, rfl, rfl⟩ ?_
  refine xss_set 6 sc_Twin_init.nd (xv_call (ok_common_part T) (hr.mono (by decide)) (xva_cons (xv_call (ok_common_part T) (hr.mono (by decide)) (xva_cons (xv_var 3) (xva_cons (xv_var 5) xva_nil)) ⟨_, _, rfl, rfl⟩) (xva_cons (xv_var 4) xva_nil)) ⟨_, _, rfl, rfl⟩) ?_
  refine xss_fld 0 (xv_fdivL (xv_var 3) (xv_var 6) g0 T.seer T.tree hr pl) T.cl_Twin T.na_Twin_own_plain ?_
  refine xss_fld 0 (xv_fdivL (xv_var 4) (xv_var 6) g0 T.seer T.tree hr pl) T.cl_Twin T.na_Twin_own_side ?_
  refine xss_fld 0 (xv_fdivL (xv_var 5) (xv_var 6) g0 T.seer T.tree hr pl) T.cl_Twin T.na_Twin_own_low (xss_nil ?_)
  exact ⟨_, rfl, fun G dx e => ⟨_, .num e hn, rfl⟩⟩
theorem ok_Twin1 (T : Tx P K mg) : Mkr P w K mg base "Twin" 34 [.int 0] R_Twin := by
  obtain ⟨fd, F⟩ := T.F_Twin_init
  refine mkMkr1 (n := 2) F sc_Twin_init T.mk_Twin T.g_Twin ?_ (fun cdv A outer s H E hr p ds S hR => twin_body T _ cdv A outer s H E hr p ds S hR) rfl ?_
  · rintro ds S ⟨l, r, w, v, h, _⟩; rw [h.len]; rfl
  · intro T kV doc pm an cdv ct us its h1 h2
    match us, its, h1, h2 with
    | [a, b], [d], _, _ => exact ⟨_, rfl, rfl⟩
theorem ok_Twin2 (T : Tx P K mg) : Mkr P w K mg base "Twin" 34 [] R_Twin := by
  obtain ⟨fd, F⟩ := T.F_Twin_init
  refine mkMkr2 F sc_Twin_init T.mk_Twin T.g_Twin ?_ (fun cdv A outer s H E hr p ds S hR => twin_body T _ cdv A outer s H E hr p ds S hR) rfl ?_
  · rintro ds S ⟨l, r, w, v, h, _⟩; rw [h.len]; rfl
  · intro T kV doc pm an cdv ct us its h1 h2
    match us, its, h1, h2 with
    | [a, b, c], [d], _, _ => exact ⟨_, rfl, rfl⟩
def R_by_parts : Rel := fun ds T => ∃ (l r w : Int) (v : GQ), ds = [.int l, .int r, .int w] ∧ rep l r w v ∧ T = fun z => z = .num v
theorem ok_by_parts (T : Tx P K mg) : Fk P w K mg base "by_parts" 36 R_by_parts := by
  obtain ⟨fd, F⟩ := T.F_by_parts
  refine mkFk F sc_by_parts T.g_by_parts ?_ ?_ (fun _ _ _ _ _ _ us hl => match us, hl with | [_, _, _], _ => rfl)
  · rintro ds S ⟨l, r, w, v, rfl, _⟩; rfl
  · rintro cdv A outer s H E hr ds S ⟨l, r, w', v, rfl, hv, rfl⟩
    exact xss_one (xs_retv (xv_make (ok_Twin1 T) hr (xva_cons (xv_make (ok_Parts T) (hr.mono (by decide)) (xva_cons (xv_var 0) (xva_cons (xv_var 1) (xva_cons (xv_var 2) xva_nil))) ⟨l, r, w', rfl, rfl⟩) xva_nil) ⟨l, r, w', v, .inl ⟨_, rfl, rfl⟩, hv, rfl⟩) ⟨rfl, rfl⟩)
/-- a VALUE and its worth -/
def IsVal (d : D) (v : GQ) : Prop := d = .num v ∨ ∃ i : Int, d = .int i ∧ v = GQ.ofInt i
def R_told_parts : Rel := fun ds T => ∃ (d : D) (v : GQ) (l r w : Int), ds = [d] ∧ IsVal d v ∧ nrm l r w v ∧ T = fun z => z = .tup [.int l, .int r, .int w]
theorem ok_told_parts (T : Tx P K mg) : Fk P w K mg base "told_parts" 2 R_told_parts := by
  obtain ⟨fd, F⟩ := T.F_told_parts
  refine mkFk F sc_told_parts T.g_told_parts ?_ ?_ (fun _ _ _ _ _ _ us hl => match us, hl with | [_], _ => rfl)
  · rintro ds S ⟨d, v, l, r, w, rfl, _⟩; rfl
  · rintro cdv A outer s H E hr ds S ⟨d, v, l, r, w', rfl, (rfl | ⟨i, rfl, rfl⟩), hv, rfl⟩
    · exact xss_yes (xt_to (xt_val (xv_isi T (xv_var 0) (xv_cls T.g_Twin) rfl rfl)) rfl) (xss_one (xs_retv (xv_tup (xva_cons (xv_num (xv_var 0) hv T.cl_Twin T.na_Twin_own_plain (fNum_plain _ _ _)) (xva_cons (xv_num (xv_var 0) hv T.cl_Twin T.na_Twin_own_side (fNum_side _ _ _)) (xva_cons (xv_num (xv_var 0) hv T.cl_Twin T.na_Twin_own_low (fNum_low _ _ _)) xva_nil)))) ⟨rfl, rfl⟩))
    · obtain ⟨rfl, rfl, rfl⟩ := hv.uniq (nrm_int i)
      refine xss_no (xt_to (xt_val (xv_isi T (xv_var 0) (xv_cls T.g_Twin) rfl rfl)) rfl) ?_
      refine xss_no (xt_to (xt_val (xv_isi T (xv_var 0) (xv_cls T.g_Ratio) rfl rfl)) rfl) ?_
      refine xss_no (xt_to (xt_not (xt_val (xv_call (ok_is_integer T) hr (xva_cons (xv_var 0) xva_nil) ⟨_, rfl, rfl, rfl⟩))) rfl) ?_
      exact xss_one (xs_retv (xv_tup (xva_cons (xv_var 0) (xva_cons xv_int (xva_cons xv_int xva_nil)))) ⟨rfl, rfl⟩)
theorem hand_int {i : Int} (h : i.natAbs < 2 ^ 60) : Hand [.int i, .int 0] (i * 1) (0 * 1) (1 * 1) := .inr (.inl ⟨i, 0, rfl, h, by decide, rfl, rfl, rfl⟩)
theorem rep_hand (i : Int) : rep (i * 1) (0 * 1) (1 * 1) (GQ.ofInt i) := by
  rw [Int.mul_one, Int.mul_one, Int.mul_one]; exact rep_int i
def R_const (i : Int) : Rel := fun ds T => ds = [] ∧ T = fun z => z = .num (GQ.ofInt i)
theorem ok_nought (T : Tx P K mg) : Fk P w K mg base "nought" 36 (R_const 0) := by
  obtain ⟨fd, F⟩ := T.F_nought
  refine mkFk F sc_nought T.g_nought ?_ ?_ (fun _ _ _ _ _ _ us hl => match us, hl with | [], _ => rfl)
  · rintro ds S ⟨rfl, _⟩; rfl
  · rintro cdv A outer s H E hr ds S ⟨rfl, rfl⟩
    exact xss_one (xs_retv (xv_make (ok_Twin1 T) hr (xva_cons xv_int xva_nil) ⟨_, _, _, _, hand_int (by decide), rep_hand 0, rfl⟩) ⟨rfl, rfl⟩)
theorem ok_one (T : Tx P K mg) : Fk P w K mg base "one" 36 (R_const 1) := by
  obtain ⟨fd, F⟩ := T.F_one
  refine mkFk F sc_one T.g_one ?_ ?_ (fun _ _ _ _ _ _ us hl => match us, hl with | [], _ => rfl)
  · rintro ds S ⟨rfl, _⟩; rfl
  · rintro cdv A outer s H E hr ds S ⟨rfl, rfl⟩
    exact xss_one (xs_retv (xv_make (ok_Twin1 T) hr (xva_cons xv_int xva_nil) ⟨_, _, _, _, hand_int (by decide), rep_hand 1, rfl⟩) ⟨rfl, rfl⟩)
end NL

/-! text DL10 -/
set_option Elab.async false
set_option linter.all false
set_option maxRecDepth 100000
set_option maxHeartbeats 4000000
/-! The D-layer: operators of own classes. -/
namespace NL
open PySem PySem.Spec L2
open PyProof.Rows (envOfC)
section
variable {X : Cx}
theorem cmpBack_of {Q : Value → Shared → Prop} {v : Value} {s : Shared} (h : v ≠ .notImplemented) (q : Q v s) : PySem.W.CmpBack Q v s := by
  cases v <;> first | exact q | exact absurd rfl h
theorem rel_ni {x : V} {u : Value} (r : RelV x u) : u ≠ .notImplemented := by
  cases x with
  | int i => obtain ⟨t, rfl⟩ := r; exact fun z => nomatch z
  | str i => obtain ⟨t, rfl⟩ := r; exact fun z => nomatch z
  | byt i => obtain ⟨t, rfl⟩ := r; exact fun z => nomatch z
  | flt i => obtain ⟨t, rfl⟩ := r; exact fun z => nomatch z
  | _ => cases r; exact fun z => nomatch z
/-- x op y, both of the class at C, by the class's own def -/
def rOwn2 (C : Addr) (sp : Sp) : R2 := fun x y H Q => ∃ a dx fs b dy gs, x = .ref a ∧ H a = some (.ins C dx fs) ∧ y = .ref b ∧ H b = some (.ins C dy gs) ∧ sp [x, y] H Q E0
theorem op_own2 {k : Nat} {C f : Addr} {fd : FuncData} {ps : List Str} {sp : Sp} {op : Operator} (F : FnOk X.prog X.w X.K X.mg X.base CX0 k f fd ps sp) (hr : Room k X.A) (hb : Binds X.K fd ps []) (hc : PySem.W.selfFirst X.K C = true) (hs : PySem.W.findIn X.K (.ref C) (PySem.dunder op.info.2) = some (some (.ref f))) (hf : PySem.W.isFn X.K (.ref f) = true) :
    OpR X (binaryOp op) (rOwn2 C sp) := by
  intro pins s σ H x y v u Q I rx ry h
  obtain ⟨a, dx, fs, b, dy, gs, rfl, e1, rfl, e2, q⟩ := h
  obtain rfl : v = .ref a := rx
  obtain rfl : u = .ref b := ry
  obtain ⟨m, Fr⟩ := I.fr
  obtain ⟨mA, O, _⟩ := ins_get I.hok e1
  obtain ⟨od, J, _⟩ := O.look
  obtain ⟨mB, O2, _⟩ := ins_get I.hok e2
  obtain ⟨od2, J2, _⟩ := O2.look
  refine PySem.W.binop_K Fr I.ok.mod.kin J J2.type hc hs hf ?_
  refine thn (run_fn (Q := Q) F hr hb .nil pass0 I (.cons (show RelV (V.ref a) _ from rfl) (.cons (show RelV (V.ref b) _ from rfl) .nil)) (show sp ([.ref a, .ref b] ++ []) H Q E0 from q)) fun w s' ⟨z, H', I', r, q'⟩ => ?_
  exact cmpBack_of (rel_ni r) ⟨z, H', I', r, q'⟩
/-- x op n, x of the class at C, n an int -/
def rOwnI (C : Addr) (sp : Sp) : R2 := fun x y H Q => ∃ a dx fs i, x = .ref a ∧ H a = some (.ins C dx fs) ∧ y = .int i ∧ sp [x, y] H Q E0
theorem op_ownI {k : Nat} {C f : Addr} {fd : FuncData} {ps : List Str} {sp : Sp} {op : Operator} {fo ro rc : Option Value} (F : FnOk X.prog X.w X.K X.mg X.base CX0 k f fd ps sp) (hr : Room k X.A) (hb : Binds X.K fd ps []) (hc : PySem.W.selfFirst X.K C = true) (hs : PySem.W.findIn X.K (.ref C) (PySem.dunder op.info.2) = some (some (.ref f))) (hf : PySem.W.isFn X.K (.ref f) = true)
    (hrr : PySem.W.findIn X.K (.ref C) (dunderR op.info.2) = some rc) (hp : rc = none ∨ ∃ g : Addr, rc = some (.ref g)) (h1 : PySem.W.findIn X.K (.type "int") (PySem.dunder op.info.2) = some fo) (h2 : PySem.W.findIn X.K (.type "int") (dunderR op.info.2) = some ro) (hsub : PySem.W.subIn X.K (.type "int") (.ref C) = some false) :
    OpR X (binaryOp op) (rOwnI C sp) := by
  intro pins s σ H x y v u Q I rx ry h
  obtain ⟨a, dx, fs, i, rfl, e1, rfl, q⟩ := h
  obtain rfl : v = .ref a := rx
  obtain ⟨t, rfl⟩ := ry
  obtain ⟨m, Fr⟩ := I.fr
  obtain ⟨mA, O, _⟩ := ins_get I.hok e1
  obtain ⟨od, J, _⟩ := O.look
  refine PySem.W.ksp_binT (T := "int") Fr I.ok.mod.kin J rfl hc hs hf hrr hp h1 h2 hsub ?_
  refine thn (run_fn (Q := Q) F hr hb .nil pass0 I (.cons (show RelV (V.ref a) _ from rfl) (.cons (show RelV (V.int i) _ from ⟨t, rfl⟩) .nil)) (show sp ([.ref a, .int i] ++ []) H Q E0 from q)) fun w s' ⟨z, H', I', r, q'⟩ => ?_
  exact cmpBack_of (rel_ni r) ⟨z, H', I', r, q'⟩
/-- x == y, both of the class at C -/
theorem op_ownEq {k : Nat} {C f : Addr} {fd : FuncData} {ps : List Str} {sp : Sp} (F : FnOk X.prog X.w X.K X.mg X.base CX0 k f fd ps sp) (hr : Room k X.A) (hb : Binds X.K fd ps []) (hs : PySem.W.findIn X.K (.ref C) "__eq__" = some (some (.ref f))) (hf : PySem.W.isFn X.K (.ref f) = true) :
    OpR X (compareOp .Eq) (rOwn2 C sp) := by
  intro pins s σ H x y v u Q I rx ry h
  obtain ⟨a, dx, fs, b, dy, gs, rfl, e1, rfl, e2, q⟩ := h
  obtain rfl : v = .ref a := rx
  obtain rfl : u = .ref b := ry
  obtain ⟨m, Fr⟩ := I.fr
  obtain ⟨mA, O, _⟩ := ins_get I.hok e1
  obtain ⟨od, J, _⟩ := O.look
  obtain ⟨mB, O2, _⟩ := ins_get I.hok e2
  obtain ⟨od2, J2, _⟩ := O2.look
  have hu : X.A.units < cLine := by have := hr.units; omega
  refine PySem.W.cmp_K (op := .Eq) hu Fr I.ok.mod.kin J J2.type (by unfold PySem.W.notFirst; simp) hs hf ?_
  refine thn (run_fn (Q := Q) F hr hb .nil pass0 I (.cons (show RelV (V.ref a) _ from rfl) (.cons (show RelV (V.ref b) _ from rfl) .nil)) (show sp ([.ref a, .ref b] ++ []) H Q E0 from q)) fun w s' ⟨z, H', I', r, q'⟩ => ?_
  exact cmpBack_of (rel_ni r) ⟨z, H', I', r, q'⟩
end
/-- an operator of two Twins -/
theorem rd_own2 {K : PySem.W.Frag} {R : Rel} {x y d : D} {C : Addr} (hx : ∃ m, InsOf K C m x) (hy : ∃ m, InsOf K C m y) (nx : noOl x = true) (ny : noOl y = true) (r : R [x, y] (fun z => z = d)) : RD K (rOwn2 C (spR K R)) x y (fun z => z = d) := fun H0 G H v u l i1 i2 Q q => by
  obtain ⟨m, hx⟩ := hx
  obtain ⟨m', hy⟩ := hy
  have d1 := i1.da nx
  have d2 := i2.da ny
  obtain ⟨a, dx, fs, rfl, e1, _⟩ := hx G v d1
  obtain ⟨b, dy, gs, rfl, e2, _⟩ := hy G u d2
  exact ⟨a, dx, fs, b, dy, gs, rfl, l.at_ _ _ e1 ins_not_pot, rfl, l.at_ _ _ e2 ins_not_pot, G, _, _, l, DaL.cons d1 (DaL.cons d2 DaL.nil), r, fun G' H' z e t da s => q G' H' z e t (Is.of da) s⟩
theorem rd_ownI {K : PySem.W.Frag} {R : Rel} {x d : D} {i : Int} {C : Addr} (hx : ∃ m, InsOf K C m x) (nx : noOl x = true) (r : R [x, .int i] (fun z => z = d)) : RD K (rOwnI C (spR K R)) x (.int i) (fun z => z = d) := fun H0 G H v u l i1 i2 Q q => by
  obtain ⟨m, hx⟩ := hx
  have d1 := i1.da nx
  cases i2
  obtain ⟨a, dx, fs, rfl, e1, _⟩ := hx G v d1
  exact ⟨a, dx, fs, i, rfl, l.at_ _ _ e1 ins_not_pot, rfl, G, _, _, l, DaL.cons d1 (DaL.cons (.int i) DaL.nil), r, fun G' H' z e t da s => q G' H' z e t (Is.of da) s⟩
end NL

/-! text P3 -/
set_option Elab.async false
set_option linter.all false
set_option maxRecDepth 100000
set_option maxHeartbeats 4000000
/-! Twins: what they do. -/
namespace NL
open PySem PySem.Spec L2
open PyProof.Rows (envOfC)
variable {P : Program} {w : World} {K : PySem.W.Frag} {mg : Str → Option Value} {base : Heap}

theorem IsVal.ok {d : D} {v : GQ} (h : IsVal d v) : okD d = true := by rcases h with rfl | ⟨i, rfl, _⟩ <;> rfl
theorem IsVal.no {d : D} {v : GQ} (h : IsVal d v) : noOl d = true := by rcases h with rfl | ⟨i, rfl, _⟩ <;> rfl
/-- both of at most n bits -/
def R_bin (op : GQ → GQ → GQ) : Rel := fun ds T => ∃ (x : GQ) (d : D) (y : GQ) (n : Nat), ds = [.num x, d] ∧ IsVal d y ∧ 0 < n ∧ n ≤ 40000000 ∧ Bd n x ∧ Bd n y ∧ T = fun z => z = .num (op x y)
theorem mul_ok' {i j : Int} {a b : Nat} (ha : i.natAbs < 2 ^ a) (hb : j.natAbs < 2 ^ b) (h0 : 0 < a := by omega) (h1 : 0 < b := by omega) (h : a + b ≤ 134000000 := by omega) : IntMulOk i j := mul_ok ha hb h0 h1 h
section
variable {X : Cx} {ρ : Env}
/-- self.own_.., self a Twin in slot 0 -/
theorem xv_pl {l r w : Int} {v : GQ} {p : Pos} {e : Expr} (T : Tx P X.K X.mg) (he : XV X e ρ (.num v)) (hv : nrm l r w v) (hab : attributeBase e ("own_plain" : Str) X.env (eval e X.env) = eval e X.env := by rfl) : XV X (.Attribute e "own_plain" p) ρ (.int l) := xv_num he hv T.cl_Twin T.na_Twin_own_plain (fNum_plain _ _ _) hab
theorem xv_si {l r w : Int} {v : GQ} {p : Pos} {e : Expr} (T : Tx P X.K X.mg) (he : XV X e ρ (.num v)) (hv : nrm l r w v) (hab : attributeBase e ("own_side" : Str) X.env (eval e X.env) = eval e X.env := by rfl) : XV X (.Attribute e "own_side" p) ρ (.int r) := xv_num he hv T.cl_Twin T.na_Twin_own_side (fNum_side _ _ _) hab
theorem xv_lo {l r w : Int} {v : GQ} {p : Pos} {e : Expr} (T : Tx P X.K X.mg) (he : XV X e ρ (.num v)) (hv : nrm l r w v) (hab : attributeBase e ("own_low" : Str) X.env (eval e X.env) = eval e X.env := by rfl) : XV X (.Attribute e "own_low" p) ρ (.int w) := xv_num he hv T.cl_Twin T.na_Twin_own_low (fNum_low _ _ _) hab
end
theorem ok_add (T : Tx P K mg) : Mth P w K mg base (He.ga K "Twin") "__add__" 38 (R_bin (· + ·)) := by
  obtain ⟨fd, F⟩ := T.F_Twin_add
  refine mkMth F sc_Twin_add T.cl_Twin T.m_Twin_add ?_ ?_ (fun _ _ _ _ _ _ us hl => match us, hl with | [_, _], _ => rfl)
  · rintro ds S ⟨x, d, y, n, rfl, _⟩; rfl
  · rintro cdv A outer s H E hr ds S ⟨x, d, y, n, rfl, hd, n0, n1, bx, by_, rfl⟩
    obtain ⟨l, r, w', hx⟩ := nrm_ex x
    obtain ⟨l', r', w'', hy⟩ := nrm_ex y
    obtain ⟨x1, x2, x3⟩ := bx _ _ _ hx
    obtain ⟨y1, y2, y3⟩ := by_ _ _ _ hy
    refine xss_asgG (L := [2, 3, 4]) (xv_call (ok_told_parts T) (hr.mono (by decide)) (xva_cons (xv_var 1) xva_nil) ⟨d, y, l', r', w'', rfl, hd, hy, rfl⟩ (by rw [List.all_cons, hd.no]; rfl)) (xg_trip 2 3 4 rfl sc_Twin_add.nd) ⟨_, _, _, rfl, rfl⟩ ?_
    refine xss_par 5 6 sc_Twin_add.nd (xv_add (xv_mul (xv_pl T (xv_var 0) hx) (xv_var 4) (mul_ok' x1 y3)) (xv_mul (xv_var 2) (xv_lo T (xv_var 0) hx) (mul_ok' y1 x3))) (xv_add (xv_mul (xv_si T (xv_var 0) hx) (xv_var 4) (mul_ok' x2 y3)) (xv_mul (xv_var 3) (xv_lo T (xv_var 0) hx) (mul_ok' y2 x3))) ?_
    exact xss_one (xs_retv (xv_call (ok_by_parts T) (hr.mono (by decide)) (xva_cons (xv_var 5) (xva_cons (xv_var 6) (xva_cons (xv_mul (xv_lo T (xv_var 0) hx) (xv_var 4) (mul_ok' x3 y3)) xva_nil))) ⟨_, _, _, _, rfl, hx.rep.add hy.rep, rfl⟩) ⟨rfl, rfl⟩)
theorem ok_sub (T : Tx P K mg) : Mth P w K mg base (He.ga K "Twin") "__sub__" 38 (R_bin (· - ·)) := by
  obtain ⟨fd, F⟩ := T.F_Twin_sub
  refine mkMth F sc_Twin_sub T.cl_Twin T.m_Twin_sub ?_ ?_ (fun _ _ _ _ _ _ us hl => match us, hl with | [_, _], _ => rfl)
  · rintro ds S ⟨x, d, y, n, rfl, _⟩; rfl
  · rintro cdv A outer s H E hr ds S ⟨x, d, y, n, rfl, hd, n0, n1, bx, by_, rfl⟩
    obtain ⟨l, r, w', hx⟩ := nrm_ex x
    obtain ⟨l', r', w'', hy⟩ := nrm_ex y
    obtain ⟨x1, x2, x3⟩ := bx _ _ _ hx
    obtain ⟨y1, y2, y3⟩ := by_ _ _ _ hy
    refine xss_asgG (L := [2, 3, 4]) (xv_call (ok_told_parts T) (hr.mono (by decide)) (xva_cons (xv_var 1) xva_nil) ⟨d, y, l', r', w'', rfl, hd, hy, rfl⟩ (by rw [List.all_cons, hd.no]; rfl)) (xg_trip 2 3 4 rfl sc_Twin_sub.nd) ⟨_, _, _, rfl, rfl⟩ ?_
    refine xss_par 5 6 sc_Twin_sub.nd (xv_sub (xv_mul (xv_pl T (xv_var 0) hx) (xv_var 4) (mul_ok' x1 y3)) (xv_mul (xv_var 2) (xv_lo T (xv_var 0) hx) (mul_ok' y1 x3))) (xv_sub (xv_mul (xv_si T (xv_var 0) hx) (xv_var 4) (mul_ok' x2 y3)) (xv_mul (xv_var 3) (xv_lo T (xv_var 0) hx) (mul_ok' y2 x3))) ?_
    exact xss_one (xs_retv (xv_call (ok_by_parts T) (hr.mono (by decide)) (xva_cons (xv_var 5) (xva_cons (xv_var 6) (xva_cons (xv_mul (xv_lo T (xv_var 0) hx) (xv_var 4) (mul_ok' x3 y3)) xva_nil))) ⟨_, _, _, _, rfl, hx.rep.sub hy.rep, rfl⟩) ⟨rfl, rfl⟩)
theorem ok_mul (T : Tx P K mg) : Mth P w K mg base (He.ga K "Twin") "__mul__" 38 (R_bin (· * ·)) := by
  obtain ⟨fd, F⟩ := T.F_Twin_mul
  refine mkMth F sc_Twin_mul T.cl_Twin T.m_Twin_mul ?_ ?_ (fun _ _ _ _ _ _ us hl => match us, hl with | [_, _], _ => rfl)
  · rintro ds S ⟨x, d, y, n, rfl, _⟩; rfl
  · rintro cdv A outer s H E hr ds S ⟨x, d, y, n, rfl, hd, n0, n1, bx, by_, rfl⟩
    obtain ⟨l, r, w', hx⟩ := nrm_ex x
    obtain ⟨l', r', w'', hy⟩ := nrm_ex y
    obtain ⟨x1, x2, x3⟩ := bx _ _ _ hx
    obtain ⟨y1, y2, y3⟩ := by_ _ _ _ hy
    refine xss_asgG (L := [2, 3, 4]) (xv_call (ok_told_parts T) (hr.mono (by decide)) (xva_cons (xv_var 1) xva_nil) ⟨d, y, l', r', w'', rfl, hd, hy, rfl⟩ (by rw [List.all_cons, hd.no]; rfl)) (xg_trip 2 3 4 rfl sc_Twin_mul.nd) ⟨_, _, _, rfl, rfl⟩ ?_
    refine xss_set 5 sc_Twin_mul.nd (xv_sub (xv_mul (xv_pl T (xv_var 0) hx) (xv_var 2) (mul_ok' x1 y1)) (xv_mul (xv_si T (xv_var 0) hx) (xv_var 3) (mul_ok' x2 y2))) ?_
    exact xss_one (xs_retv (xv_call (ok_by_parts T) (hr.mono (by decide)) (xva_cons (xv_var 5) (xva_cons (xv_add (xv_mul (xv_pl T (xv_var 0) hx) (xv_var 3) (mul_ok' x1 y2)) (xv_mul (xv_si T (xv_var 0) hx) (xv_var 2) (mul_ok' x2 y1))) (xva_cons (xv_mul (xv_lo T (xv_var 0) hx) (xv_var 4) (mul_ok' x3 y3)) xva_nil))) ⟨_, _, _, _, rfl, hx.rep.mul hy.rep, rfl⟩) ⟨rfl, rfl⟩)
def R_over : Rel := fun ds T => ∃ (x : GQ) (d : D) (y : GQ) (n : Nat), ds = [.num x, d] ∧ IsVal d y ∧ y ≠ GQ.ofInt 0 ∧ 0 < n ∧ n ≤ 40000000 ∧ Bd n x ∧ Bd n y ∧ T = fun z => z = .num (x / y)
theorem ok_over (T : Tx P K mg) : Mth P w K mg base (He.ga K "Twin") "over" 38 R_over := by
  obtain ⟨fd, F⟩ := T.F_Twin_over
  refine mkMth F sc_Twin_over T.cl_Twin T.m_Twin_over ?_ ?_ (fun _ _ _ _ _ _ us hl => match us, hl with | [_, _], _ => rfl)
  · rintro ds S ⟨x, d, y, n, rfl, _⟩; rfl
  · rintro cdv A outer s H E hr ds S ⟨x, d, y, n, rfl, hd, y0, n0, n1, bx, by_, rfl⟩
    obtain ⟨l, r, w', hx⟩ := nrm_ex x
    obtain ⟨l', r', w'', hy⟩ := nrm_ex y
    obtain ⟨x1, x2, x3⟩ := bx _ _ _ hx
    obtain ⟨y1, y2, y3⟩ := by_ _ _ _ hy
    have hq := hx.rep.div hy.rep y0
    have mpos : 0 < l' * l' + r' * r' := Int.pos_of_mul_pos_right hq.1 hx.1
    refine xss_asgG (L := [2, 3, 4]) (xv_call (ok_told_parts T) (hr.mono (by decide)) (xva_cons (xv_var 1) xva_nil) ⟨d, y, l', r', w'', rfl, hd, hy, rfl⟩ (by rw [List.all_cons, hd.no]; rfl)) (xg_trip 2 3 4 rfl sc_Twin_over.nd) ⟨_, _, _, rfl, rfl⟩ ?_
    refine xss_set 5 sc_Twin_over.nd (xv_add (xv_mul (xv_var 2) (xv_var 2) (mul_ok' y1 y1)) (xv_mul (xv_var 3) (xv_var 3) (mul_ok' y2 y2))) ?_
    refine xss_no (xt_to (xt_eq (xv_var 5) xv_int) (decide_eq_false (by omega))) ?_
    refine xss_set 6 sc_Twin_over.nd (xv_mul (xv_add (xv_mul (xv_pl T (xv_var 0) hx) (xv_var 2) (mul_ok' x1 y1)) (xv_mul (xv_si T (xv_var 0) hx) (xv_var 3) (mul_ok' x2 y2))) (xv_var 4) (mul_ok' (add_lt (mul_lt x1 y1) (mul_lt x2 y2)) y3)) ?_
    exact xss_one (xs_retv (xv_call (ok_by_parts T) (hr.mono (by decide)) (xva_cons (xv_var 6) (xva_cons (xv_mul (xv_sub (xv_mul (xv_si T (xv_var 0) hx) (xv_var 2) (mul_ok' x2 y1)) (xv_mul (xv_pl T (xv_var 0) hx) (xv_var 3) (mul_ok' x1 y2))) (xv_var 4) (mul_ok' (sub_lt (mul_lt x2 y1) (mul_lt x1 y2)) y3)) (xva_cons (xv_mul (xv_lo T (xv_var 0) hx) (xv_var 5) (mul_ok' x3 (add_lt (mul_lt y1 y1) (mul_lt y2 y2)))) xva_nil))) ⟨_, _, _, _, rfl, hq, rfl⟩) ⟨rfl, rfl⟩)
def R_mirror : Rel := fun ds T => ∃ x : GQ, ds = [.num x] ∧ T = fun z => z = .num x.conj
theorem ok_mirror (T : Tx P K mg) : Mth P w K mg base (He.ga K "Twin") "mirror" 37 R_mirror := by
  obtain ⟨fd, F⟩ := T.F_Twin_mirror
  refine mkMth F sc_Twin_mirror T.cl_Twin T.m_Twin_mirror ?_ ?_ (fun _ _ _ _ _ _ us hl => match us, hl with | [_], _ => rfl)
  · rintro ds S ⟨x, rfl, _⟩; rfl
  · rintro cdv A outer s H E hr ds S ⟨x, rfl, rfl⟩
    obtain ⟨l, r, w', hx⟩ := nrm_ex x
    exact xss_one (xs_retv (xv_call (ok_by_parts T) hr (xva_cons (xv_pl T (xv_var 0) hx) (xva_cons (xv_sub xv_int (xv_si T (xv_var 0) hx)) (xva_cons (xv_lo T (xv_var 0) hx) xva_nil))) ⟨_, _, _, _, rfl, hx.rep.conj, rfl⟩) ⟨rfl, rfl⟩)
theorem rep_size {l r w : Int} {x : GQ} (h : rep l r w x) : rep (l * l + r * r) 0 (w * w) ⟨x.sz, 0⟩ := by
  obtain ⟨a, b, c⟩ := h
  refine ⟨Int.mul_pos a a, ?_, ?_⟩
  · show x.sz * ((w * w : Int) : Rat) = _
    rw [GQ.sz_eq, Rat.intCast_mul, Rat.intCast_add, Rat.intCast_mul, Rat.intCast_mul, ← b, ← c]; grind
  · show (0 : Rat) * _ = ((0 : Int) : Rat)
    rw [Rat.zero_mul]; rfl
def R_size : Rel := fun ds T => ∃ (x : GQ) (n : Nat), ds = [.num x] ∧ 0 < n ∧ n ≤ 40000000 ∧ Bd n x ∧ T = fun z => z = .rat x.sz
theorem ok_size (T : Tx P K mg) : Mth P w K mg base (He.ga K "Twin") "size" 36 R_size := by
  obtain ⟨fd, F⟩ := T.F_Twin_size
  refine mkMth F sc_Twin_size T.cl_Twin T.m_Twin_size ?_ ?_ (fun _ _ _ _ _ _ us hl => match us, hl with | [_], _ => rfl)
  · rintro ds S ⟨x, n, rfl, _⟩; rfl
  · rintro cdv A outer s H E hr ds S ⟨x, n, rfl, n0, n1, bx, rfl⟩
    obtain ⟨l, r, w', hx⟩ := nrm_ex x
    obtain ⟨x1, x2, x3⟩ := bx _ _ _ hx
    exact xss_one (xs_retv (xv_make (ok_Ratio2 T) hr (xva_cons (xv_add (xv_mul (xv_pl T (xv_var 0) hx) (xv_pl T (xv_var 0) hx) (mul_ok' x1 x1)) (xv_mul (xv_si T (xv_var 0) hx) (xv_si T (xv_var 0) hx) (mul_ok' x2 x2))) (xva_cons (xv_mul (xv_lo T (xv_var 0) hx) (xv_lo T (xv_var 0) hx) (mul_ok' x3 x3)) xva_nil)) ⟨_, _, _, rfl, rep_size hx.rep, rfl⟩) ⟨rfl, rfl⟩)
def R_plain : Rel := fun ds T => ∃ x : GQ, ds = [.num x] ∧ T = fun z => z = .rat x.re
theorem rep_plain {l r w : Int} {x : GQ} (h : rep l r w x) : rep l 0 w ⟨x.re, 0⟩ := ⟨h.1, h.2.1, by show (0 : Rat) * _ = ((0 : Int) : Rat); rw [Rat.zero_mul]; rfl⟩
theorem ok_plain (T : Tx P K mg) : Prp P w K mg base (He.ga K "Twin") "plain" 36 R_plain := by
  obtain ⟨fd, F⟩ := T.F_Twin_plain
  refine mkPrp F sc_Twin_plain T.cl_Twin (prop_ok T.parts8.2.2.2.2.2.2.1) ?_ ?_ (fun _ _ _ _ _ _ us hl => match us, hl with | [_], _ => rfl)
  · rintro ds S ⟨x, rfl, _⟩; rfl
  · rintro cdv A outer s H E hr ds S ⟨x, rfl, rfl⟩
    obtain ⟨l, r, w', hx⟩ := nrm_ex x
    exact xss_one (xs_retv (xv_make (ok_Ratio2 T) hr (xva_cons (xv_pl T (xv_var 0) hx) (xva_cons (xv_lo T (xv_var 0) hx) xva_nil)) ⟨_, _, _, rfl, rep_plain hx.rep, rfl⟩) ⟨rfl, rfl⟩)
def R_is_nought : Rel := fun ds T => ∃ x : GQ, ds = [.num x] ∧ T = fun z => z = .bl (decide (x = GQ.ofInt 0))
theorem nought_dec {l r w : Int} {x : GQ} (h : rep l r w x) : (decide (l = 0) && decide (r = 0)) = decide (x = GQ.ofInt 0) := by
  have a := h.zero_l
  have b := h.zero_r
  by_cases e : x = GQ.ofInt 0
  · subst e
    rw [decide_eq_true (a.mpr rfl), decide_eq_true (b.mpr rfl), decide_eq_true rfl]; rfl
  · rw [decide_eq_false e]
    by_cases e1 : l = 0
    · by_cases e2 : r = 0
      · exact absurd (GQ.ext' (a.mp e1) (b.mp e2)) e
      · rw [decide_eq_false e2, Bool.and_false]
    · rw [decide_eq_false e1, Bool.false_and]
theorem ok_is_nought (T : Tx P K mg) : Prp P w K mg base (He.ga K "Twin") "is_nought" 1 R_is_nought := by
  obtain ⟨fd, F⟩ := T.F_Twin_is_nought
  refine mkPrp F sc_Twin_is_nought T.cl_Twin (prop_ok T.parts8.2.2.2.2.2.2.2.1) ?_ ?_ (fun _ _ _ _ _ _ us hl => match us, hl with | [_], _ => rfl)
  · rintro ds S ⟨x, rfl, _⟩; rfl
  · rintro cdv A outer s H E hr ds S ⟨x, rfl, rfl⟩
    obtain ⟨l, r, w', hx⟩ := nrm_ex x
    exact xss_one (xs_retv (xv_to (xe_and (xv_eq (xv_pl T (xv_var 0) hx) xv_int) fun _ => xe_one (xv_eq (xv_si T (xv_var 0) hx) xv_int)) (congrArg D.bl (nought_dec hx.rep))) ⟨rfl, rfl⟩)
def R_twin_eq : Rel := fun ds T => ∃ x y : GQ, ds = [.num x, .num y] ∧ T = fun z => z = .bl (decide (x = y))
theorem eq_dec {l r w l' r' w' : Int} {x y : GQ} (h : nrm l r w x) (h' : nrm l' r' w' y) : (decide (l = l') && (decide (r = r') && decide (w = w'))) = decide (x = y) := by
  by_cases e : x = y
  · subst e
    obtain ⟨rfl, rfl, rfl⟩ := h.uniq h'
    simp
  · rw [decide_eq_false e]
    by_cases e1 : l = l'
    · by_cases e2 : r = r'
      · by_cases e3 : w = w'
        · subst e1 e2 e3; exact absurd (h.inj h') e
        · simp [e3]
      · simp [e2]
    · simp [e1]
theorem ok_twin_eq (T : Tx P K mg) : Mth P w K mg base (He.ga K "Twin") "__eq__" 1 R_twin_eq := by
  obtain ⟨fd, F⟩ := T.F_Twin_eq
  refine mkMth F sc_Twin_eq T.cl_Twin T.m_Twin_eq ?_ ?_ (fun _ _ _ _ _ _ us hl => match us, hl with | [_, _], _ => rfl)
  · rintro ds S ⟨x, y, rfl, _⟩; rfl
  · rintro cdv A outer s H E hr ds S ⟨x, y, rfl, rfl⟩
    obtain ⟨l, r, w', hx⟩ := nrm_ex x
    obtain ⟨l', r', w'', hy⟩ := nrm_ex y
    refine xss_no (xt_to (xt_not (xt_val (xv_isi T (xv_var 1) (xv_cls T.g_Twin) rfl rfl))) rfl) ?_
    exact xss_one (xs_retv (xv_to (xe_and (xv_eq (xv_pl T (xv_var 0) hx) (xv_pl T (xv_var 1) hy)) fun _ => xe_and (xv_eq (xv_si T (xv_var 0) hx) (xv_si T (xv_var 1) hy)) fun _ => xe_one (xv_eq (xv_lo T (xv_var 0) hx) (xv_lo T (xv_var 1) hy))) (congrArg D.bl (eq_dec hx hy))) ⟨rfl, rfl⟩)
/-! ### Ratio's -/
theorem rat_ex (q : Rat) : ∃ t b, nrm t 0 b ⟨q, 0⟩ := by
  obtain ⟨l, r, w, h⟩ := nrm_ex ⟨q, 0⟩
  have : r = 0 := h.rep.zero_r.mpr rfl
  subst this
  exact ⟨l, w, h⟩
def R_sign : Rel := fun ds T => ∃ q : Rat, ds = [.rat q] ∧ T = fun z => z = .int (if 0 < q then 1 else if q < 0 then -1 else 0)
theorem ok_sign (T : Tx P K mg) : Prp P w K mg base (He.ga K "Ratio") "sign" 1 R_sign := by
  obtain ⟨fd, F⟩ := T.F_Ratio_sign
  refine mkPrp F sc_Ratio_sign T.cl_Ratio (prop_ok T.parts8.2.2.2.2.2.1) ?_ ?_ (fun _ _ _ _ _ _ us hl => match us, hl with | [_], _ => rfl)
  · rintro ds S ⟨x, rfl, _⟩; rfl
  · rintro cdv A outer s H E hr ds S ⟨x, rfl, rfl⟩
    obtain ⟨t, b, hx⟩ := rat_ex x
    have h1 := hx.rep.pos_l
    have h2 := hx.rep.neg_l
    refine xss_one (xs_retv (xv_to (xv_sub (xv_intB T.b_int (xv_gt (xv_rat (xv_var 0) hx T.cl_Ratio T.na_Ratio_own_top (fRat_top _ _)) xv_int)) (xv_intB T.b_int (xv_lt (xv_rat (xv_var 0) hx T.cl_Ratio T.na_Ratio_own_top (fRat_top _ _)) xv_int))) (congrArg D.int ?_)) ⟨rfl, rfl⟩)
    by_cases p : 0 < x
    · have q : 0 < t := h1.mpr p
      have q2 : ¬ t < 0 := by omega
      rw [if_pos p]; simp [q, q2]
    · rw [if_neg p]
      have q : ¬ 0 < t := fun z => p (h1.mp z)
      by_cases n : x < 0
      · have q2 : t < 0 := h2.mpr n
        rw [if_pos n]; simp [q, q2]
      · have q2 : ¬ t < 0 := fun z => n (h2.mp z)
        rw [if_neg n]; simp [q, q2]
def R_is_below : Rel := fun ds T => ∃ (q : Rat) (n : Nat), ds = [.rat q, .int 1] ∧ 0 < n ∧ n ≤ 100000000 ∧ Bd n ⟨q, 0⟩ ∧ T = fun z => z = .bl (decide (q < 1))
theorem below_one {t b : Int} {q : Rat} (h : rep t 0 b ⟨q, 0⟩) : decide (t * 1 < 1 * b) = decide (q < 1) := by
  obtain ⟨h1, h2, _⟩ := h
  have h2 : q * (b : Rat) = (t : Rat) := h2
  have b0 := cast_pos h1
  rw [Int.mul_one, Int.one_mul]
  by_cases c : q < 1
  · rw [decide_eq_true c]
    refine decide_eq_true ?_
    have : (0 : Rat) < (1 - q) * (b : Rat) := Rat.mul_pos (by grind) b0
    have : (t : Rat) < (b : Rat) := by grind
    exact_mod_cast this
  · rw [decide_eq_false c]
    refine decide_eq_false fun z => c ?_
    have z' : (t : Rat) < (b : Rat) := by exact_mod_cast z
    rcases Rat.le_total (a := q) (b := 1) with y | y
    · have : q ≠ 1 := fun e => by rw [e] at h2; grind
      grind
    · have : (0 : Rat) ≤ (q - 1) * (b : Rat) := Rat.mul_nonneg (by grind) (by grind)
      grind
theorem ok_is_below (T : Tx P K mg) : Mth P w K mg base (He.ga K "Ratio") "is_below" 3 R_is_below := by
  obtain ⟨fd, F⟩ := T.F_Ratio_is_below
  refine mkMth F sc_Ratio_is_below T.cl_Ratio T.m_Ratio_is_below ?_ ?_ (fun _ _ _ _ _ _ us hl => match us, hl with | [_, _], _ => rfl)
  · rintro ds S ⟨x, n, rfl, _⟩; rfl
  · rintro cdv A outer s H E hr ds S ⟨x, n, rfl, n0, n1, bx, rfl⟩
    obtain ⟨t, b, hx⟩ := rat_ex x
    obtain ⟨x1, _, x3⟩ := bx _ _ _ hx
    have o : (1 : Int).natAbs < 2 ^ 1 := by decide
    refine xss_asgG (L := [2, 3]) (xv_call (ok_told_pair T) hr (xva_cons (xv_var 1) xva_nil) (.inr ⟨1, rfl, rfl⟩)) (xg_pair 2 3 rfl sc_Ratio_is_below.nd) ⟨_, _, rfl, rfl⟩ ?_
    exact xss_one (xs_retv (xv_to (xv_lt (xv_mul (xv_rat (xv_var 0) hx T.cl_Ratio T.na_Ratio_own_top (fRat_top _ _)) (xv_var 3) (mul_ok' x1 o)) (xv_mul (xv_var 2) (xv_rat (xv_var 0) hx T.cl_Ratio T.na_Ratio_own_bottom (fRat_bottom _ _)) (mul_ok' o x3))) (congrArg D.bl (below_one hx.rep))) ⟨rfl, rfl⟩)

/-! ### operators, as one writes them -/
section
variable {X : Cx} {ρ : Env} {pos : Pos} {a b : Expr} {x y : GQ} {k n : Nat} {g : GQ → GQ → GQ}
theorem xv_twop {op : Operator} {m : Str} (M : Mth X.prog X.w X.K X.mg X.base (He.ga X.K "Twin") m k (R_bin g)) (hm : PySem.dunder op.info.2 = m) (hr : Room k X.A) (T : Tx P X.K X.mg) (ha : XV X a ρ (.num x)) (hb : XV X b ρ (.num y)) (bx : Bd n x) (by_ : Bd n y) (n0 : 0 < n) (n1 : n ≤ 40000000) : XV X (.BinOp a op b pos) ρ (.num (g x y)) := by
  obtain ⟨f, fd, ps, F, hc, hM, hB⟩ := M.ex
  refine xe_op (op_own2 F hr hB T.parts8.2.2.2.2.2.2.2.2.1 (by rw [hm]; exact hM.at_) hM.fn) ha hb ?_
  exact rd_own2 ⟨"q", insNum⟩ ⟨"q", insNum⟩ rfl rfl ⟨x, _, y, n, rfl, .inl rfl, n0, n1, bx, by_, rfl⟩
theorem xv_tadd (M : Mth X.prog X.w X.K X.mg X.base (He.ga X.K "Twin") "__add__" k (R_bin (· + ·))) (hr : Room k X.A) (T : Tx P X.K X.mg) (ha : XV X a ρ (.num x)) (hb : XV X b ρ (.num y)) (bx : Bd n x) (by_ : Bd n y) (n0 : 0 < n) (n1 : n ≤ 40000000) : XV X (.BinOp a .Add b pos) ρ (.num (x + y)) := xv_twop (g := (· + ·)) M (by decide +kernel) hr T ha hb bx by_ n0 n1
theorem xv_tsub (M : Mth X.prog X.w X.K X.mg X.base (He.ga X.K "Twin") "__sub__" k (R_bin (· - ·))) (hr : Room k X.A) (T : Tx P X.K X.mg) (ha : XV X a ρ (.num x)) (hb : XV X b ρ (.num y)) (bx : Bd n x) (by_ : Bd n y) (n0 : 0 < n) (n1 : n ≤ 40000000) : XV X (.BinOp a .Sub b pos) ρ (.num (x - y)) := xv_twop (g := (· - ·)) M (by decide +kernel) hr T ha hb bx by_ n0 n1
theorem xv_tmul (M : Mth X.prog X.w X.K X.mg X.base (He.ga X.K "Twin") "__mul__" k (R_bin (· * ·))) (hr : Room k X.A) (T : Tx P X.K X.mg) (ha : XV X a ρ (.num x)) (hb : XV X b ρ (.num y)) (bx : Bd n x) (by_ : Bd n y) (n0 : 0 < n) (n1 : n ≤ 40000000) : XV X (.BinOp a .Mult b pos) ρ (.num (x * y)) := xv_twop (g := (· * ·)) M (by decide +kernel) hr T ha hb bx by_ n0 n1
theorem xv_tmulI {i : Int} (M : Mth X.prog X.w X.K X.mg X.base (He.ga X.K "Twin") "__mul__" k (R_bin (· * ·))) (hr : Room k X.A) (T : Tx P X.K X.mg) (ha : XV X a ρ (.num x)) (hb : XV X b ρ (.int i)) (bx : Bd n x) (by_ : Bd n (GQ.ofInt i)) (n0 : 0 < n) (n1 : n ≤ 40000000) : XV X (.BinOp a .Mult b pos) ρ (.num (x * GQ.ofInt i)) := by
  obtain ⟨f, fd, ps, F, hc, hM, hB⟩ := M.ex
  obtain ⟨_, _, _, _, _, _, _, _, sf, ib, rm⟩ := T.parts8
  obtain ⟨i1, ib⟩ := He.ba ib
  obtain ⟨i2, i3⟩ := He.ba ib
  obtain ⟨fo, i1⟩ := Option.isSome_iff_exists.mp i1
  obtain ⟨ro, i2⟩ := Option.isSome_iff_exists.mp i2
  refine xe_op (op_ownI F hr hB sf (op := .Mult) (by rw [show PySem.dunder Operator.Mult.info.2 = ("__mul__" : Str) by decide +kernel]; exact hM.at_) hM.fn (rc := some (.ref _)) (by rw [show dunderR Operator.Mult.info.2 = ("__rmul__" : Str) by decide +kernel]; exact rm) (.inr ⟨_, rfl⟩)
    (fo := fo) (ro := ro) (by rw [show PySem.dunder Operator.Mult.info.2 = ("__mul__" : Str) by decide +kernel]; exact i1) (by rw [show dunderR Operator.Mult.info.2 = ("__rmul__" : Str) by decide +kernel]; exact i2) (of_decide_eq_true i3)) ha hb ?_
  exact rd_ownI ⟨"q", insNum⟩ rfl ⟨x, _, _, n, rfl, .inr ⟨i, rfl, rfl⟩, n0, n1, bx, by_, rfl⟩
theorem xv_teq (M : Mth X.prog X.w X.K X.mg X.base (He.ga X.K "Twin") "__eq__" k R_twin_eq) (hr : Room k X.A) (ha : XV X a ρ (.num x)) (hb : XV X b ρ (.num y)) (hm : behindInMarks .Eq b = false := by exact nomark _) : XV X (.Compare a [.Eq] [b] pos) ρ (.bl (decide (x = y))) := by
  obtain ⟨f, fd, ps, F, hc, hM, hB⟩ := M.ex
  refine xe_cmp (op_ownEq F hr hB hM.at_ hM.fn) ha hb ?_ hm
  exact rd_own2 ⟨"q", insNum⟩ ⟨"q", insNum⟩ rfl rfl ⟨x, y, rfl, rfl⟩
end
/-! ### power -/
def GQ.pow (x : GQ) : Nat → GQ
  | 0 => GQ.ofInt 1
  | k + 1 => GQ.pow x k * x
theorem bd_one : Bd 1 (GQ.ofInt 1) := bd_int (by decide) (by decide)
theorem Bd.pow {n : Nat} {x : GQ} (h : Bd n x) : ∀ k : Nat, Bd (1 + k * (n + 1)) (x.pow k)
  | 0 => by rw [Nat.zero_mul]; exact bd_one
  | k + 1 => by
    have := (Bd.pow h k).mul h
    refine this.mono ?_
    rw [Nat.succ_mul]; omega
def R_power : Rel := fun ds T => ∃ (x : GQ) (k n : Nat), ds = [.num x, .int (k : Int)] ∧ k ≤ 200 ∧ Bd n x ∧ 1 + 200 * (n + 1) ≤ 40000000 ∧ T = fun z => z = .num (x.pow k)
theorem ok_power (T : Tx P K mg) : Mth P w K mg base (He.ga K "Twin") "power" 39 R_power := by
  obtain ⟨fd, F⟩ := T.F_Twin_power
  refine mkMth F sc_Twin_power T.cl_Twin T.m_Twin_power ?_ ?_ (fun _ _ _ _ _ _ us hl => match us, hl with | [_, _], _ => rfl)
  · rintro ds S ⟨x, k, n, rfl, _⟩; rfl
  · rintro cdv A outer s H E hr ds S ⟨x, k, n, rfl, k0, bx, n1, rfl⟩
    refine xss_seq (xs_expr (xv_call (ok_want_many T) (hr.mono (by decide)) (xva_cons (xv_var 1) xva_nil) ⟨_, rfl, by omega, rfl⟩) rfl) ?_
    refine xss_seq (xs_expr (xv_call (ok_want_at_most T) (hr.mono (by decide)) (xva_cons xv_str (xva_cons (xv_globI T.MOST_POWER) (xva_cons (xv_var 1) xva_nil))) ⟨_, _, _, rfl, by omega, rfl⟩) rfl) ?_
    refine xss_set 2 sc_Twin_power.nd (xv_make (ok_Twin1 T) (hr.mono (by decide)) (xva_cons xv_int xva_nil) ⟨_, _, _, _, hand_int (by decide), rep_hand 1, rfl⟩) ?_
    refine xss_cons (M := fun z => ∃ o, z = [some (.num x), some (.int (k : Int)), some (.num (x.pow k)), o]) (xs_for (L := [3]) PassesOwn.never rfl (xi_range1 T.b_range (xv_var 1) (m := k) (by omega) (by omega)) (xg_name 3 sc_Twin_power.nd) (fun i z => ∃ o, z = [some (.num x), some (.int (k : Int)), some (.num (x.pow i)), o]) ⟨none, rfl⟩ ?_ ?_) ?_
    · rintro i d ρ1 hd ⟨o, rfl⟩
      obtain ⟨h1, rfl⟩ := rng_at hd
      refine ⟨_, rfl, xss_one ?_⟩
      have hb1 : Bd (1 + 200 * (n + 1)) (x.pow i) := (Bd.pow bx i).mono (by
        have := Nat.mul_le_mul_right (n + 1) (show i ≤ 200 by omega)
        omega)
      have hb2 : Bd (1 + 200 * (n + 1)) x := bx.mono (by omega)
      exact xs_set 2 (xv_tmul (ok_mul T) hr T (xv_var 2) (xv_var 0) hb1 hb2 (by omega) n1) (fun _ e => by subst e; exact ⟨rfl, _, rfl⟩) sc_Twin_power.nd
    · rintro ρ1 ⟨o, rfl⟩
      exact ⟨o, by rw [rng_len]⟩
    · rintro ρ1 ⟨o, rfl⟩
      exact xss_one (xs_retv (xv_var 2) ⟨rfl, rfl⟩)
/-! ### is_value, twin_of, is_point -/
def isVal : D → Bool
  | .int _ => true
  | .rat _ => true
  | .num _ => true
  | _ => false
def R_is_value : Rel := fun ds T => ∃ d, ds = [d] ∧ okD d = true ∧ T = fun z => z = .bl (isVal d)
theorem isVal_kit {d : D} (o : okD d = true) : (isInt d || (kitR (tyD d) (.c "Ratio") || kitR (tyD d) (.c "Twin"))) = isVal d := by
  cases d <;> first | (simp [okD] at o; done) | rfl
theorem okD_no {d : D} (o : okD d = true) : noOl d = true := by cases d <;> first | rfl | (simp [okD] at o; done)
theorem ok_is_value (T : Tx P K mg) : Fk P w K mg base "is_value" 2 R_is_value := by
  obtain ⟨fd, F⟩ := T.F_is_value
  refine mkFk F sc_is_value T.g_is_value ?_ ?_ (fun _ _ _ _ _ _ us hl => match us, hl with | [_], _ => rfl)
  · rintro ds S ⟨d, rfl, _⟩; rfl
  · rintro cdv A outer s H E hr ds S ⟨d, rfl, hd, rfl⟩
    exact xss_one (xs_retv (xv_to (xe_or (xv_call (ok_is_integer T) hr (xva_cons (xv_var 0) xva_nil) ⟨d, rfl, hd, rfl⟩ (by rw [List.all_cons, okD_no hd]; rfl)) fun _ => xe_one (xv_isi2 T (xv_var 0) (xv_tup (xva_cons (xv_cls T.g_Ratio) (xva_cons (xv_cls T.g_Twin) xva_nil))) hd rfl rfl)) (congrArg D.bl (isVal_kit hd))) ⟨rfl, rfl⟩)
def R_twin_of : Rel := fun ds T => ∃ v : GQ, ds = [.num v] ∧ T = fun z => z = .num v
theorem ok_twin_of (T : Tx P K mg) : Fk P w K mg base "twin_of" 1 R_twin_of := by
  obtain ⟨fd, F⟩ := T.F_twin_of
  refine mkFk F sc_twin_of T.g_twin_of ?_ ?_ (fun _ _ _ _ _ _ us hl => match us, hl with | [_], _ => rfl)
  · rintro ds S ⟨d, rfl, _⟩; rfl
  · rintro cdv A outer s H E hr ds S ⟨v, rfl, rfl⟩
    exact xss_one (xs_ret (xe_if (k := true) (xt_to (xt_val (xv_isi T (xv_var 0) (xv_cls T.g_Twin) rfl rfl)) rfl) (fun _ => xv_var 0) (fun z => nomatch z)) fun _ e => by subst e; exact ⟨rfl, rfl⟩)
def R_is_point : Rel := fun ds T => ∃ (x : GQ) (n : Nat), ds = [.num x] ∧ 0 < n ∧ n ≤ 30000000 ∧ Bd n x ∧ T = fun z => z = .bl (decide (x.sz < 1))
theorem ok_is_point (T : Tx P K mg) : Fk P w K mg base "is_point" 37 R_is_point := by
  obtain ⟨fd, F⟩ := T.F_is_point
  refine mkFk F sc_is_point T.g_is_point ?_ ?_ (fun _ _ _ _ _ _ us hl => match us, hl with | [_], _ => rfl)
  · rintro ds S ⟨d, n, rfl, _⟩; rfl
  · rintro cdv A outer s H E hr ds S ⟨x, n, rfl, n0, n1, bx, rfl⟩
    have bs : Bd (2 * n + 1) ⟨x.sz, 0⟩ := by
      obtain ⟨l, r, w', hx⟩ := nrm_ex x
      obtain ⟨x1, x2, x3⟩ := bx _ _ _ hx
      refine (rep_size hx.rep).bd (lt_mono (add_lt (mul_lt x1 x1) (mul_lt x2 x2)) (by omega)) ?_ (lt_mono (mul_lt x3 x3) (by omega))
      show 0 < 2 ^ _
      exact Nat.pow_pos (by decide)
    refine xss_one (xs_retv (xv_to (xe_and (d := decide (x.sz < 1)) (xv_call (ok_is_value T) (hr.mono (by decide)) (xva_cons (xv_var 0) xva_nil) ⟨_, rfl, rfl, rfl⟩) fun _ => xe_one ?_) (by rw [show isVal (.num x) = true from rfl, Bool.true_and])) ⟨rfl, rfl⟩)
    exact xv_meth (ok_is_below T) (hr.mono (by decide)) (xv_meth0 (ok_size T) hr (xv_call (ok_twin_of T) (hr.mono (by decide)) (xva_cons (xv_var 0) xva_nil) ⟨x, rfl, rfl⟩) insNum rfl ⟨x, n, rfl, n0, by omega, bx, rfl⟩) insRat rfl (xva_cons xv_int xva_nil) ⟨_, 2 * n + 1, rfl, by omega, by omega, bs, rfl⟩ rfl
end NL

/-! text P4 -/
set_option Elab.async false
set_option linter.all false
set_option maxRecDepth 100000
set_option maxHeartbeats 4000000
/-! The law's numbers: tuples (plain, side, bottom) in lowest terms. -/
namespace NL
open PySem PySem.Spec L2
open PyProof.Rows (envOfC)
variable {P : Program} {w : World} {K : PySem.W.Frag} {mg : Str → Option Value} {base : Heap}
/-- the law's number of a worth -/
noncomputable def GQ.nl (v : GQ) : Int := Classical.choose (nrm_ex v)
noncomputable def GQ.nr (v : GQ) : Int := Classical.choose (Classical.choose_spec (nrm_ex v))
noncomputable def GQ.nw (v : GQ) : Int := Classical.choose (Classical.choose_spec (Classical.choose_spec (nrm_ex v)))
theorem GQ.nn (v : GQ) : nrm v.nl v.nr v.nw v := Classical.choose_spec (Classical.choose_spec (Classical.choose_spec (nrm_ex v)))
noncomputable def lnum (v : GQ) : D := .tup [.int v.nl, .int v.nr, .int v.nw]
theorem lnum_of {l r w : Int} {v : GQ} (h : nrm l r w v) : D.tup [.int l, .int r, .int w] = lnum v := by
  obtain ⟨rfl, rfl, rfl⟩ := h.uniq v.nn
  rfl
theorem lnum_int (i : Int) : D.tup [.int i, .int 0, .int 1] = lnum (GQ.ofInt i) := lnum_of (nrm_int i)

/-! ### _law_gcd -/
def R_Lgcd : Rel := fun ds T => ∃ i j : Int, ds = [.int i, .int j] ∧ T = fun z => z = .int ((Nat.gcd i.natAbs j.natAbs : Nat) : Int)
theorem ok_Lgcd (T : Tx P K mg) : Fk P w K mg base "_law_gcd" 1 R_Lgcd := by
  obtain ⟨fd, F⟩ := T.F_Lgcd
  refine mkFk F sc_Lgcd T.g_Lgcd ?_ ?_ (fun _ _ _ _ _ _ us hl => match us, hl with | [_, _], _ => rfl)
  · rintro ds S ⟨i, j, rfl, _⟩; rfl
  · rintro cdv A outer s H E hr ds S ⟨i, j, rfl, rfl⟩
    refine xss_par 0 1 sc_Lgcd.nd (xv_abs T.b_abs (xv_var 0)) (xv_abs T.b_abs (xv_var 1)) ?_
    have e1 : (if i < 0 then -i else i) = ((i.natAbs : Nat) : Int) := by split <;> omega
    have e2 : (if j < 0 then -j else j) = ((j.natAbs : Nat) : Int) := by split <;> omega
    rw [e1, e2]
    refine xss_cons (M := fun z => z = [some (.int ((Nat.gcd i.natAbs j.natAbs : Nat) : Int)), some (.int 0)]) (xs_while PassesOwn.never (fun m z => ∃ a : Nat, z = [some (.int (a : Int)), some (.int (m : Int))] ∧ Nat.gcd a m = Nat.gcd i.natAbs j.natAbs) j.natAbs ⟨_, rfl, rfl⟩ ?_) ?_
    · rintro m ρ1 ⟨a, rfl, hg⟩
      refine ⟨_, xt_gt (xv_var 1) xv_int, fun z => ?_, fun z => ?_⟩
      · have hm : 0 < m := by have := of_decide_eq_true z; omega
        refine xss_par 0 1 sc_Lgcd.nd (xv_var 1) (xv_mod (xv_var 0) (xv_var 1) (by omega)) (xss_nil ?_)
        refine ⟨a % m, Nat.mod_lt _ hm, m, ?_, ?_⟩
        · rw [Int.natCast_emod]; rfl
        · rw [← hg, Nat.gcd_comm m, ← Nat.gcd_rec, Nat.gcd_comm]
      · have hm : m = 0 := by have := of_decide_eq_false z; omega
        subst hm
        rw [Nat.gcd_zero_right] at hg
        rw [← hg]; rfl
    · rintro ρ1 rfl
      exact xss_one (xs_retv (xv_var 0) ⟨rfl, rfl⟩)
/-! ### _law_number -/
def R_Lnumber : Rel := fun ds T => ∃ (l r w : Int) (v : GQ), ds = [.int l, .int r, .int w] ∧ rep l r w v ∧ T = fun z => z = lnum v
theorem ok_Lnumber (T : Tx P K mg) : Fk P w K mg base "_law_number" 34 R_Lnumber := by
  obtain ⟨fd, F⟩ := T.F_Lnumber
  refine mkFk F sc_Lnumber T.g_Lnumber ?_ ?_ (fun _ _ _ _ _ _ us hl => match us, hl with | [_, _, _], _ => rfl)
  · rintro ds S ⟨l, r, w, v, rfl, _⟩; rfl
  · rintro cdv A outer s H E hr ds S ⟨l, r, w', v, rfl, hv, rfl⟩
    have pl := plain_cx (P := P) (w := w) (K := K) (mg := mg) (base := base) (N := n_Lnumber) (qual := "_law_number") (scope := defScope s_Lnumber) (f := d_Lnumber.ad K) (cdv := cdv) (A := A) (outer := outer) (s := s) (H := H) (E := E) ⟨rfl, rfl⟩
    have eg : Nat.gcd (Nat.gcd l.natAbs r.natAbs) w'.natAbs = Nat.gcd (Nat.gcd l.natAbs w'.natAbs) r.natAbs := by
      rw [Nat.gcd_assoc, Nat.gcd_comm r.natAbs, ← Nat.gcd_assoc]
    obtain ⟨g0, hn⟩ := hv.norm (g := ((Nat.gcd ((Nat.gcd l.natAbs r.natAbs : Nat) : Int).natAbs w'.natAbs : Nat) : Int)) (by rw [Int.natAbs_natCast, eg])
    refine xss_set 3 sc_Lnumber.nd (xv_call (ok_Lgcd T) (hr.mono (by decide)) (xva_cons (xv_call (ok_Lgcd T) (hr.mono (by decide)) (xva_cons (xv_var 0) (xva_cons (xv_var 1) xva_nil)) ⟨_, _, rfl, rfl⟩) (xva_cons (xv_var 2) xva_nil)) ⟨_, _, rfl, rfl⟩) ?_
    exact xss_one (xs_retv (xv_tup (xva_cons (xv_fdivL (xv_var 0) (xv_var 3) g0 T.seer T.tree hr pl) (xva_cons (xv_fdivL (xv_var 1) (xv_var 3) g0 T.seer T.tree hr pl) (xva_cons (xv_fdivL (xv_var 2) (xv_var 3) g0 T.seer T.tree hr pl) xva_nil)))) ⟨lnum_of hn, rfl⟩)

/-! ### the law's operations -/
section
variable {X : Cx} {ρ : Env} {a : Expr} {p : Pos} {j} {v : GQ}
theorem xv_l0 (h : XV X a ρ (lnum v)) {pp} (hs : PlainIx (.Constant (.int 0) j p) := by exact fun _ _ => rfl) : XV X (.Subscript a (.Constant (.int 0) j p) pp) ρ (.int v.nl) := xv_ixT h xv_int rfl hs
theorem xv_l1 (h : XV X a ρ (lnum v)) {pp} (hs : PlainIx (.Constant (.int 1) j p) := by exact fun _ _ => rfl) : XV X (.Subscript a (.Constant (.int 1) j p) pp) ρ (.int v.nr) := xv_ixT h xv_int rfl hs
theorem xv_l2 (h : XV X a ρ (lnum v)) {pp} (hs : PlainIx (.Constant (.int 2) j p) := by exact fun _ _ => rfl) : XV X (.Subscript a (.Constant (.int 2) j p) pp) ρ (.int v.nw) := xv_ixT h xv_int rfl hs
end
def R_L2 (op : GQ → GQ → GQ) (m : Nat) : Rel := fun ds T => ∃ (x y : GQ) (n : Nat), ds = [lnum x, lnum y] ∧ 0 < n ∧ n ≤ m ∧ Bd n x ∧ Bd n y ∧ T = fun z => z = lnum (op x y)
theorem ok_Lplus (T : Tx P K mg) : Fk P w K mg base "_law_plus" 35 (R_L2 (· + ·) 60000000) := by
  obtain ⟨fd, F⟩ := T.F_Lplus
  refine mkFk F sc_Lplus T.g_Lplus ?_ ?_ (fun _ _ _ _ _ _ us hl => match us, hl with | [_, _], _ => rfl)
  · rintro ds S ⟨x, y, n, rfl, _⟩; rfl
  · rintro cdv A outer s H E hr ds S ⟨x, y, n, rfl, n0, n1, bx, by_, rfl⟩
    obtain ⟨x1, x2, x3⟩ := bx _ _ _ x.nn
    obtain ⟨y1, y2, y3⟩ := by_ _ _ _ y.nn
    have v0 : XV (cxD P w K mg base n_Lplus "_law_plus" (defScope s_Lplus) (d_Lplus.ad K) cdv A outer s H E) (.Name "_law_one" ⟨0, 0, 0, 0⟩) (startE n_Lplus [lnum x, lnum y]) (lnum x) := xv_var 0
    exact xss_one (xs_retv (xv_call (ok_Lnumber T) hr (xva_cons (xv_add (xv_mul (xv_l0 (xv_var 0)) (xv_l2 (xv_var 1)) (mul_ok' x1 y3)) (xv_mul (xv_l0 (xv_var 1)) (xv_l2 (xv_var 0)) (mul_ok' y1 x3))) (xva_cons (xv_add (xv_mul (xv_l1 (xv_var 0)) (xv_l2 (xv_var 1)) (mul_ok' x2 y3)) (xv_mul (xv_l1 (xv_var 1)) (xv_l2 (xv_var 0)) (mul_ok' y2 x3))) (xva_cons (xv_mul (xv_l2 (xv_var 0)) (xv_l2 (xv_var 1)) (mul_ok' x3 y3)) xva_nil))) ⟨_, _, _, _, rfl, x.nn.rep.add y.nn.rep, rfl⟩) ⟨rfl, rfl⟩)
def GQ.neg (x : GQ) : GQ := ⟨-x.re, -x.im⟩
theorem nrm.neg {l r w : Int} {x : GQ} (h : nrm l r w x) : nrm (0 - l) (0 - r) w x.neg := by
  obtain ⟨a, b, c, d⟩ := h
  refine ⟨a, ?_, ?_, ?_⟩
  · have e : (0 - r).natAbs = r.natAbs := by omega
    have e2 : (0 - l).natAbs = l.natAbs := by omega
    rw [e, e2]; exact b
  · show (-x.re) * (w : Rat) = _
    rw [Rat.intCast_sub, ← c]; grind
  · show (-x.im) * (w : Rat) = _
    rw [Rat.intCast_sub, ← d]; grind
theorem GQ.sub_eq (x y : GQ) : x + y.neg = x - y := GQ.ext' (by show x.re + -y.re = x.re - y.re; grind) (by show x.im + -y.im = x.im - y.im; grind)
theorem Bd.neg {n : Nat} {x : GQ} (h : Bd n x) : Bd n x.neg := by
  obtain ⟨a, b, c⟩ := h _ _ _ x.nn
  exact x.nn.neg.rep.bd (by omega) (by omega) c
theorem ok_Lless (T : Tx P K mg) : Fk P w K mg base "_law_less" 36 (R_L2 (· - ·) 60000000) := by
  obtain ⟨fd, F⟩ := T.F_Lless
  refine mkFk F sc_Lless T.g_Lless ?_ ?_ (fun _ _ _ _ _ _ us hl => match us, hl with | [_, _], _ => rfl)
  · rintro ds S ⟨x, y, n, rfl, _⟩; rfl
  · rintro cdv A outer s H E hr ds S ⟨x, y, n, rfl, n0, n1, bx, by_, rfl⟩
    refine xss_one (xs_retv (xv_call (ok_Lplus T) hr (xva_cons (xv_var 0) (xva_cons (xv_to (xv_tup (xva_cons (xv_sub xv_int (xv_l0 (xv_var 1))) (xva_cons (xv_sub xv_int (xv_l1 (xv_var 1))) (xva_cons (xv_l2 (xv_var 1)) xva_nil)))) (lnum_of y.nn.neg)) xva_nil)) ⟨x, y.neg, n, rfl, n0, n1, bx, by_.neg, rfl⟩) ⟨?_, rfl⟩)
    show lnum (x + y.neg) = lnum (x - y)
    rw [GQ.sub_eq]
theorem ok_Ltimes (T : Tx P K mg) : Fk P w K mg base "_law_times" 35 (R_L2 (· * ·) 60000000) := by
  obtain ⟨fd, F⟩ := T.F_Ltimes
  refine mkFk F sc_Ltimes T.g_Ltimes ?_ ?_ (fun _ _ _ _ _ _ us hl => match us, hl with | [_, _], _ => rfl)
  · rintro ds S ⟨x, y, n, rfl, _⟩; rfl
  · rintro cdv A outer s H E hr ds S ⟨x, y, n, rfl, n0, n1, bx, by_, rfl⟩
    obtain ⟨x1, x2, x3⟩ := bx _ _ _ x.nn
    obtain ⟨y1, y2, y3⟩ := by_ _ _ _ y.nn
    refine xss_par 2 3 sc_Ltimes.nd (xv_sub (xv_mul (xv_l0 (xv_var 0)) (xv_l0 (xv_var 1)) (mul_ok' x1 y1)) (xv_mul (xv_l1 (xv_var 0)) (xv_l1 (xv_var 1)) (mul_ok' x2 y2))) (xv_add (xv_mul (xv_l0 (xv_var 0)) (xv_l1 (xv_var 1)) (mul_ok' x1 y2)) (xv_mul (xv_l1 (xv_var 0)) (xv_l0 (xv_var 1)) (mul_ok' x2 y1))) ?_
    exact xss_one (xs_retv (xv_call (ok_Lnumber T) hr (xva_cons (xv_var 2) (xva_cons (xv_var 3) (xva_cons (xv_mul (xv_l2 (xv_var 0)) (xv_l2 (xv_var 1)) (mul_ok' x3 y3)) xva_nil))) ⟨_, _, _, _, rfl, x.nn.rep.mul y.nn.rep, rfl⟩) ⟨rfl, rfl⟩)
def R_Lmirror : Rel := fun ds T => ∃ x : GQ, ds = [lnum x] ∧ T = fun z => z = lnum x.conj
theorem ok_Lmirror (T : Tx P K mg) : Fk P w K mg base "_law_mirror" 1 R_Lmirror := by
  obtain ⟨fd, F⟩ := T.F_Lmirror
  refine mkFk F sc_Lmirror T.g_Lmirror ?_ ?_ (fun _ _ _ _ _ _ us hl => match us, hl with | [_], _ => rfl)
  · rintro ds S ⟨x, rfl, _⟩; rfl
  · rintro cdv A outer s H E hr ds S ⟨x, rfl, rfl⟩
    exact xss_one (xs_retv (xv_tup (xva_cons (xv_l0 (xv_var 0)) (xva_cons (xv_sub xv_int (xv_l1 (xv_var 0))) (xva_cons (xv_l2 (xv_var 0)) xva_nil)))) ⟨lnum_of x.nn.conj, rfl⟩)
def R_Lsize : Rel := fun ds T => ∃ (x : GQ) (n : Nat), ds = [lnum x] ∧ 0 < n ∧ n ≤ 60000000 ∧ Bd n x ∧ T = fun z => z = lnum ⟨x.sz, 0⟩
theorem ok_Lsize (T : Tx P K mg) : Fk P w K mg base "_law_size" 35 R_Lsize := by
  obtain ⟨fd, F⟩ := T.F_Lsize
  refine mkFk F sc_Lsize T.g_Lsize ?_ ?_ (fun _ _ _ _ _ _ us hl => match us, hl with | [_], _ => rfl)
  · rintro ds S ⟨x, n, rfl, _⟩; rfl
  · rintro cdv A outer s H E hr ds S ⟨x, n, rfl, n0, n1, bx, rfl⟩
    obtain ⟨x1, x2, x3⟩ := bx _ _ _ x.nn
    exact xss_one (xs_retv (xv_call (ok_Lnumber T) hr (xva_cons (xv_add (xv_mul (xv_l0 (xv_var 0)) (xv_l0 (xv_var 0)) (mul_ok' x1 x1)) (xv_mul (xv_l1 (xv_var 0)) (xv_l1 (xv_var 0)) (mul_ok' x2 x2))) (xva_cons xv_int (xva_cons (xv_mul (xv_l2 (xv_var 0)) (xv_l2 (xv_var 0)) (mul_ok' x3 x3)) xva_nil))) ⟨_, _, _, _, rfl, rep_size x.nn.rep, rfl⟩) ⟨rfl, rfl⟩)
theorem bd_size {n : Nat} {x : GQ} (h : Bd n x) : Bd (2 * n + 1) ⟨x.sz, 0⟩ := by
  obtain ⟨x1, x2, x3⟩ := h _ _ _ x.nn
  refine (rep_size x.nn.rep).bd (lt_mono (add_lt (mul_lt x1 x1) (mul_lt x2 x2)) (by omega)) ?_ (lt_mono (mul_lt x3 x3) (by omega))
  show 0 < 2 ^ _
  exact Nat.pow_pos (by decide)
theorem rep_over {f0 f1 f2 s0 s1 s2 : Int} {x y : GQ} (hf : rep f0 f1 f2 (x * y.conj)) (hs : rep s0 s1 s2 ⟨y.sz, 0⟩) (hy : y ≠ GQ.ofInt 0) : rep (f0 * s2) (f1 * s2) (f2 * s0) (x / y) := by
  have p := hs.pos_l
  obtain ⟨a, b, c⟩ := hf
  obtain ⟨d, e, _⟩ := hs
  have e : y.sz * (s2 : Rat) = (s0 : Rat) := e
  have s0p := GQ.sz_pos hy
  refine ⟨Int.mul_pos a (p.mpr s0p), ?_, ?_⟩
  · rw [Rat.intCast_mul, Rat.intCast_mul, ← b, ← e, GQ.div_re, GQ.mul_re, GQ.conj_re, GQ.conj_im]
    have : y.sz ≠ 0 := by grind
    grind
  · rw [Rat.intCast_mul, Rat.intCast_mul, ← c, ← e, GQ.div_im, GQ.mul_im, GQ.conj_re, GQ.conj_im]
    have : y.sz ≠ 0 := by grind
    grind
def R_Lover : Rel := fun ds T => ∃ (x y : GQ) (n : Nat), ds = [lnum x, lnum y] ∧ y ≠ GQ.ofInt 0 ∧ 0 < n ∧ n ≤ 30000000 ∧ Bd n x ∧ Bd n y ∧ T = fun z => z = lnum (x / y)
theorem ok_Lover (T : Tx P K mg) : Fk P w K mg base "_law_over" 36 R_Lover := by
  obtain ⟨fd, F⟩ := T.F_Lover
  refine mkFk F sc_Lover T.g_Lover ?_ ?_ (fun _ _ _ _ _ _ us hl => match us, hl with | [_, _], _ => rfl)
  · rintro ds S ⟨x, y, n, rfl, _⟩; rfl
  · rintro cdv A outer s H E hr ds S ⟨x, y, n, rfl, y0, n0, n1, bx, by_, rfl⟩
    have b1 := bx.mul by_.conj
    have b2 := bd_size by_
    obtain ⟨x1, x2, x3⟩ := b1 _ _ _ (x * y.conj).nn
    obtain ⟨y1, y2, y3⟩ := b2 _ _ _ (GQ.nn ⟨y.sz, 0⟩)
    refine xss_par 2 3 sc_Lover.nd (xv_call (ok_Ltimes T) (hr.mono (by decide)) (xva_cons (xv_var 0) (xva_cons (xv_call (ok_Lmirror T) (hr.mono (by decide)) (xva_cons (xv_var 1) xva_nil) ⟨y, rfl, rfl⟩) xva_nil)) ⟨x, y.conj, n, rfl, n0, by omega, bx, by_.conj, rfl⟩) (xv_call (ok_Lsize T) (hr.mono (by decide)) (xva_cons (xv_var 1) xva_nil) ⟨y, n, rfl, n0, by omega, by_, rfl⟩) ?_
    exact xss_one (xs_retv (xv_call (ok_Lnumber T) (hr.mono (by decide)) (xva_cons (xv_mul (xv_l0 (xv_var 2)) (xv_l2 (xv_var 3)) (mul_ok' x1 y3)) (xva_cons (xv_mul (xv_l1 (xv_var 2)) (xv_l2 (xv_var 3)) (mul_ok' x2 y3)) (xva_cons (xv_mul (xv_l2 (xv_var 2)) (xv_l0 (xv_var 3)) (mul_ok' x3 y1)) xva_nil))) ⟨_, _, _, _, rfl, rep_over (x * y.conj).nn.rep (GQ.nn ⟨y.sz, 0⟩).rep y0, rfl⟩) ⟨rfl, rfl⟩)
end NL

/-! text DL11 -/
set_option Elab.async false
set_option linter.all false
set_option maxRecDepth 100000
set_option maxHeartbeats 4000000
/-! The D-layer: two-for comprehensions, in, +, slices, == of data. -/
namespace NL
open PySem PySem.Spec L2
section
variable {X : Cx} {ρ : Env} {S : D → Prop} {pos : Pos}
/-- .. with two fors -/
def tAnyBI (X : Cx) (scope : Scope) (tg e : Expr) : TI := fun σ H Q => ∃ ρ ds, (Blk X scope fun Y => XI Y tg e ρ ds) ∧ tDI X.K ρ ds σ H Q
theorem pi_anyB {scope : Scope} {tg e : Expr} : Blk X scope fun Y => PI Y tg e (tAnyBI X scope tg e) := fun s H C cl fp => ⟨fun pins s' σ H' R I ⟨_, _, h, q⟩ => (h s H C cl fp).run pins s' σ H' R I q⟩
theorem wipe_trans {L L1 : List Nat} {σ σ' : L2.St} (hv : ∀ i ∈ L1, i ∈ L) (c : Chg L1 (L2.wipe σ L1) σ') : L2.wipe σ' L = L2.wipe σ L := by
  apply List.ext_getElem?
  intro i
  by_cases h : i ∈ L
  · by_cases hl : i < σ.length
    · rw [wipe_in h hl, wipe_in h (by rw [c.1, wipe_length]; exact hl)]
    · rw [List.getElem?_eq_none (by rw [wipe_length, c.1, wipe_length]; omega), List.getElem?_eq_none (by rw [wipe_length]; omega)]
  · have h1 : i ∉ L1 := fun z => h (hv i z)
    rw [wipe_out h, wipe_out h, c.2 i h1, wipe_out h1]
/-- all that the slots hold is known for good -/
def knownE (ρ : Env) : Bool := ρ.all fun o => match o with
  | some d => noOl d
  | none => true
theorem Sl.known {K : PySem.W.Frag} {H0 G H H0' G' H' : Hp} {σ : L2.St} {ρ : Env} (h : Sl K H0 G H σ ρ) (k : knownE ρ = true) (e : Ex G G') : Sl K H0' G' H' σ ρ := by
  have kk : ∀ (i : Nat) d, ρ[i]? = some (some d) → noOl d = true := fun i d q => List.all_eq_true.mp k (some d) (List.mem_of_getElem? q)
  refine ⟨h.len, fun i d q => ?_, fun i j d f p n a b n1 n2 c c' => ?_⟩
  · obtain ⟨v, hv, iv⟩ := h.at_ i d q
    exact ⟨v, hv, Is.of ((iv.da (kk i d q)).mono e)⟩
  · rw [kk i d a] at n1; cases n1
theorem xf_lc2 {elt tg iter tg1 iter1 : Expr} {scope : Scope} {own : List (Str × Nat)} {vs1 : List Nat} {τ τ1 : D → Env → Env → Prop} {ds : List D} (es : D → List D) (f : D → D → D) (hc : X.calm = true) (hN : X.N.Nodup) (hi : XI X tg iter ρ ds) (ok : BlkOk X.N X.env.scope scope own) (hv : ∀ i ∈ vs1, i ∈ own.map (·.2))
    (hg : Blk X scope fun Y => XG Y tg τ (own.map (·.2))) (hg1 : Blk X scope fun Y => XG Y tg1 τ1 vs1) (hl : ds.length ≤ 100) (hl1 : ∀ d ∈ ds, (es d).length ≤ 100)
    (hs : ∀ d, d ∈ ds → ∃ ρ2, τ d (wipeE ρ (own.map (·.2))) ρ2 ∧ knownE ρ2 = true ∧ (Blk X scope fun Y => XI Y tg1 iter1 ρ2 (es d)) ∧ ∀ e, e ∈ es d → ∃ ρ3, τ1 e (wipeE ρ2 vs1) ρ3 ∧ noOl (f d e) = true ∧ (Blk X scope fun Y => PE Y elt (tD X.K ρ3 (fun z => z = f d e))))
    (hf : ∀ x, foldedSetIterable iter X.env x = pure x := by intro _; rfl) (hf1 : ∀ env x, foldedSetIterable iter1 env x = pure x := by intro _ _; rfl) :
    XF X (.ListComp elt [⟨tg, iter, [], 0⟩, ⟨tg1, iter1, [], 0⟩] scope pos) ρ (fun z => z = ds.flatMap fun d => (es d).map (f d)) := by
  refine pe_imp (pe_lc2 (g := tDG X.K τ (own.map (·.2))) (g1 := tDG X.K τ1 vs1) (tt := tAnyBT X scope []) (tt1 := tAnyBT X scope []) (wi1 := tAnyBI X scope tg1 iter1) (te := tAnyB X scope elt) hc hN hi ok hv hg pts_anyB pi_anyB hg1 pts_anyB pe_anyB hf hf1) fun σ H Q ⟨G, H0, l, sl, k⟩ => ⟨G, H0, l, sl, fun G' H' J t wk DD hD => ?_⟩
  have hD0 : H DD = none := t.fresh0 hD
  have t0 : Tr G H G' (upd H' DD (.lst [])) := t.trans (Tr.own t.ok hD)
  have pv : ∀ {Ga Ha Gb Hb : Hp} {ws : List V}, Tr Ga Ha Gb Hb → Ga DD = none → Ha DD = some (.lst ws) → Gb DD = none ∧ Hb DD = some (.lst ws) := fun t g h => ⟨t.pv _ _ h g, t.hh _ _ h (by rw [g]; exact fun z => nomatch z)⟩
  have tot : ∀ n, ((ds.take n).flatMap fun d => (es d).map (f d)).length ≤ 100 * n := fun n => by
    induction n with
    | zero => simp
    | succ n ih =>
      rw [List.take_add_one, List.flatMap_append, List.length_append]
      have : ((ds[n]?.toList).flatMap fun d => (es d).map (f d)).length ≤ 100 := by
        cases q : ds[n]? with
        | none => simp
        | some d => simpa using hl1 d (List.mem_of_getElem? q)
      omega
  refine ⟨fun i m H1 => m = ds.length - i ∧ i ≤ ds.length ∧ ∃ G1 vs, Tr G H G1 H1 ∧ Ex G' G1 ∧ G1 DD = none ∧ H1 DD = some (.lst vs) ∧ DaL X.K G1 vs ((ds.take i).flatMap fun d => (es d).map (f d)),
    ⟨ds.length, rfl, Nat.zero_le _, G', [], t0, Ex.refl _, t.ok.none hD, upd_same, DaL.nil⟩, ?_⟩
  rintro i m H1 ⟨rfl, hi, G1, vs, t1, ex1, g1, h1, d1⟩
  obtain ⟨go, st⟩ := wk G1 H1 i ex1 t1.ok
  by_cases hlt : i < ds.length
  · obtain ⟨go1, go2⟩ := go ds[i] (by simp [hlt])
    refine .inr ⟨go1, fun H2 => i < ds.length ∧ ∃ G1 vs, Tr G H G1 H2 ∧ Ex G' G1 ∧ G1 DD = none ∧ H2 DD = some (.lst vs) ∧ DaL X.K G1 vs ((ds.take (i + 1)).flatMap fun d => (es d).map (f d)), fun H2 ⟨a, b⟩ => ⟨ds.length - (i + 1), by omega, rfl, by omega, b⟩, fun x H2 y => ?_⟩
    obtain ⟨G2, t2, da⟩ := go2 x H2 y
    obtain ⟨g2, h2⟩ := pv t2 g1 h1
    obtain ⟨ρ2, hτ, hk2, hX, hE⟩ := hs ds[i] (List.getElem_mem hlt)
    refine ⟨G2, H0, wipeE ρ (own.map (·.2)), _, ρ2, t2.ok, (sl.mono (t1.trans t2)).wipe _, da, hτ, fun σ3 sl3 c3 => ⟨c3.wipe, ?_⟩⟩
    refine ⟨ρ2, _, fun _ _ _ _ _ => xts_nil, G2, H0, t2.ok, sl3, fun G3 H3 z t3 e => ?_⟩
    subst e
    obtain ⟨g3, h3⟩ := pv t3 g2 h2
    refine iteT ⟨ρ2, es ds[i], hX, G3, H0, t3.ok, sl3.mono t3, fun G4 H4 J1 t4 wk1 => ?_⟩
    obtain ⟨g4, h4⟩ := pv t4 g3 h3
    have tA := ((t1.trans t2).trans t3).trans t4
    have eA := ((ex1.trans t2.gg).trans t3.gg).trans t4.gg
    have esd := sl3.mono (t3.trans t4)
    refine ⟨fun j m H5 => m = (es ds[i]).length - j ∧ j ≤ (es ds[i]).length ∧ ∃ G5 vs, Tr G H G5 H5 ∧ Ex G4 G5 ∧ Ex G' G5 ∧ Sl X.K H0 G5 H5 σ3 ρ2 ∧ G5 DD = none ∧ H5 DD = some (.lst vs) ∧ DaL X.K G5 vs (((ds.take i).flatMap fun d => (es d).map (f d)) ++ ((es ds[i]).take j).map (f ds[i])),
      ⟨_, rfl, Nat.zero_le _, G4, vs, tA, Ex.refl _, eA, esd, g4, h4, by simpa using (d1.mono ((t2.gg.trans t3.gg).trans t4.gg))⟩, ?_⟩
    rintro j m H5 ⟨rfl, hj, G5, ws, t5, ex5, ex5', sl5, g5, h5, d5⟩
    obtain ⟨gq, stq⟩ := wk1 G5 H5 j ex5 t5.ok
    by_cases hjl : j < (es ds[i]).length
    · obtain ⟨gq1, gq2⟩ := gq (es ds[i])[j] (by simp [hjl])
      refine .inr ⟨gq1, fun H6 => j < (es ds[i]).length ∧ ∃ G5 vs, Tr G H G5 H6 ∧ Ex G4 G5 ∧ Ex G' G5 ∧ Sl X.K H0 G5 H6 σ3 ρ2 ∧ G5 DD = none ∧ H6 DD = some (.lst vs) ∧ DaL X.K G5 vs (((ds.take i).flatMap fun d => (es d).map (f d)) ++ ((es ds[i]).take (j + 1)).map (f ds[i])), fun H6 ⟨a, b⟩ => ⟨_, by omega, rfl, by omega, b⟩, fun x H6 y => ?_⟩
      obtain ⟨G6, t6, da6⟩ := gq2 x H6 y
      obtain ⟨g6, h6⟩ := pv t6 g5 h5
      obtain ⟨ρ3, hτ3, hn3, hE3⟩ := hE (es ds[i])[j] (List.getElem_mem hjl)
      refine ⟨G6, H0, wipeE ρ2 vs1, _, ρ3, t6.ok, (sl5.mono t6).wipe _, da6, hτ3, fun σ6 sl6 c6 => ⟨c6.wipe, ?_⟩⟩
      refine ⟨ρ3, _, fun _ _ _ _ _ => xts_nil, G6, H0, t6.ok, sl6, fun G7 H7 z t7 e => ?_⟩
      subst e
      obtain ⟨g7, h7⟩ := pv t7 g6 h6
      refine iteT ⟨ρ3, _, hE3, G7, H0, t7.ok, sl6.mono t7, fun G8 H8 v e t8 i8 s8 => ?_⟩
      subst s8
      obtain ⟨g8, h8⟩ := pv t8 g7 h7
      have dl8 := d5.mono ((t6.gg.trans t7.gg).trans t8.gg)
      refine ⟨ws, h8, ?_, hjl, G8, ws ++ [v], ((((t5.trans t6).trans t7).trans t8).mut hD0 g8), ((ex5.trans t6.gg).trans t7.gg).trans t8.gg, ((ex5'.trans t6.gg).trans t7.gg).trans t8.gg, ?_, g8, upd_same, ?_⟩
      · rw [d5.1, List.length_append, List.length_map, List.length_take]
        have a := tot i
        have b := hl1 _ (List.getElem_mem hlt)
        exact Nat.lt_of_le_of_lt (show _ ≤ 20000 by omega) (by decide)
      · exact sl5.known hk2 ((t6.gg.trans t7.gg).trans t8.gg)
      · have e9 : ((es ds[i]).take (j + 1)).map (f ds[i]) = ((es ds[i]).take j).map (f ds[i]) ++ [f ds[i] (es ds[i])[j]] := by
          rw [List.take_add_one, List.getElem?_eq_getElem hjl, List.map_append]; rfl
        rw [e9, ← List.append_assoc]
        exact dl8.snoc (i8.da hn3)
    · have e : j = (es ds[i]).length := by omega
      subst e
      refine .inl ⟨stq (Nat.le_refl _), hlt, G5, ws, t5, ex5', g5, h5, ?_⟩
      rw [List.take_add_one, List.flatMap_append]
      rw [List.take_length] at d5
      simpa [hlt] using d5
  · have e : i = ds.length := by omega
    subst e
    rw [List.take_length] at d1
    exact .inl ⟨st (Nat.le_refl _), k G1 H1 DD vs _ t1 hD0 g1 h1 d1 rfl⟩
end
end NL

/-! text P5 -/
set_option Elab.async false
set_option linter.all false
set_option maxRecDepth 100000
set_option maxHeartbeats 4000000
/-! The table of a telling: the program's. -/
namespace NL
open PySem PySem.Spec L2
open PyProof.Rows (envOfC)
variable {P : Program} {w : World} {K : PySem.W.Frag} {mg : Str → Option Value} {base : Heap}
def fac : Nat → Nat
  | 0 => 1
  | n + 1 => (n + 1) * fac n
theorem fac_le {n : Nat} (h : n ≤ 4) : fac n ≤ 24 := by
  match n, h with
  | 0, _ => decide
  | 1, _ => decide
  | 2, _ => decide
  | 3, _ => decide
  | 4, _ => decide
theorem fac_pos : ∀ n, 0 < fac n
  | 0 => Nat.one_pos
  | n + 1 => Nat.mul_pos (Nat.succ_pos n) (fac_pos n)
def R_fac : Rel := fun ds T => ∃ n : Nat, ds = [.int (n : Int)] ∧ n ≤ 4 ∧ T = fun z => z = .int (fac n : Nat)
theorem fac_step (i : Nat) : ((fac (i + 1) : Nat) : Int) * (2 + (i : Nat)) = (fac (i + 2) : Nat) := by
  show _ = (((i + 2) * fac (i + 1) : Nat) : Int)
  rw [Int.natCast_mul, Int.mul_comm]
  congr 1
  omega
theorem ok_product_to (T : Tx P K mg) : Fk P w K mg base "product_to" 1 R_fac := by
  obtain ⟨fd, F⟩ := T.F_product_to
  refine mkFk F sc_product_to T.g_product_to ?_ ?_ (fun _ _ _ _ _ _ us hl => match us, hl with | [_], _ => rfl)
  · rintro ds S ⟨n, rfl, _⟩; rfl
  · rintro cdv A outer s H E hr ds S ⟨n, rfl, hn, rfl⟩
    refine xss_set 1 sc_product_to.nd xv_int ?_
    refine xss_cons (M := fun z => ∃ o, z = [some (.int (n : Int)), some (.int (fac n : Nat)), o]) (xs_for (L := [2]) PassesOwn.never rfl (xi_range2 T.b_range xv_int (xv_add (xv_var 0) xv_int) (m := n - 1) (by omega) (by omega)) (xg_name 2 sc_product_to.nd) (fun i z => ∃ o, z = [some (.int (n : Int)), some (.int (fac (i + 1) : Nat)), o]) ⟨none, rfl⟩ ?_ ?_) ?_
    · rintro i d ρ1 hd ⟨o, rfl⟩
      obtain ⟨h1, rfl⟩ := rng_at hd
      refine ⟨_, rfl, xss_one ?_⟩
      have hb := fac_le (n := i + 1) (by omega)
      refine xs_set 1 (xv_mul (xv_var 1) (xv_var 2) (mul_ok' (a := 8) (b := 8) ?_ ?_)) (fun _ e => by subst e; exact ⟨rfl, ⟨some (.int (2 + (i : Nat))), by rw [fac_step]; rfl⟩⟩) sc_product_to.nd
      · rw [Int.natAbs_natCast]; omega
      · omega
    · rintro ρ1 ⟨o, rfl⟩
      refine ⟨o, ?_⟩
      rw [rng_len]
      by_cases h0 : n = 0
      · subst h0; rfl
      · have : n - 1 + 1 = n := by omega
        rw [this]
    · rintro ρ1 ⟨o, rfl⟩
      exact xss_one (xs_retv (xv_var 1) ⟨rfl, rfl⟩)
theorem ok_Lfactorial (T : Tx P K mg) : Fk P w K mg base "_law_factorial" 1 R_fac := by
  obtain ⟨fd, F⟩ := T.F_Lfactorial
  refine mkFk F sc_Lfactorial T.g_Lfactorial ?_ ?_ (fun _ _ _ _ _ _ us hl => match us, hl with | [_], _ => rfl)
  · rintro ds S ⟨n, rfl, _⟩; rfl
  · rintro cdv A outer s H E hr ds S ⟨n, rfl, hn, rfl⟩
    refine xss_set 1 sc_Lfactorial.nd xv_int ?_
    refine xss_cons (M := fun z => ∃ o, z = [some (.int (n : Int)), some (.int (fac n : Nat)), o]) (xs_for (L := [2]) PassesOwn.never rfl (xi_range2 T.b_range xv_int (xv_add (xv_var 0) xv_int) (m := n - 1) (by omega) (by omega)) (xg_name 2 sc_Lfactorial.nd) (fun i z => ∃ o, z = [some (.int (n : Int)), some (.int (fac (i + 1) : Nat)), o]) ⟨none, rfl⟩ ?_ ?_) ?_
    · rintro i d ρ1 hd ⟨o, rfl⟩
      obtain ⟨h1, rfl⟩ := rng_at hd
      refine ⟨_, rfl, xss_one ?_⟩
      have hb := fac_le (n := i + 1) (by omega)
      refine xs_set 1 (xv_mul (xv_var 1) (xv_var 2) (mul_ok' (a := 8) (b := 8) ?_ ?_)) (fun _ e => by subst e; exact ⟨rfl, ⟨some (.int (2 + (i : Nat))), by rw [fac_step]; rfl⟩⟩) sc_Lfactorial.nd
      · rw [Int.natAbs_natCast]; omega
      · omega
    · rintro ρ1 ⟨o, rfl⟩
      refine ⟨o, ?_⟩
      rw [rng_len]
      by_cases h0 : n = 0
      · subst h0; rfl
      · have : n - 1 + 1 = n := by omega
        rw [this]
    · rintro ρ1 ⟨o, rfl⟩
      exact xss_one (xs_retv (xv_var 1) ⟨rfl, rfl⟩)

/-! ### entry -/
def tTerm (z w s : GQ) (j l m : Nat) : GQ := ((w.conj.pow (j - m) * z.pow (l - m)) * s.pow (j + l - m + 1)) * GQ.ofInt ((fac (j + l - m) / (fac (j - m) * fac (l - m)) / fac m : Nat) : Int)
def tSum (z w s : GQ) (j l : Nat) : Nat → GQ
  | 0 => GQ.ofInt 0
  | m + 1 => tSum z w s j l m + tTerm z w s j l m
def nearG (z w : GQ) : GQ := GQ.ofInt 1 - z * w.conj
def entryP (z w : GQ) (j l : Nat) : GQ := tSum z w (GQ.ofInt 1 / nearG z w) j l (min j l + 1)
theorem sz_mul (x y : GQ) : (x * y).sz = x.sz * y.sz := by
  rw [GQ.sz_eq, GQ.sz_eq, GQ.sz_eq, GQ.mul_re, GQ.mul_im]; grind
theorem sz_conj (x : GQ) : x.conj.sz = x.sz := by
  rw [GQ.sz_eq, GQ.sz_eq, GQ.conj_re, GQ.conj_im]; grind
theorem near_ne {z w : GQ} (hz : z.sz < 1) (hw : w.sz < 1) : nearG z w ≠ GQ.ofInt 0 := fun e => by
  have e1 : z * w.conj = GQ.ofInt 1 := by
    have h1 : (nearG z w).re = 0 := by rw [e]; rfl
    have h2 : (nearG z w).im = 0 := by rw [e]; rfl
    unfold nearG at h1 h2
    rw [GQ.sub_re] at h1
    rw [GQ.sub_im] at h2
    have i1 : (GQ.ofInt 1).re = 1 := rfl
    have i2 : (GQ.ofInt 1).im = 0 := rfl
    exact GQ.ext' (by grind) (by grind)
  have e2 : z.sz * w.sz = 1 := by
    have := sz_mul z w.conj
    rw [e1, sz_conj] at this
    rw [← this]
    rw [GQ.sz_eq]
    have i1 : (GQ.ofInt 1).re = 1 := rfl
    have i2 : (GQ.ofInt 1).im = 0 := rfl
    rw [i1, i2]; grind
  have a := GQ.sz_nonneg z
  have b := GQ.sz_nonneg w
  have : z.sz * w.sz ≤ z.sz * 1 := Rat.mul_le_mul_of_nonneg_left (by grind) a
  grind
theorem bd_near {z w : GQ} (bz : Bd 3 z) (bw : Bd 3 w) : Bd 9 (nearG z w) := (Bd.sub (bd_int (n := 1) (k := 1) (by decide) (by decide)) (bz.mul bw.conj)).mono (by decide)
theorem bd_share {z w : GQ} (bz : Bd 3 z) (bw : Bd 3 w) (hz : z.sz < 1) (hw : w.sz < 1) : Bd 20 (GQ.ofInt 1 / nearG z w) := (Bd.div (bd_int (n := 1) (k := 1) (by decide) (by decide)) (bd_near bz bw) (near_ne hz hw)).mono (by decide)
theorem bd_pow1 {x : GQ} {n k : Nat} (b : Bd n x) (h : k ≤ 1) : Bd (n + 2) (x.pow k) := (b.pow k).mono (by
  have := Nat.mul_le_mul_right (n + 1) h
  omega)
theorem bd_pow3 {x : GQ} {n k : Nat} (b : Bd n x) (h : k ≤ 3) : Bd (3 * n + 4) (x.pow k) := (b.pow k).mono (by
  have := Nat.mul_le_mul_right (n + 1) h
  omega)
theorem ways_le {j l m : Nat} (hj : j ≤ 1) (hl : l ≤ 1) : fac (j + l - m) / (fac (j - m) * fac (l - m)) / fac m ≤ 24 := Nat.le_trans (Nat.div_le_self _ _) (Nat.le_trans (Nat.div_le_self _ _) (fac_le (by omega)))
theorem bd_term {z w s : GQ} {j l m : Nat} (bz : Bd 3 z) (bw : Bd 3 w) (bs : Bd 20 s) (hj : j ≤ 1) (hl : l ≤ 1) : Bd 82 (tTerm z w s j l m) := by
  have h := ways_le (j := j) (l := l) (m := m) hj hl
  have b1 : Bd 5 (GQ.ofInt ((fac (j + l - m) / (fac (j - m) * fac (l - m)) / fac m : Nat) : Int)) := bd_int (by rw [Int.natAbs_natCast]; omega) (by decide)
  exact (((bd_pow1 bw.conj (by omega)).mul (bd_pow1 bz (by omega))).mul (bd_pow3 bs (by omega)) |>.mul b1).mono (by decide)
theorem bd_tSum {z w s : GQ} {j l : Nat} (bz : Bd 3 z) (bw : Bd 3 w) (bs : Bd 20 s) (hj : j ≤ 1) (hl : l ≤ 1) : ∀ n, Bd (1 + 83 * n) (tSum z w s j l n)
  | 0 => bd_int (n := 0) (by decide) (by decide)
  | n + 1 => ((bd_tSum bz bw bs hj hl n).add (bd_term bz bw bs hj hl)).mono (by omega)
/-- a point: small, within the circle -/
structure PtOk (z : GQ) : Prop where
  bd : Bd 3 z
  lt : z.sz < 1
theorem bd_entry {z w : GQ} {j l : Nat} (hz : PtOk z) (hw : PtOk w) (hj : j ≤ 1) (hl : l ≤ 1) : Bd 170 (entryP z w j l) := (bd_tSum hz.bd hw.bd (bd_share hz.bd hw.bd hz.lt hw.lt) hj hl _).mono (by omega)
def R_entry : Rel := fun ds T => ∃ (z w : GQ) (j l : Nat), ds = [.num z, .int (j : Int), .num w, .int (l : Int)] ∧ PtOk z ∧ PtOk w ∧ j ≤ 1 ∧ l ≤ 1 ∧ T = fun y => y = .num (entryP z w j l)
theorem min_nat (j l : Nat) : (if (l : Int) < (j : Int) then (l : Int) else (j : Int)) = ((min j l : Nat) : Int) := by
  split <;> omega
theorem ok_entry (T : Tx P K mg) : Fk P w K mg base "entry" 40 R_entry := by
  obtain ⟨fd, F⟩ := T.F_entry
  refine mkFk F sc_entry T.g_entry ?_ ?_ (fun _ _ _ _ _ _ us hl => match us, hl with | [_, _, _, _], _ => rfl)
  · rintro ds S ⟨z, w, j, l, rfl, _⟩; rfl
  · rintro cdv A outer s H E hr ds S ⟨z, y, j, l, rfl, hz, hy, hj, hl, rfl⟩
    have pl := plain_cx (P := P) (w := w) (K := K) (mg := mg) (base := base) (N := n_entry) (qual := "entry") (scope := defScope s_entry) (f := d_entry.ad K) (cdv := cdv) (A := A) (outer := outer) (s := s) (H := H) (E := E) ⟨rfl, rfl⟩
    have b1 : Bd 1 (GQ.ofInt 1) := bd_int (by decide) (by decide)
    have bs := bd_share hz.bd hy.bd hz.lt hy.lt
    refine xss_set 4 sc_entry.nd (xv_meth0 (ok_mirror T) (hr.mono (by decide)) (xv_var 2) insNum rfl ⟨y, rfl, rfl⟩) ?_
    refine xss_set 5 sc_entry.nd (xv_meth (ok_over T) (hr.mono (by decide)) (xv_call0 (ok_one T) (hr.mono (by decide)) ⟨rfl, rfl⟩) insNum rfl (xva_cons (xv_tsub (ok_sub T) (hr.mono (by decide)) T (xv_call0 (ok_one T) (hr.mono (by decide)) ⟨rfl, rfl⟩) (xv_tmul (ok_mul T) (hr.mono (by decide)) T (xv_var 0) (xv_var 4) hz.bd hy.bd.conj (by decide) (by decide)) (b1.mono (show 1 ≤ 7 by decide)) (hz.bd.mul hy.bd.conj) (by decide) (by decide)) xva_nil) ⟨_, _, _, 9, rfl, .inl rfl, near_ne hz.lt hy.lt, by decide, by decide, b1.mono (by decide), bd_near hz.bd hy.bd, rfl⟩ rfl) ?_
    refine xss_set 6 sc_entry.nd (xv_call0 (ok_nought T) (hr.mono (by decide)) ⟨rfl, rfl⟩) ?_
    refine xss_cons (M := fun ρ => ∃ o1 o2 o3, ρ = [some (.num z), some (.int (j : Int)), some (.num y), some (.int (l : Int)), some (.num y.conj), some (.num (GQ.ofInt 1 / nearG z y)), some (.num (entryP z y j l)), o1, o2, o3]) (xs_for (L := [7]) PassesOwn.never rfl (xi_range1 T.b_range (xv_add (xv_min2 rfl T.b_min (xv_var 1) (xv_var 3)) xv_int) (m := min j l + 1) (by rw [min_nat]; omega) (by rw [min_nat]; omega)) (xg_name 7 sc_entry.nd) (fun i ρ => ∃ o1 o2 o3, ρ = [some (.num z), some (.int (j : Int)), some (.num y), some (.int (l : Int)), some (.num y.conj), some (.num (GQ.ofInt 1 / nearG z y)), some (.num (tSum z y (GQ.ofInt 1 / nearG z y) j l i)), o1, o2, o3]) ⟨none, none, none, rfl⟩ ?_ ?_) ?_
    · rintro i d ρ1 hd ⟨o1, o2, o3, rfl⟩
      obtain ⟨h1, rfl⟩ := rng_at hd
      rw [show (0 : Int) + (i : Nat) = (i : Int) by omega]
      have hij : i ≤ j := by omega
      have hil : i ≤ l := by omega
      have c1 : (j : Int) - (i : Int) = ((j - i : Nat) : Int) := by omega
      have c2 : (l : Int) - (i : Int) = ((l - i : Nat) : Int) := by omega
      have c3 : (j : Int) + (l : Int) - (i : Int) = ((j + l - i : Nat) : Int) := by omega
      have fp1 := fac_pos (j - i)
      have fp2 := fac_pos (l - i)
      have fp3 := fac_pos i
      have fl1 := fac_le (n := j - i) (by omega)
      have fl2 := fac_le (n := l - i) (by omega)
      refine ⟨_, rfl, ?_⟩
      refine xss_set 8 sc_entry.nd (d := .int ((fac (j + l - i) / (fac (j - i) * fac (l - i)) : Nat) : Int)) (xv_to (xv_fdivL (k := 0) (i := ((fac (j + l - i) : Nat) : Int)) (j := ((fac (j - i) : Nat) : Int) * ((fac (l - i) : Nat) : Int)) (xv_call (ok_product_to T) (hr.mono (by decide)) (xva_cons (xv_to (xv_sub (xv_add (xv_var 1) (xv_var 3)) (xv_var 7)) (congrArg D.int c3)) xva_nil) ⟨_, rfl, by omega, rfl⟩) (xv_mul (xv_call (ok_product_to T) (hr.mono (by decide)) (xva_cons (xv_to (xv_sub (xv_var 1) (xv_var 7)) (congrArg D.int c1)) xva_nil) ⟨_, rfl, by omega, rfl⟩) (xv_call (ok_product_to T) (hr.mono (by decide)) (xva_cons (xv_to (xv_sub (xv_var 3) (xv_var 7)) (congrArg D.int c2)) xva_nil) ⟨_, rfl, by omega, rfl⟩) (mul_ok' (a := 8) (b := 8) (by rw [Int.natAbs_natCast]; omega) (by rw [Int.natAbs_natCast]; omega))) (Int.mul_pos (by omega) (by omega)) T.seer T.tree (hr.mono (by decide)) pl) ?_) ?_
      · rw [Int.natCast_ediv, Int.natCast_mul]
      refine xss_set 9 sc_entry.nd (xv_tmul (ok_mul T) (hr.mono (by decide)) T (xv_tmul (ok_mul T) (hr.mono (by decide)) T (xv_meth (ok_power T) hr (xv_var 4) insNum rfl (xva_cons (xv_to (xv_sub (xv_var 1) (xv_var 7)) (congrArg D.int c1)) xva_nil) ⟨_, _, 3, rfl, by omega, hy.bd.conj, by decide, rfl⟩ rfl) (xv_meth (ok_power T) hr (xv_var 0) insNum rfl (xva_cons (xv_to (xv_sub (xv_var 3) (xv_var 7)) (congrArg D.int c2)) xva_nil) ⟨_, _, 3, rfl, by omega, hz.bd, by decide, rfl⟩ rfl) (bd_pow1 hy.bd.conj (by omega)) (bd_pow1 hz.bd (by omega)) (by decide) (by decide)) (xv_meth (ok_power T) hr (xv_var 5) insNum rfl (xva_cons (xv_to (xv_add (xv_sub (xv_add (xv_var 1) (xv_var 3)) (xv_var 7)) xv_int) (congrArg D.int (show _ = ((j + l - i + 1 : Nat) : Int) by omega))) xva_nil) ⟨_, _, 20, rfl, by omega, bs, by decide, rfl⟩ rfl) (((bd_pow1 hy.bd.conj (by omega)).mul (bd_pow1 hz.bd (by omega))).mono (show _ ≤ 64 by decide)) (bd_pow3 bs (by omega)) (by decide) (by decide)) ?_
      have hw := ways_le (j := j) (l := l) (m := i) hj hl
      have bI : Bd 5 (GQ.ofInt ((fac (j + l - i) / (fac (j - i) * fac (l - i)) / fac i : Nat) : Int)) := bd_int (by rw [Int.natAbs_natCast]; omega) (by decide)
      have bP := ((bd_pow1 hy.bd.conj (k := j - i) (by omega)).mul (bd_pow1 hz.bd (k := l - i) (by omega))).mul (bd_pow3 bs (k := j + l - i + 1) (by omega))
      refine xss_one (xs_set 6 (xv_tadd (ok_add T) (hr.mono (by decide)) T (xv_var 6) (xv_tmulI (ok_mul T) (hr.mono (by decide)) T (xv_var 9) (xv_to (xv_fdivL (k := 0) (xv_var 8) (xv_call (ok_product_to T) (hr.mono (by decide)) (xva_cons (xv_var 7) xva_nil) ⟨_, rfl, by omega, rfl⟩) (by omega) T.seer T.tree (hr.mono (by decide)) pl) (congrArg D.int (show _ = ((fac (j + l - i) / (fac (j - i) * fac (l - i)) / fac i : Nat) : Int) by simp only [Int.natCast_ediv]))) bP (bI.mono (by decide)) (by decide) (by decide)) ((bd_tSum hz.bd hy.bd bs hj hl i).mono (show 1 + 83 * i ≤ 400 by omega)) ((bd_term hz.bd hy.bd bs hj hl).mono (by decide)) (by decide) (by decide)) (fun _ e => by subst e; exact ⟨rfl, _, _, _, rfl⟩) sc_entry.nd)
    · rintro ρ1 ⟨o1, o2, o3, rfl⟩
      exact ⟨o1, o2, o3, by rw [rng_len]; rfl⟩
    · rintro ρ1 ⟨o1, o2, o3, rfl⟩
      exact xss_one (xs_retv (xv_var 6) ⟨rfl, rfl⟩)
end NL

/-! text DL12 -/
set_option Elab.async false
set_option linter.all false
set_option maxRecDepth 100000
set_option maxHeartbeats 4000000
/-! The D-layer: data of ints, lists and tuples: ==, !=, in, index. -/
namespace NL
open PySem PySem.Spec L2
noncomputable instance : DecidableEq D := fun _ _ => Classical.propDecidable _
/-- ints, and lists and tuples of such, n deep -/
def pdD : Nat → D → Bool
  | _, .int _ => true
  | n + 1, .lst ds => ds.all (pdD n)
  | n + 1, .tup ds => ds.all (pdD n)
  | _, _ => false
def pd : Nat → D → PyData
  | _, .int i => .int i
  | n + 1, .lst ds => .list (ds.map (pd n))
  | n + 1, .tup ds => .tuple (ds.map (pd n))
  | _, _ => .none
theorem pd_dp {K : PySem.W.Frag} {G H : Hp} (l : Le G H) : ∀ (n : Nat) {d : D} {v : V}, pdD n d = true → Da K G v d → Dp K H v (pd n d)
  | n, .int i, v, h, a => by
    cases a
    cases n <;> exact .int i
  | n + 1, .lst ds, v, h, a => by
    cases a with
    | @lst p vs _ e1 e2 e3 =>
      have h : ds.all (pdD n) = true := h
      have key : ∀ (vs : List V) (ds : List D), DaL K G vs ds → ds.all (pdD n) = true → DpAll K H vs (ds.map (pd n)) := by
        intro vs ds
        induction ds generalizing vs with
        | nil => intro d _; rw [d.cases_nil]; exact .nil
        | cons d ds ih =>
          intro dl hh
          obtain ⟨v, vs', rfl, h1, h2⟩ := dl.cases_cons
          rw [List.all_cons, Bool.and_eq_true] at hh
          exact .cons (pd_dp l n hh.1 h1) (ih vs' h2 hh.2)
      exact .lst (SqL.of (l.at_ _ _ e1 pot_lst)) (key _ _ ⟨e2, e3⟩ h)
  | n + 1, .tup ds, v, h, a => by
    cases a with
    | @tup p vs _ e1 e2 e3 =>
      have h : ds.all (pdD n) = true := h
      have key : ∀ (vs : List V) (ds : List D), DaL K G vs ds → ds.all (pdD n) = true → DpAll K H vs (ds.map (pd n)) := by
        intro vs ds
        induction ds generalizing vs with
        | nil => intro d _; rw [d.cases_nil]; exact .nil
        | cons d ds ih =>
          intro dl hh
          obtain ⟨v, vs', rfl, h1, h2⟩ := dl.cases_cons
          rw [List.all_cons, Bool.and_eq_true] at hh
          exact .cons (pd_dp l n hh.1 h1) (ih vs' h2 hh.2)
      exact .tup (SqT.of (l.at_ _ _ e1 pot_tup)) (key _ _ ⟨e2, e3⟩ h)
  | 0, .lst ds, v, h, a => by cases h
  | 0, .tup ds, v, h, a => by cases h
  | n, .non, v, h, a => by cases n <;> cases h
  | n, .bl b, v, h, a => by cases n <;> cases h
  | n, .str b, v, h, a => by cases n <;> cases h
  | n, .ty b, v, h, a => by cases n <;> cases h
  | n, .num b, v, h, a => by cases n <;> cases h
  | n, .rat b, v, h, a => by cases n <;> cases h
  | n, .parts _ _ _, v, h, a => by cases n <;> cases h
  | n, .dict, v, h, a => by cases n <;> cases h
  | n, .pot, v, h, a => by cases n <;> cases h
  | n, .cls _, v, h, a => by cases n <;> cases h
  | n, .adr _, v, h, a => by cases n <;> cases h
  | n, .walk _ _, v, h, a => by cases n <;> cases h
  | n, .scr _, v, h, a => by cases n <;> cases h
  | n, .ol _, v, h, a => by cases n <;> cases h
  | n, .ob _ _ _, v, h, a => by cases n <;> cases h
theorem pdAll_lay {n : Nat} (ih : ∀ d : D, (pd n d).canLay0 = true ∧ (pd n d).depth ≤ n) : ∀ ds : List D, PyData.canLayAll0 (ds.map (pd n)) = true ∧ PyData.depthAll (ds.map (pd n)) ≤ n
  | [] => ⟨by simp [PyData.canLayAll0], by simp [PyData.depthAll]⟩
  | d :: ds => by
    obtain ⟨a, b⟩ := ih d
    obtain ⟨c, e⟩ := pdAll_lay ih ds
    refine ⟨by simp [PyData.canLayAll0, a, c], ?_⟩
    simp only [List.map_cons, PyData.depthAll]
    omega
theorem pd_lay : ∀ (n : Nat) (d : D), (pd n d).canLay0 = true ∧ (pd n d).depth ≤ n := by
  intro n
  induction n with
  | zero => intro d; cases d <;> exact ⟨by simp [pd, PyData.canLay0], by simp [pd, PyData.depth]⟩
  | succ n ih =>
    intro d
    cases d with
    | lst ds =>
      obtain ⟨a, b⟩ := pdAll_lay ih ds
      exact ⟨by simp only [pd, PyData.canLay0]; exact a, by simp only [pd, PyData.depth]; omega⟩
    | tup ds =>
      obtain ⟨a, b⟩ := pdAll_lay ih ds
      exact ⟨by simp only [pd, PyData.canLay0]; exact a, by simp only [pd, PyData.depth]; omega⟩
    | _ => exact ⟨by simp [pd, PyData.canLay0], by simp [pd, PyData.depth]⟩
theorem pd_shaped {n : Nat} (h : n ≤ 10) (d : D) : SeqAt.shaped (pd n d) = true := by
  obtain ⟨a, b⟩ := pd_lay n d
  show ((pd n d).canLay0 && decide ((pd n d).depth ≤ 64)) = true
  rw [Bool.and_eq_true]
  exact ⟨a, decide_eq_true (by omega)⟩
theorem pdAll_eqv {n : Nat} (ih : ∀ d e : D, pdD n d = true → pdD n e = true → PyData.eqv (pd n d) (pd n e) = decide (d = e)) : ∀ ds es : List D, ds.all (pdD n) = true → es.all (pdD n) = true → PyData.eqvAll (ds.map (pd n)) (es.map (pd n)) = decide (ds = es)
  | [], [], _, _ => by simp [PyData.eqvAll]
  | [], e :: es, _, _ => by simp [PyData.eqvAll]
  | d :: ds, [], _, _ => by simp [PyData.eqvAll]
  | d :: ds, e :: es, h, h' => by
    rw [List.all_cons, Bool.and_eq_true] at h h'
    simp only [List.map_cons, PyData.eqvAll]
    rw [ih d e h.1 h'.1, pdAll_eqv ih ds es h.2 h'.2]
    by_cases a : d = e <;> by_cases b : ds = es <;> simp [a, b]
theorem pd_eqv : ∀ (n : Nat) (d e : D), pdD n d = true → pdD n e = true → PyData.eqv (pd n d) (pd n e) = decide (d = e) := by
  intro n
  induction n with
  | zero =>
    intro d e h h'
    cases d <;> try (cases h; done)
    cases e <;> try (cases h'; done)
    rename_i i j
    simp [pd, PyData.eqv]
    by_cases a : i = j
    · subst a; simp
    · simp [a]
  | succ n ih =>
    intro d e h h'
    cases d <;> try (cases h; done)
    · cases e <;> try (cases h'; done)
      · rename_i i j
        simp [pd, PyData.eqv]
        by_cases a : i = j
        · subst a; simp
        · simp [a]
      · simp [pd, PyData.eqv]
      · simp [pd, PyData.eqv]
    · cases e <;> try (cases h'; done)
      · simp [pd, PyData.eqv]
      · rename_i ds es
        simp only [pd, PyData.eqv]
        rw [pdAll_eqv ih ds es h h']
        simp
      · simp [pd, PyData.eqv]
    · cases e <;> try (cases h'; done)
      · simp [pd, PyData.eqv]
      · simp [pd, PyData.eqv]
      · rename_i ds es
        simp only [pd, PyData.eqv]
        rw [pdAll_eqv ih ds es h h']
        simp
theorem pd_no {n : Nat} {d : D} (h : pdD n d = true) : noOl d = true := by
  cases n <;> cases d <;> first | rfl | cases h
/-! ### the names of a comprehension's block, looked over -/
def isNK (k : Option NameKind) (j : NameKind) : Bool := match k, j with
  | some .local, .local => true
  | some .cell, .cell => true
  | some .free, .free => true
  | some .globalImplicit, .globalImplicit => true
  | _, _ => false
theorem isNK_ok {k : Option NameKind} {j : NameKind} (h : isNK k j = true) : k = some j := by
  unfold isNK at h
  split at h <;> first | rfl | cases h
def blkB (N : List Str) (sc scope : Scope) (own : List (Str × Nat)) : Bool := scope.names.all (fun y => isNK (scope.names.lookup y.1) y.2) && (own.all (fun p => match N[p.2]? with
  | some x => decide (x = p.1)
  | none => false) && (scope.names.all (fun y => !isNK (some y.2) .free || (isNK (sc.names.lookup y.1) .cell || isNK (sc.names.lookup y.1) .free)) && scope.names.all (fun y => !(isNK (some y.2) .local || isNK (some y.2) .cell) || (own.any (fun p => decide (p.1 = y.1)) || !N.any (fun x => decide (x = y.1))))))
theorem blk_ok {N : List Str} {sc scope : Scope} {own : List (Str × Nat)} (hk : scope.kind = .function) (h : blkB N sc scope own = true) : BlkOk N sc scope own := by
  obtain ⟨h1, h⟩ := He.ba h
  obtain ⟨h2, h⟩ := He.ba h
  obtain ⟨h3, h4⟩ := He.ba h
  refine ⟨hk, fun y hy => isNK_ok (List.all_eq_true.mp h1 y hy), fun p hp => ?_, fun y hy e => ?_, fun y hy e => ?_⟩
  · have q := List.all_eq_true.mp h2 p hp
    split at q
    · rename_i x e; rw [e, of_decide_eq_true q]
    · cases q
  · have q := List.all_eq_true.mp h3 y hy
    rw [e] at q
    simp only [Bool.or_eq_true] at q
    rcases q with q | q | q
    · cases q
    · exact .inl (isNK_ok q)
    · exact .inr (isNK_ok q)
  · have q := List.all_eq_true.mp h4 y hy
    have : (isNK (some y.2) .local || isNK (some y.2) .cell) = true := by rcases e with e | e <;> rw [e] <;> rfl
    rw [this] at q
    simp only [Bool.not_true, Bool.false_or, Bool.or_eq_true] at q
    rcases q with q | q
    · obtain ⟨p, hp, e2⟩ := List.any_eq_true.mp q
      exact .inl (List.mem_map.mpr ⟨p, hp, of_decide_eq_true e2⟩)
    · refine .inr fun hm => ?_
      have : N.any (fun x => decide (x = y.1)) = true := List.any_eq_true.mpr ⟨y.1, hm, decide_eq_true rfl⟩
      rw [this] at q; cases q
section
variable {X : Cx} {ρ : Env} {pos p : Pos} {a b : Expr} {k : Nat}
theorem room_in (hr : Room k X.A) : X.A.units + 65 < cLine := by
  have := hr.un
  omega
theorem xv_eqD (n : Nat) {x y : D} (hr : Room k X.A) (ha : XV X a ρ x) (hb : XV X b ρ y) (hx : pdD n x = true) (hy : pdD n y = true) (hn : n ≤ 10 := by decide) (hm : behindInMarks .Eq b = false := by exact nomark _) : XV X (.Compare a [.Eq] [b] pos) ρ (.bl (decide (x = y))) :=
  xe_cmp (op_eqD (by have := room_in hr; omega)) ha hb (fun H0 G H v u l i1 i2 Q q => ⟨pd n x, pd n y, pd_dp l n hx (i1.da (pd_no hx)), pd_dp l n hy (i2.da (pd_no hy)), pd_shaped hn _, pd_shaped hn _, q G H _ _ (Tr.refl l) (Is.of (.bl _)) (by rw [pd_eqv n x y hx hy])⟩) hm
theorem xv_neD (n : Nat) {x y : D} (hr : Room k X.A) (ha : XV X a ρ x) (hb : XV X b ρ y) (hx : pdD n x = true) (hy : pdD n y = true) (hn : n ≤ 10 := by decide) (hm : behindInMarks .NotEq b = false := by exact nomark _) : XV X (.Compare a [.NotEq] [b] pos) ρ (.bl (!decide (x = y))) :=
  xe_cmp (op_neD (by have := room_in hr; omega)) ha hb (fun H0 G H v u l i1 i2 Q q => ⟨pd n x, pd n y, pd_dp l n hx (i1.da (pd_no hx)), pd_dp l n hy (i2.da (pd_no hy)), pd_shaped hn _, pd_shaped hn _, q G H _ _ (Tr.refl l) (Is.of (.bl _)) (by rw [pd_eqv n x y hx hy])⟩) hm
theorem any_pd {n : Nat} {x : D} (hx : pdD n x = true) : ∀ ds : List D, ds.all (pdD n) = true → ((ds.map (pd n)).any fun z => PyData.eqv z (pd n x)) = decide (x ∈ ds)
  | [], _ => by simp
  | d :: ds, h => by
    rw [List.all_cons, Bool.and_eq_true] at h
    rw [List.map_cons, List.any_cons, any_pd hx ds h.2, pd_eqv n d x h.1 hx]
    by_cases e : d = x
    · subst e; simp
    · have e' : ¬ x = d := fun z => e z.symm
      simp [e, e']
theorem xv_inD (n : Nat) {x : D} {ds : List D} (hr : Room k X.A) (ha : XV X a ρ x) (hb : XV X b ρ (.lst ds)) (hx : pdD n x = true) (hy : ds.all (pdD n) = true) (hn : n ≤ 9 := by decide) (hm : behindInMarks .In b = false := by rfl) : XV X (.Compare a [.In] [b] pos) ρ (.bl (decide (x ∈ ds))) :=
  xe_cmp (op_inD (room_in hr)) ha hb (fun H0 G H v u l i1 i2 Q q => ⟨pd n x, ds.map (pd n), pd_dp l n hx (i1.da (pd_no hx)), pd_dp l (n + 1) (d := .lst ds) hy (i2.da rfl), pd_shaped (by omega) _, pd_shaped (n := n + 1) (by omega) (.lst ds), q G H _ _ (Tr.refl l) (Is.of (.bl _)) (by rw [any_pd hx ds hy])⟩) hm
theorem xv_ninD (n : Nat) {x : D} {ds : List D} (hr : Room k X.A) (ha : XV X a ρ x) (hb : XV X b ρ (.lst ds)) (hx : pdD n x = true) (hy : ds.all (pdD n) = true) (hn : n ≤ 9 := by decide) (hm : behindInMarks .NotIn b = false := by rfl) : XV X (.Compare a [.NotIn] [b] pos) ρ (.bl (!decide (x ∈ ds))) :=
  xe_cmp (op_notInD (room_in hr)) ha hb (fun H0 G H v u l i1 i2 Q q => ⟨pd n x, ds.map (pd n), pd_dp l n hx (i1.da (pd_no hx)), pd_dp l (n + 1) (d := .lst ds) hy (i2.da rfl), pd_shaped (by omega) _, pd_shaped (n := n + 1) (by omega) (.lst ds), q G H _ _ (Tr.refl l) (Is.of (.bl _)) (by rw [any_pd hx ds hy])⟩) hm
/-- an int in a list or a tuple of ints -/
theorem inV_ints {i : Int} : ∀ ns : List Int, inV (.int i) (ns.map V.int) = decide (i ∈ ns)
  | [] => by simp [inV]
  | n :: ns => by
    have ih := inV_ints (i := i) ns
    unfold inV at ih ⊢
    rw [List.map_cons, List.any_cons, ih]
    have e : eqV (.int n) (.int i) = (n == i) := rfl
    rw [e]
    by_cases h : n = i
    · subst h; simp
    · have h' : ¬ i = n := fun z => h z.symm
      simp [h, h']
theorem flat_ints (ns : List Int) : (ns.map V.int).all flatV = true := by
  rw [List.all_eq_true]
  intro v hv
  obtain ⟨i, _, rfl⟩ := List.mem_map.mp hv
  rfl
theorem xv_inI {i : Int} {x : D} {ns : List Int} (ha : XV X a ρ (.int i)) (hb : XV X b ρ x) (e : itemsOf x = some (ns.map D.int)) (hm : behindInMarks .In b = false := by rfl) : XV X (.Compare a [.In] [b] pos) ρ (.bl (decide (i ∈ ns))) :=
  xe_cmp op_in_seq ha hb (fun H0 G H v u l i1 i2 Q q => by
    cases i1
    obtain ⟨q1, vs, rfl, s, hd⟩ := seq_of l i2 e
    obtain rfl := ints_of hd
    exact ⟨q1, _, rfl, s, rfl, flat_ints ns, q G H _ _ (Tr.refl l) (Is.of (.bl _)) (by rw [if_neg (by decide), inV_ints])⟩) hm
theorem xv_ninI {i : Int} {x : D} {ns : List Int} (ha : XV X a ρ (.int i)) (hb : XV X b ρ x) (e : itemsOf x = some (ns.map D.int)) (hm : behindInMarks .NotIn b = false := by rfl) : XV X (.Compare a [.NotIn] [b] pos) ρ (.bl (!decide (i ∈ ns))) :=
  xe_cmp op_notIn_seq ha hb (fun H0 G H v u l i1 i2 Q q => by
    cases i1
    obtain ⟨q1, vs, rfl, s, hd⟩ := seq_of l i2 e
    obtain rfl := ints_of hd
    exact ⟨q1, _, rfl, s, rfl, flat_ints ns, q G H _ _ (Tr.refl l) (Is.of (.bl _)) (by rw [if_pos rfl, inV_ints])⟩) hm
theorem xt_eqD (n : Nat) {x y : D} (hr : Room k X.A) (ha : XV X a ρ x) (hb : XV X b ρ y) (hx : pdD n x = true) (hy : pdD n y = true) (hn : n ≤ 10 := by decide) (hm : behindInMarks .Eq b = false := by exact nomark _) : XT X (.Compare a [.Eq] [b] pos) ρ (fun z => z = (decide (x = y))) :=
  xt_cmp (op_eqD (by have := room_in hr; omega)) ha hb (fun H0 G H v u l i1 i2 Q q => ⟨pd n x, pd n y, pd_dp l n hx (i1.da (pd_no hx)), pd_dp l n hy (i2.da (pd_no hy)), pd_shaped hn _, pd_shaped hn _, q G H _ _ (Tr.refl l) (Is.of (.bl _)) (by rw [pd_eqv n x y hx hy])⟩) hm
theorem xt_neD (n : Nat) {x y : D} (hr : Room k X.A) (ha : XV X a ρ x) (hb : XV X b ρ y) (hx : pdD n x = true) (hy : pdD n y = true) (hn : n ≤ 10 := by decide) (hm : behindInMarks .NotEq b = false := by exact nomark _) : XT X (.Compare a [.NotEq] [b] pos) ρ (fun z => z = (!decide (x = y))) :=
  xt_cmp (op_neD (by have := room_in hr; omega)) ha hb (fun H0 G H v u l i1 i2 Q q => ⟨pd n x, pd n y, pd_dp l n hx (i1.da (pd_no hx)), pd_dp l n hy (i2.da (pd_no hy)), pd_shaped hn _, pd_shaped hn _, q G H _ _ (Tr.refl l) (Is.of (.bl _)) (by rw [pd_eqv n x y hx hy])⟩) hm
theorem xt_inD (n : Nat) {x : D} {ds : List D} (hr : Room k X.A) (ha : XV X a ρ x) (hb : XV X b ρ (.lst ds)) (hx : pdD n x = true) (hy : ds.all (pdD n) = true) (hn : n ≤ 9 := by decide) (hm : behindInMarks .In b = false := by rfl) : XT X (.Compare a [.In] [b] pos) ρ (fun z => z = (decide (x ∈ ds))) :=
  xt_cmp (op_inD (room_in hr)) ha hb (fun H0 G H v u l i1 i2 Q q => ⟨pd n x, ds.map (pd n), pd_dp l n hx (i1.da (pd_no hx)), pd_dp l (n + 1) (d := .lst ds) hy (i2.da rfl), pd_shaped (by omega) _, pd_shaped (n := n + 1) (by omega) (.lst ds), q G H _ _ (Tr.refl l) (Is.of (.bl _)) (by rw [any_pd hx ds hy])⟩) hm
theorem xt_ninD (n : Nat) {x : D} {ds : List D} (hr : Room k X.A) (ha : XV X a ρ x) (hb : XV X b ρ (.lst ds)) (hx : pdD n x = true) (hy : ds.all (pdD n) = true) (hn : n ≤ 9 := by decide) (hm : behindInMarks .NotIn b = false := by rfl) : XT X (.Compare a [.NotIn] [b] pos) ρ (fun z => z = (!decide (x ∈ ds))) :=
  xt_cmp (op_notInD (room_in hr)) ha hb (fun H0 G H v u l i1 i2 Q q => ⟨pd n x, ds.map (pd n), pd_dp l n hx (i1.da (pd_no hx)), pd_dp l (n + 1) (d := .lst ds) hy (i2.da rfl), pd_shaped (by omega) _, pd_shaped (n := n + 1) (by omega) (.lst ds), q G H _ _ (Tr.refl l) (Is.of (.bl _)) (by rw [any_pd hx ds hy])⟩) hm
theorem xt_inI {i : Int} {x : D} {ns : List Int} (ha : XV X a ρ (.int i)) (hb : XV X b ρ x) (e : itemsOf x = some (ns.map D.int)) (hm : behindInMarks .In b = false := by rfl) : XT X (.Compare a [.In] [b] pos) ρ (fun z => z = (decide (i ∈ ns))) :=
  xt_cmp op_in_seq ha hb (fun H0 G H v u l i1 i2 Q q => by
    cases i1
    obtain ⟨q1, vs, rfl, s, hd⟩ := seq_of l i2 e
    obtain rfl := ints_of hd
    exact ⟨q1, _, rfl, s, rfl, flat_ints ns, q G H _ _ (Tr.refl l) (Is.of (.bl _)) (by rw [if_neg (by decide), inV_ints])⟩) hm
theorem xt_ninI {i : Int} {x : D} {ns : List Int} (ha : XV X a ρ (.int i)) (hb : XV X b ρ x) (e : itemsOf x = some (ns.map D.int)) (hm : behindInMarks .NotIn b = false := by rfl) : XT X (.Compare a [.NotIn] [b] pos) ρ (fun z => z = (!decide (i ∈ ns))) :=
  xt_cmp op_notIn_seq ha hb (fun H0 G H v u l i1 i2 Q q => by
    cases i1
    obtain ⟨q1, vs, rfl, s, hd⟩ := seq_of l i2 e
    obtain rfl := ints_of hd
    exact ⟨q1, _, rfl, s, rfl, flat_ints ns, q G H _ _ (Tr.refl l) (Is.of (.bl _)) (by rw [if_pos rfl, inV_ints])⟩) hm
/-- xs + ys -/
theorem xf_cat {x y : D} {xs ys : List D} (ha : XV X a ρ x) (hb : XV X b ρ y) (e1 : lstOf x = some xs) (e2 : lstOf y = some ys) (hl : xs.length + ys.length ≤ 100000) : XF X (.BinOp a .Add b pos) ρ (fun z => z = xs ++ ys) :=
  pe_imp (pe_op op_cat ha hb) fun σ H Q ⟨G, H0, l, sl, k⟩ => ⟨G, H0, l, sl, fun G1 H1 v d t1 i1 s1 => ⟨G1, H0, t1.ok, sl.mono t1, fun G2 H2 u e t2 i2 s2 => by
    subst s1 s2
    obtain ⟨q1, vs, rfl, h1, d1⟩ := lst_of t2.ok (i1.mono t2) e1
    obtain ⟨q2, ws, rfl, h2, d2⟩ := lst_of t2.ok i2 e2
    refine ⟨q1, q2, vs, ws, rfl, rfl, h1, h2, ?_, fun p hp => ?_⟩
    · rw [d1.1, d2.1, sizeLine_eq]; omega
    · have t12 := t1.trans t2
      exact k G2 _ p _ _ (t12.trans (Tr.own t2.ok hp)) (t12.fresh0 hp) (t2.ok.none hp) upd_same (d1.appd d2) rfl⟩⟩
/-- slices -/
def cutD (xs : List D) (lo hi : Option Int) : List D := (xs.drop (HT.sIx xs.length 0 lo)).take (HT.sIx xs.length xs.length hi - HT.sIx xs.length 0 lo)
theorem cut_dal {K : PySem.W.Frag} {G : Hp} {vs : List V} {ds : List D} (h : DaL K G vs ds) (lo hi : Option Int) : DaL K G (cutV vs lo hi) (cutD ds lo hi) := by
  unfold cutV cutD
  rw [h.1]
  exact (h.drop _).take _
def tDO (K : PySem.W.Frag) (ρ : Env) (o : Option Int) : TO := fun σ H Q => ∃ G H0, Le G H ∧ Sl K H0 G H σ ρ ∧ ∀ G' H', Tr G H G' H' → Q o H'
abbrev XO (X : Cx) (e : Option Expr) (ρ : Env) (o : Option Int) : Prop := PO X e (tDO X.K ρ o)
theorem po_imp {X : Cx} {e : Option Expr} {t t' : TO} (h : PO X e t) (w : ∀ σ H Q, t' σ H Q → t σ H Q) : PO X e t' := ⟨fun pins s σ H Q I q => h.run pins s σ H Q I (w σ H Q q)⟩
theorem xo_none : XO X none ρ none := po_imp po_none fun σ H Q ⟨G, H0, l, sl, k⟩ => k G H (Tr.refl l)
theorem xo_some {e : Expr} {i : Int} (h : XV X e ρ (.int i)) : XO X (some e) ρ (some i) := po_imp (po_some h) fun σ H Q ⟨G, H0, l, sl, k⟩ => ⟨G, H0, l, sl, fun G' H' v d t i s => by subst s; cases i; exact ⟨_, rfl, k G' H' t⟩⟩
theorem xf_sl {lo hi : Option Expr} {l h : Option Int} {p2 : Pos} {x : D} {xs : List D} (ha : XV X a ρ x) (hl : XO X lo ρ l) (hh : XO X hi ρ h) (e1 : lstOf x = some xs) : XF X (.Subscript a (.Slice lo hi none p2) pos) ρ (fun z => z = cutD xs l h) :=
  pe_imp (pe_slice sl_list ha hl hh) fun σ H Q ⟨G, H0, le, sl, k⟩ => ⟨G, H0, le, sl, fun G1 H1 v d t1 i1 s1 => ⟨G1, H0, t1.ok, sl.mono t1, fun G2 H2 t2 => ⟨G2, H0, t2.ok, sl.mono (t1.trans t2), fun G3 H3 t3 => by
    subst s1
    obtain ⟨q1, vs, rfl, h1, d1⟩ := lst_of t3.ok (i1.mono (t2.trans t3)) e1
    refine ⟨q1, vs, rfl, SqL.of h1, fun p hp => ?_⟩
    have t := (t1.trans t2).trans t3
    exact k G3 _ p _ _ (t.trans (Tr.own t3.ok hp)) (t.fresh0 hp) (t3.ok.none hp) upd_same (cut_dal d1 l h) rfl⟩⟩⟩
theorem xv_slT {lo hi : Option Expr} {l h : Option Int} {p2 : Pos} {xs : List D} (ha : XV X a ρ (.tup xs)) (hl : XO X lo ρ l) (hh : XO X hi ρ h) (hw : ¬ (HT.sIx xs.length 0 l = 0 ∧ HT.sIx xs.length xs.length h = xs.length)) : XV X (.Subscript a (.Slice lo hi none p2) pos) ρ (.tup (cutD xs l h)) :=
  pe_imp (pe_slice sl_tup ha hl hh) fun σ H Q ⟨G, H0, le, sl, k⟩ => ⟨G, H0, le, sl, fun G1 H1 v d t1 i1 s1 => ⟨G1, H0, t1.ok, sl.mono t1, fun G2 H2 t2 => ⟨G2, H0, t2.ok, sl.mono (t1.trans t2), fun G3 H3 t3 => by
    subst s1
    cases Da.mono (t2.trans t3).gg (show Da X.K G1 v (.tup xs) from i1) with
    | @tup q1 vs _ e1 e2 e3 =>
      refine ⟨q1, vs, rfl, SqT.of (t3.ok.at_ _ _ e1 pot_tup), by rw [e2]; exact hw, fun p hp => ?_⟩
      have t := (t1.trans t2).trans t3
      have tn := Tr.new t3.ok hp (o := .tup (cutV vs l h)) pot_tup
      exact k _ _ _ _ (t.trans tn) (Is.of (.tup' upd_same ((cut_dal ⟨e2, e3⟩ l h).mono tn.gg))) rfl⟩⟩⟩
/-- xs.index(x) -/
theorem xv_index (n : Nat) {o e : Expr} {apos cpos : Pos} {x : D} {ds : List D} {j : Nat} (hr : Room k X.A) (ho : XV X o ρ (.lst ds)) (he : XV X e ρ x) (hx : pdD n x = true) (hy : ds.all (pdD n) = true) (hj : ds[j]? = some x) (hno : ∀ m, m < j → ds[m]? ≠ some x) (hn : n ≤ 9 := by decide)
    (hp : ∀ {t : TA} {to : TE}, PE X o to → PA X [e] t → PE X (.Call (.Attribute o "index" apos) [e] [] cpos) (tBM X.K "list" (rIndexD X.K) to t) := by exact fun o a => pe_bm PySem.F.plainAttrs_list PySem.F.slot_list_index PySem.F.type_list_index (mt_indexD (room_in ‹Room _ _›)) o a)
    (hst : starEach [e] X.env = (false, eval e X.env) :: starEach [] X.env := by rfl) : XV X (.Call (.Attribute o "index" apos) [e] [] cpos) ρ (.int (j : Nat)) :=
  pe_imp (hp ho (pa_cons he pa_nil hst)) fun σ H Q ⟨G, H0, l, sl, k⟩ => ⟨G, H0, l, sl, fun G1 H1 v d t1 i1 s1 => by
    subst s1
    have a1 : Da X.K G1 v (.lst ds) := i1
    cases id a1 with
    | @lst q vs _ e1 e2 e3 =>
      refine ⟨.inl ⟨rfl, vs, SqL.of (t1.ok.at_ _ _ e1 pot_lst)⟩, G1, H0, t1.ok, sl.mono t1, fun G2 H2 u f t2 i2 s2 => ?_⟩
      subst s2
      refine ⟨q, u, pd n f, ds.map (pd n), j, pd n f, rfl, rfl, pd_dp t2.ok (n + 1) (d := .lst ds) hy (a1.mono t2.gg), pd_dp t2.ok n hx (i2.da (pd_no hx)), pd_shaped (n := n + 1) (by omega) (.lst ds), pd_shaped (by omega) _, by rw [List.getElem?_map, hj]; rfl, ?_, fun m z hm hz => ?_, k G2 H2 _ _ (t1.trans t2) (Is.of (.int _)) rfl⟩
      · rw [pd_eqv n f f hx hx]; simp
      · rw [List.getElem?_map] at hz
        cases q3 : ds[m]? with
        | none => rw [q3] at hz; cases hz
        | some g =>
          rw [q3] at hz
          cases hz
          have hg : pdD n g = true := List.all_eq_true.mp hy g (List.mem_of_getElem? q3)
          rw [pd_eqv n g f hg hx]
          exact decide_eq_false fun z => hno m hm (by rw [q3, z])⟩
end
end NL

/-! text P6 -/
set_option Elab.async false
set_option linter.all false
set_option maxRecDepth 100000
set_option maxHeartbeats 4000000
/-! The table of a telling: the program's matrices. -/
namespace NL
open PySem PySem.Spec L2
open PyProof.Rows (envOfC)
variable {P : Program} {w : World} {K : PySem.W.Frag} {mg : Str → Option Value} {base : Heap}
abbrev Told := GQ × List GQ
abbrev Mat := List (List GQ)
def rowD (r : List GQ) : D := .lst (r.map D.num)
def matD (m : Mat) : D := .lst (m.map rowD)
def toldD (t : Told) : D := .tup [.num t.1, .lst (t.2.map D.num)]
def toldsD (ts : List Told) : D := .lst (ts.map toldD)
def spD (s : Nat × Nat) : D := .tup [.int (s.1 : Int), .int (s.2 : Int)]
def tAt (ts : List Told) (p : Nat) : Told := ts.getD p (GQ.ofInt 0, [])
def spots (ts : List Told) : List (Nat × Nat) := (List.range ts.length).flatMap fun p => (List.range (tAt ts p).2.length).map fun k => (p, k)
/-- a telling in hand: few points, one or two answers each -/
structure TsOk (ts : List Told) : Prop where
  len : ts.length ≤ 4
  pt : ∀ t ∈ ts, PtOk t.1
  few : ∀ t ∈ ts, 1 ≤ t.2.length ∧ t.2.length ≤ 2
  bd : ∀ t ∈ ts, ∀ a ∈ t.2, Bd 2 a
  tot : (spots ts).length ≤ 6
theorem tAt_get {ts : List Told} {p : Nat} (h : p < ts.length) : tAt ts p = ts[p] := by
  unfold tAt
  rw [List.getD_eq_getElem?_getD, List.getElem?_eq_getElem h]; rfl
theorem tAt_mem {ts : List Told} {p : Nat} (h : p < ts.length) : tAt ts p ∈ ts := by rw [tAt_get h]; exact List.getElem_mem h
theorem atI_nat {α : Type} {xs : List α} {i : Nat} {x : α} (h : xs[i]? = some x) : atI xs (i : Int) = some x := by
  have hi : i < xs.length := (List.getElem?_eq_some_iff.mp h).1
  unfold atI ixN
  simp only [show (0 : Int) ≤ (i : Int) by omega, if_true, Int.toNat_natCast]
  first
    | (rw [if_pos hi]; exact h)
    | (simp [hi]; exact Option.some.inj ((List.getElem?_eq_getElem hi).symm.trans h))
theorem toldsD_at {ts : List Told} {p : Nat} (h : p < ts.length) : atI (ts.map toldD) (p : Int) = some (toldD (tAt ts p)) := atI_nat (by rw [List.getElem?_map, List.getElem?_eq_getElem h, tAt_get h]; rfl)
theorem mem_rng {lo : Int} {n : Nat} {d : D} (h : d ∈ rng lo n) : ∃ i : Nat, i < n ∧ d = .int (lo + (i : Nat)) := by
  obtain ⟨i, hi, rfl⟩ := List.mem_map.mp h
  exact ⟨i, List.mem_range.mp hi, rfl⟩
def R_spots : Rel := fun ds T => ∃ ts : List Told, ds = [toldsD ts] ∧ TsOk ts ∧ T = fun z => z = .lst ((spots ts).map spD)
theorem ok_spots_of (T : Tx P K mg) : Fk P w K mg base "spots_of" 1 R_spots := by
  obtain ⟨fd, F⟩ := T.F_spots_of
  refine mkFk F sc_spots_of T.g_spots_of ?_ ?_ (fun _ _ _ _ _ _ us hl => match us, hl with | [_], _ => rfl)
  · rintro ds S ⟨ts, rfl, _⟩; rfl
  · rintro cdv A outer s H E hr ds S ⟨ts, rfl, ok, rfl⟩
    refine xss_one (xs_retv (d := .lst ((spots ts).map spD)) (xv_to (xv_of_xf (xf_lc2 (own := [("position", 1), ("times", 2)]) (vs1 := [2]) (τ := tName 1) (τ1 := tName 2) (ds := rng 0 ts.length) (fun d => match d with | .int i => rng 0 (tAt ts i.toNat).2.length | _ => []) (fun d e => .tup [d, e]) rfl sc_spots_of.nd (xi_range1 T.b_range (xv_len T.b_len (xv_var 0) rfl) (by simp) (by have := ok.len; simp; omega)) (blk_ok rfl (by rfl)) (by decide) (fun _ _ _ _ _ => xg_name 1 sc_spots_of.nd) (fun _ _ _ _ _ => xg_name 2 sc_spots_of.nd) (by rw [rng_len]; have := ok.len; omega) ?_ ?_)) ?_) ⟨rfl, rfl⟩)
    · intro d hd
      obtain ⟨i, hi, rfl⟩ := mem_rng hd
      rw [show (0 : Int) + (i : Nat) = (i : Int) by omega]
      have := ok.few _ (tAt_mem hi)
      simp [rng_len]; omega
    · intro d hd
      obtain ⟨i, hi, rfl⟩ := mem_rng hd
      rw [show (0 : Int) + (i : Nat) = (i : Int) by omega]
      have := ok.few _ (tAt_mem hi)
      refine ⟨_, rfl, rfl, fun _ _ _ _ _ => xi_range1 T.b_range (xv_len T.b_len (xv_ixT (xv_ixL (xv_var 0) (xv_var 1) rfl (toldsD_at hi)) xv_int rfl) rfl) (by simp) (by simp; omega), fun e he => ?_⟩
      obtain ⟨j, hj, rfl⟩ := mem_rng he
      exact ⟨_, rfl, rfl, fun _ _ _ _ _ => xv_tup (xva_cons (xv_var 1) (xva_cons (xv_var 2) xva_nil))⟩
    · unfold spots rng spD
      congr 1
      rw [List.map_flatMap, List.flatMap_map]
      congr 1
      funext p
      simp [Function.comp_def]

/-! ### rows -/
def RBd (n : Nat) (r : List GQ) : Prop := ∀ x ∈ r, Bd n x
def MBd (n : Nat) (m : Mat) : Prop := ∀ r ∈ m, RBd n r
/-- n rows of n -/
structure Sq (n : Nat) (m : Mat) : Prop where
  rows : m.length = n
  cols : ∀ r ∈ m, r.length = n
theorem zip_D (f : D → D) (g : GQ → GQ → GQ) (hf : ∀ x y, f (.tup [.num x, .num y]) = .num (g x y)) : ∀ (a b : List GQ), ((a.map D.num).zipWith (fun x y => D.tup [x, y]) (b.map D.num)).map f = (a.zipWith g b).map D.num
  | [], _ => rfl
  | _ :: _, [] => rfl
  | x :: a, y :: b => by
    simp only [List.map_cons, List.zipWith_cons_cons, hf]
    rw [zip_D f g hf a b]
theorem mem_zip {a b : List GQ} {d : D} (h : d ∈ (a.map D.num).zipWith (fun x y => D.tup [x, y]) (b.map D.num)) : ∃ x y, x ∈ a ∧ y ∈ b ∧ d = .tup [.num x, .num y] := by
  induction a generalizing b with
  | nil => cases h
  | cons x a ih =>
    cases b with
    | nil => cases h
    | cons y b =>
      simp only [List.map_cons, List.zipWith_cons_cons, List.mem_cons] at h
      rcases h with rfl | h
      · exact ⟨x, y, List.mem_cons_self .., List.mem_cons_self .., rfl⟩
      · obtain ⟨u, v, h1, h2, h3⟩ := ih h
        exact ⟨u, v, List.mem_cons_of_mem _ h1, List.mem_cons_of_mem _ h2, h3⟩
def fLess (q : GQ) : D → D
  | .tup [.num x, .num y] => .num (x - q * y)
  | _ => .non
def lessRow (a : List GQ) (q : GQ) (b : List GQ) : List GQ := a.zipWith (fun x y => x - q * y) b
def R_less_times : Rel := fun ds T => ∃ (a b : List GQ) (q : GQ) (n : Nat), ds = [rowD a, .num q, rowD b] ∧ a.length ≤ 100 ∧ RBd n a ∧ RBd n b ∧ Bd n q ∧ 2 * n + 1 ≤ 40000000 ∧ T = fun z => z = rowD (lessRow a q b)
theorem ok_less_times (T : Tx P K mg) : Fk P w K mg base "less_times" 39 R_less_times := by
  obtain ⟨fd, F⟩ := T.F_less_times
  refine mkFk F sc_less_times T.g_less_times ?_ ?_ (fun _ _ _ _ _ _ us hl => match us, hl with | [_, _, _], _ => rfl)
  · rintro ds S ⟨a, b, q, n, rfl, _⟩; rfl
  · rintro cdv A outer s H E hr ds S ⟨a, b, q, n, rfl, la, ba, bb, bq, hn, rfl⟩
    refine xss_one (xs_retv (d := rowD (lessRow a q b)) (xv_to (xv_of_xf (xf_map (own := [("near", 3), ("far", 4)]) (τ := tPair 3 4) (ds := (a.map D.num).zipWith (fun x y => D.tup [x, y]) (b.map D.num)) (fLess q) rfl sc_less_times.nd (xi_zip T.b_zip (xv_var 0) (xv_var 2)) (blk_ok rfl (by rfl)) (fun _ _ _ _ _ => xg_pair 3 4 rfl sc_less_times.nd) (by simp; omega) ?_)) ?_) ⟨rfl, rfl⟩)
    · intro d hd
      obtain ⟨x, y, hx, hy, rfl⟩ := mem_zip hd
      refine ⟨_, ⟨_, _, rfl, rfl⟩, rfl, fun _ _ _ _ _ => ?_⟩
      have b0 : Bd (n + 1) q := bq.mono (by omega)
      exact xv_tsub (n := 2 * n + 1) (ok_sub T) (hr.mono (by decide)) T (xv_var 3) (xv_tmul (n := n + 1) (ok_mul T) (hr.mono (by decide)) T (xv_var 1) (xv_var 4) b0 ((bb y hy).mono (by omega)) (by omega) (by omega)) ((ba x hx).mono (by omega)) ((bq.mul (bb y hy)).mono (by omega)) (by omega) hn
    · exact congrArg D.lst (zip_D (fLess q) _ (fun _ _ => rfl) a b)
/-! ### turned -/
def turnM (m : Mat) : Mat := (List.range m.length).map fun c => m.map fun r => (r.getD c (GQ.ofInt 0)).conj
def rAt (c : Nat) : D → D
  | .lst ds => match ds[c]? with
    | some (.num x) => .num x.conj
    | _ => .non
  | _ => .non
theorem rAt_row {r : List GQ} {c : Nat} (h : c < r.length) : rAt c (rowD r) = .num (r.getD c (GQ.ofInt 0)).conj := by
  have e : (r.map D.num)[c]? = some (.num r[c]) := by rw [List.getElem?_map, List.getElem?_eq_getElem h]; rfl
  unfold rowD rAt
  dsimp only
  rw [e, List.getD_eq_getElem?_getD, List.getElem?_eq_getElem h]
  rfl
theorem rowD_at {r : List GQ} {c : Nat} (h : c < r.length) : atI (r.map D.num) (c : Int) = some (.num (r.getD c (GQ.ofInt 0))) := atI_nat (by rw [List.getElem?_map, List.getElem?_eq_getElem h, List.getD_eq_getElem?_getD, List.getElem?_eq_getElem h]; rfl)
theorem matD_at {m : Mat} {c : Nat} (h : c < m.length) : atI (m.map rowD) (c : Int) = some (rowD (m.getD c [])) := atI_nat (by rw [List.getElem?_map, List.getElem?_eq_getElem h, List.getD_eq_getElem?_getD, List.getElem?_eq_getElem h]; rfl)
theorem getD_mem {α : Type} {m : List α} {c : Nat} {d : α} (h : c < m.length) : m.getD c d ∈ m := by
  rw [List.getD_eq_getElem?_getD, List.getElem?_eq_getElem h]; exact List.getElem_mem h
def R_turned : Rel := fun ds T => ∃ (m : Mat) (n : Nat), ds = [matD m] ∧ Sq n m ∧ n ≤ 100 ∧ T = fun z => z = matD (turnM m)
theorem ok_turned (T : Tx P K mg) : Fk P w K mg base "turned" 38 R_turned := by
  obtain ⟨fd, F⟩ := T.F_turned
  refine mkFk F sc_turned T.g_turned ?_ ?_ (fun _ _ _ _ _ _ us hl => match us, hl with | [_], _ => rfl)
  · rintro ds S ⟨m, n, rfl, _⟩; rfl
  · rintro cdv A outer s H E hr ds S ⟨m, n, rfl, sq, hn, rfl⟩
    have hm := sq.rows
    refine xss_one (xs_retv (d := matD (turnM m)) (xv_to (xv_of_xf (xf_map (own := [("column", 1)]) (τ := tName 1) (ds := rng 0 m.length) (fun d => match d with | .int i => .lst ((m.map rowD).map (rAt i.toNat)) | _ => .non) rfl sc_turned.nd (xi_range1 T.b_range (xv_len T.b_len (xv_var 0) rfl) (by simp) (by simp; omega)) (blk_ok rfl (by rfl)) (fun _ _ _ _ _ => xg_name 1 sc_turned.nd) (by rw [rng_len]; omega) ?_)) ?_) ⟨rfl, rfl⟩)
    · intro d hd
      obtain ⟨i, hi, rfl⟩ := mem_rng hd
      rw [show (0 : Int) + (i : Nat) = (i : Int) by omega]
      refine ⟨_, rfl, rfl, fun s1 H1 C1 cl1 fp1 => ?_⟩
      refine xv_of_xf (xf_map (own := [("row", 2)]) (τ := tName 2) (ds := m.map rowD) (rAt i) rfl sc_turned.nd (xi_list (xv_var 0)) (blk_ok rfl (by rfl)) (fun _ _ _ _ _ => xg_name 2 sc_turned.nd) (by simp; omega) ?_)
      intro d hd
      obtain ⟨r, hr', rfl⟩ := List.mem_map.mp hd
      have hl : i < r.length := by rw [sq.cols r hr']; omega
      refine ⟨_, rfl, by rw [rAt_row hl]; rfl, fun _ _ _ _ _ => ?_⟩
      rw [rAt_row hl]
      exact xv_meth0 (ok_mirror T) hr (xv_ixL (xv_var 2) (xv_var 1) rfl (rowD_at hl)) insNum rfl ⟨_, rfl, rfl⟩
    · unfold matD turnM rng
      congr 1
      rw [List.map_map, List.map_map]
      refine List.map_congr_left fun c hc => ?_
      have hc := List.mem_range.mp hc
      show D.lst _ = rowD _
      unfold rowD
      congr 1
      rw [List.map_map, List.map_map]
      refine List.map_congr_left fun r hr' => ?_
      have hl : c < r.length := by rw [sq.cols r hr']; omega
      show rAt ((0 : Int) + (c : Nat)).toNat (rowD r) = D.num _
      rw [show ((0 : Int) + (c : Nat)).toNat = c by omega, rAt_row hl]
end NL

/-! text DL13 -/
set_option Elab.async false
set_option linter.all false
set_option maxRecDepth 100000
set_option maxHeartbeats 4000000
/-! The D-layer: more statements. -/
namespace NL
open PySem PySem.Spec L2
/-- a comprehension: as a value, or under a local name -/
def XL (X : Cx) (e : Expr) (ρ : Env) (S : List D → Prop) : Prop := PE X e (tDF X.K ρ S) ∧ ∀ {i : Nat} {y : Str} {py spos : Pos}, X.N[i]? = some y → X.env.scope.names.lookup y = some .local → swapsWith e (some (.Name y py)) spos.line X.env = pure true → PS X (.Assign [.Name y py] e spos) (tAsg (tDF X.K ρ S) (gName i))
theorem tdf_imp {K : PySem.W.Frag} {ρ : Env} {S S' : List D → Prop} (w : ∀ d, S' d → S d) {σ : L2.St} {H : Hp} {Q : VK} : tDF K ρ S σ H Q → tDF K ρ S' σ H Q := fun ⟨G, H0, l, sl, k⟩ => ⟨G, H0, l, sl, fun G' H' p vs ds t a b c d s => k G' H' p vs ds t a b c d (w ds s)⟩
theorem xl_imp {X : Cx} {e : Expr} {ρ : Env} {S S' : List D → Prop} (h : XL X e ρ S') (w : ∀ d, S' d → S d) : XL X e ρ S := ⟨pe_imp h.1 fun _ _ _ q => tdf_imp w q, fun a b c => ps_imp (h.2 a b c) fun _ _ _ q => tdf_imp w q⟩
section
variable {X : Cx} {ρ : Env} {pos : Pos}
/-- [elt for target in iter if ..]: I i acc: after i turns the list is acc -/
theorem xl_lc {elt tg iter : Expr} {ifs : List Expr} {scope : Scope} {own : List (Str × Nat)} {τ : D → Env → Env → Prop} {ds : List D} (I : Nat → List D → Prop) (hc : X.calm = true) (hN : X.N.Nodup) (hi : XI X tg iter ρ ds) (ok : BlkOk X.N X.env.scope scope own)
    (hg : Blk X scope fun Y => XG Y tg τ (own.map (·.2))) (hl : ds.length ≤ 10000) (h0 : I 0 [])
    (hs : ∀ (i : Nat) d acc, ds[i]? = some d → I i acc → ∃ ρ2 b, τ d (wipeE ρ (own.map (·.2))) ρ2 ∧ (Blk X scope fun Y => PTs Y ifs (tDT X.K ρ2 (fun z => z = b))) ∧ (b = false → I (i + 1) acc) ∧ (b = true → ∃ S, (Blk X scope fun Y => PE Y elt (tD X.K ρ2 S)) ∧ ∀ e, S e → noOl e = true ∧ I (i + 1) (acc ++ [e])))
    (hf : ∀ x, foldedSetIterable iter X.env x = pure x := by intro _; rfl) : XL X (.ListComp elt [⟨tg, iter, ifs, 0⟩] scope pos) ρ (fun es => I ds.length es) := by
  have key : ∀ σ H (Q : VK), tDF X.K ρ (fun es => I ds.length es) σ H Q → tLc (tDI X.K ρ ds) (tDG X.K τ (own.map (·.2))) (tAnyBT X scope ifs) (tAnyB X scope elt) (own.map (·.2)) σ H Q := ?key
  · exact ⟨pe_imp (pe_lc hc hN hi ok hg pts_anyB pe_anyB hf) key, fun hy hyl hsw => ps_imp (ps_setLc hc hN hy hyl hsw hi ok hg pts_anyB pe_anyB hf) fun Dn σ H q => key σ H _ q⟩
  refine fun σ H Q ⟨G, H0, l, sl, k⟩ => ⟨G, H0, l, sl, fun G' H' J t wk DD hD => ?_⟩
  have hD0 : H DD = none := t.fresh0 hD
  have t0 : Tr G H G' (upd H' DD (.lst [])) := t.trans (Tr.own t.ok hD)
  refine ⟨fun i m H1 => m = ds.length - i ∧ i ≤ ds.length ∧ ∃ G1 vs acc, Tr G H G1 H1 ∧ Ex G' G1 ∧ G1 DD = none ∧ H1 DD = some (.lst vs) ∧ DaL X.K G1 vs acc ∧ acc.length ≤ i ∧ I i acc,
    ⟨ds.length, rfl, Nat.zero_le _, G', [], [], t0, Ex.refl _, t.ok.none hD, upd_same, DaL.nil, Nat.le_refl _, h0⟩, ?_⟩
  rintro i m H1 ⟨rfl, hi, G1, vs, acc, t1, ex1, g1, h1, d1, hlen, hI⟩
  obtain ⟨go, st⟩ := wk G1 H1 i ex1 t1.ok
  by_cases hlt : i < ds.length
  · obtain ⟨go1, go2⟩ := go ds[i] (by simp [hlt])
    refine .inr ⟨go1, fun H2 => i < ds.length ∧ ∃ G1 vs acc, Tr G H G1 H2 ∧ Ex G' G1 ∧ G1 DD = none ∧ H2 DD = some (.lst vs) ∧ DaL X.K G1 vs acc ∧ acc.length ≤ i + 1 ∧ I (i + 1) acc, fun H2 ⟨a, b⟩ => ⟨ds.length - (i + 1), by omega, rfl, by omega, b⟩, fun x H2 y => ?_⟩
    obtain ⟨G2, t2, da⟩ := go2 x H2 y
    have pv : ∀ {Ga Ha Gb Hb : Hp} {ws : List V}, Tr Ga Ha Gb Hb → Ga DD = none → Ha DD = some (.lst ws) → Gb DD = none ∧ Hb DD = some (.lst ws) := fun t g h => ⟨t.pv _ _ h g, t.hh _ _ h (by rw [g]; exact fun z => nomatch z)⟩
    obtain ⟨g2, h2⟩ := pv t2 g1 h1
    obtain ⟨ρ2, b, hτ, hT, hF, hE⟩ := hs i ds[i] acc (by simp [hlt]) hI
    refine ⟨G2, H0, wipeE ρ (own.map (·.2)), _, ρ2, t2.ok, (sl.mono (t1.trans t2)).wipe _, da, hτ, fun σ3 sl3 c3 => ⟨c3.wipe, ?_⟩⟩
    refine ⟨ρ2, _, hT, G2, H0, t2.ok, sl3, fun G3 H3 z t3 e => ?_⟩
    subst e
    obtain ⟨g3, h3⟩ := pv t3 g2 h2
    cases z with
    | false => exact iteF ⟨hlt, G3, vs, acc, (t1.trans t2).trans t3, (ex1.trans t2.gg).trans t3.gg, g3, h3, d1.mono (t2.gg.trans t3.gg), by omega, hF rfl⟩
    | true =>
      obtain ⟨S, hS, hn⟩ := hE rfl
      refine iteT ⟨ρ2, S, hS, G3, H0, t3.ok, sl3.mono t3, fun G4 H4 v e t4 i4 s4 => ?_⟩
      obtain ⟨n1, n2⟩ := hn e s4
      obtain ⟨g4, h4⟩ := pv t4 g3 h3
      refine ⟨vs, h4, ?_, hlt, G4, vs ++ [v], acc ++ [e], (((t1.trans t2).trans t3).trans t4).mut hD0 g4, ((ex1.trans t2.gg).trans t3.gg).trans t4.gg, g4, upd_same, (d1.mono ((t2.gg.trans t3.gg).trans t4.gg)).snoc (i4.da (n1)), by simp; omega, n2⟩
      rw [d1.1]
      exact Nat.lt_of_lt_of_le (Nat.lt_of_le_of_lt hlen (Nat.lt_of_lt_of_le hlt hl)) (by decide)
  · have e : i = ds.length := by omega
    subst e
    exact .inl ⟨st (Nat.le_refl _), k G1 H1 DD vs acc t1 hD0 g1 h1 d1 hI⟩
/-- [f x for x in ..]: no test -/
theorem xl_map {elt tg iter : Expr} {scope : Scope} {own : List (Str × Nat)} {τ : D → Env → Env → Prop} {ds : List D} (f : D → D) (hc : X.calm = true) (hN : X.N.Nodup) (hi : XI X tg iter ρ ds) (ok : BlkOk X.N X.env.scope scope own) (hg : Blk X scope fun Y => XG Y tg τ (own.map (·.2))) (hl : ds.length ≤ 10000)
    (hs : ∀ d, d ∈ ds → ∃ ρ2, τ d (wipeE ρ (own.map (·.2))) ρ2 ∧ noOl (f d) = true ∧ (Blk X scope fun Y => PE Y elt (tD X.K ρ2 (fun z => z = f d))))
    (hf : ∀ x, foldedSetIterable iter X.env x = pure x := by intro _; rfl) : XL X (.ListComp elt [⟨tg, iter, [], 0⟩] scope pos) ρ (fun z => z = ds.map f) := by
  refine xl_imp (xl_lc (fun i acc => acc = (ds.take i).map f) hc hN hi ok hg hl rfl (fun i d acc hd hI => ?_) hf) fun es h => by rw [h, List.take_length]
  obtain ⟨ρ2, h1, h2, h3⟩ := hs d (List.mem_of_getElem? hd)
  refine ⟨ρ2, true, h1, fun _ _ _ _ _ => xts_nil, (fun z => nomatch z), fun _ => ⟨_, h3, fun e he => ?_⟩⟩
  subst he hI
  exact ⟨h2, by rw [List.take_add_one, hd]; simp⟩
/-- [f x for x in .. if p x] -/
theorem xl_fm {elt tg iter c : Expr} {scope : Scope} {own : List (Str × Nat)} {τ : D → Env → Env → Prop} {ds : List D} (p : D → Bool) (f : D → D) (hc : X.calm = true) (hN : X.N.Nodup) (hi : XI X tg iter ρ ds) (ok : BlkOk X.N X.env.scope scope own) (hg : Blk X scope fun Y => XG Y tg τ (own.map (·.2))) (hl : ds.length ≤ 10000)
    (hs : ∀ d, d ∈ ds → ∃ ρ2, τ d (wipeE ρ (own.map (·.2))) ρ2 ∧ (Blk X scope fun Y => PT Y c (tDT X.K ρ2 (fun z => z = p d))) ∧ (p d = true → noOl (f d) = true ∧ (Blk X scope fun Y => PE Y elt (tD X.K ρ2 (fun z => z = f d)))))
    (hf : ∀ x, foldedSetIterable iter X.env x = pure x := by intro _; rfl) : XL X (.ListComp elt [⟨tg, iter, [c], 0⟩] scope pos) ρ (fun z => z = (ds.filter p).map f) := by
  refine xl_imp (xl_lc (fun i acc => acc = ((ds.take i).filter p).map f) hc hN hi ok hg hl rfl (fun i d acc hd hI => ?_) hf) fun es h => by rw [h, List.take_length]
  obtain ⟨ρ2, h1, h2, h3⟩ := hs d (List.mem_of_getElem? hd)
  refine ⟨ρ2, p d, h1, fun a b e f g => pts_one (h2 a b e f g), fun z => ?_, fun z => ?_⟩
  · rw [hI, List.take_add_one, hd]; simp [z]
  · obtain ⟨h4, h5⟩ := h3 z
    refine ⟨_, h5, fun e he => ?_⟩
    subst he hI
    exact ⟨h4, by rw [List.take_add_one, hd]; simp [z]⟩
end
section
variable {X : Cx} {ρ : Env} {Φ : Out} {pos : Pos} {rest : List Stmt}
/-- x, y = a, (a new list, our own) -/
theorem xss_parF (i j : Nat) {x y : Str} {a b : Expr} {px py pt : Pos} {kt k2 pt2} {d : D} {es : List D} (hN : X.N.Nodup) (ha : XV X a ρ d) (hb : XF X b ρ (fun z => z = es)) (hr : XSs X rest ((ρ.set i (some d)).set j (some (.ol es))) Φ) (n1 : noOl d = true := by rfl) (hc : X.calm = true := by rfl)
    (hi : X.N[i]? = some x := by rfl) (hj : X.N[j]? = some y := by rfl) (hij : i ≠ j := by decide) (hx : X.env.scope.names.lookup x = some .local := by rfl) (hy : X.env.scope.names.lookup y = some .local := by rfl)
    (he : starEach [a, b] X.env = (false, eval a X.env) :: starEach [b] X.env := by rfl) (he2 : starEach [b] X.env = (false, eval b X.env) :: starEach [] X.env := by rfl)
    (hw : swappedStores [.Tuple [.Name x px, .Name y py] kt pt] (.Tuple [a, b] k2 pt2) X.env = pure (some [x, y]) := by rfl) (hs : swapsWithSole [.Tuple [.Name x px, .Name y py] kt pt] (.Tuple [a, b] k2 pt2) pos.line X.env = pure false := by rfl) :
    XSs X (.Assign [.Tuple [.Name x px, .Name y py] kt pt] (.Tuple [a, b] k2 pt2) pos :: rest) ρ Φ :=
  xss_seq (ps_imp (ps_par hc hN hi hj hij hx hy (pa_cons ha (pa_cons hb pa_nil he2) he) hw hs) fun Dn σ H ⟨G0, H0, G, t, sl, k1, _⟩ => ⟨G, H0, t.ok, sl, fun G1 H1 v e t1 i1 s1 => ⟨G1, H0, t1.ok, sl.mono t1, fun G' H' p vs ds t2 hp hg hh hd s => by
    subst s1 s
    refine ⟨v, .ref p, rfl, ?_⟩
    have s1 := (sl.mono t1).set (i1.da n1) (i := i)
    refine k1 G' H' _ _ (t.trans (t1.trans t2)) ((s1.mono t2).setOwn (is_ol ((t.trans t1).fresh0 hp) hg hh hd) fun j e hj ne hs => ?_) rfl
    obtain ⟨q, o, hv, hq⟩ := s1.ownAt hj ne
    rw [hv] at hs; cases hs
    rw [hp] at hq; cases hq⟩⟩) hr
end

section
variable {X : Cx} {ρ : Env} {Φ : Out} {pos : Pos} {rest : List Stmt}
/-- x = [..], known from now on -/
theorem xss_setL (i : Nat) {x : Str} {e : Expr} {pos' : Pos} {ds : List D} (h : XL X e ρ (fun z => z = ds)) (hr : XSs X rest (ρ.set i (some (.lst ds))) Φ) (hi : X.N[i]? = some x := by rfl) (hx : X.env.scope.names.lookup x = some .local := by rfl) (hs : swapsWith e (some (.Name x pos')) pos.line X.env = pure true := by rfl) : XSs X (.Assign [.Name x pos'] e pos :: rest) ρ Φ :=
  xss_seq (ps_imp (h.2 hi hx hs) fun Dn σ H ⟨G0, H0, G, t, sl, k1, _⟩ => ⟨G, H0, t.ok, sl, fun G' H' p vs ds t' hp hg hh hd s => by
    subst s
    have t2 := t'.frz' hp hg hh pot_lst
    exact k1 _ H' _ _ (t.trans t2) ((sl.mono t2).set (.lst' (by rw [upd_same]) (hd.mono (Ex.upd hg)))) rfl⟩) hr
/-- .. our own -/
theorem xss_setLF (i : Nat) {x : Str} {e : Expr} {pos' : Pos} {ds : List D} (h : XL X e ρ (fun z => z = ds)) (hr : XSs X rest (ρ.set i (some (.ol ds))) Φ) (hi : X.N[i]? = some x := by rfl) (hx : X.env.scope.names.lookup x = some .local := by rfl) (hs : swapsWith e (some (.Name x pos')) pos.line X.env = pure true := by rfl) : XSs X (.Assign [.Name x pos'] e pos :: rest) ρ Φ :=
  xss_seq (ps_imp (h.2 hi hx hs) fun Dn σ H ⟨G0, H0, G, t, sl, k1, _⟩ => ⟨G, H0, t.ok, sl, fun G' H' p vs ds t' hp hg hh hd s => by
    subst s
    refine k1 G' H' _ _ (t.trans t') ((sl.mono t').setOwn (is_ol (t.fresh0 hp) hg hh hd) fun j e hj ne hs => ?_) rfl
    obtain ⟨q, o, hv, hq⟩ := sl.ownAt hj ne
    rw [hv] at hs; cases hs
    rw [hp] at hq; cases hq⟩) hr
end
end NL

/-! text P7 -/
set_option Elab.async false
set_option linter.all false
set_option maxRecDepth 100000
set_option maxHeartbeats 4000000
/-! answered, out_table_of, table_of. -/
namespace NL
open PySem PySem.Spec L2
open PyProof.Rows (envOfC)
variable {P : Program} {w : World} {K : PySem.W.Frag} {mg : Str → Option Value} {base : Heap}
/-! ### where a point's spots stand -/
def preSp (ts : List Told) (p : Nat) : List (Nat × Nat) := (List.range p).flatMap fun q => (List.range (tAt ts q).2.length).map fun k => (q, k)
def firstOf (ts : List Told) (p : Nat) : Nat := (preSp ts p).length
theorem mem_preSp {ts : List Told} {p : Nat} {x : Nat × Nat} : x ∈ preSp ts p ↔ x.1 < p ∧ x.2 < (tAt ts x.1).2.length := by
  unfold preSp
  rw [List.mem_flatMap]
  constructor
  · rintro ⟨q, hq, hx⟩
    obtain ⟨k, hk, rfl⟩ := List.mem_map.mp hx
    exact ⟨List.mem_range.mp hq, List.mem_range.mp hk⟩
  · rintro ⟨a, b⟩
    exact ⟨x.1, List.mem_range.mpr a, List.mem_map.mpr ⟨x.2, List.mem_range.mpr b, rfl⟩⟩
theorem mem_spots {ts : List Told} {x : Nat × Nat} : x ∈ spots ts ↔ x.1 < ts.length ∧ x.2 < (tAt ts x.1).2.length := mem_preSp (p := ts.length)
theorem spots_split (ts : List Told) {p : Nat} (h : p < ts.length) : ∃ post, spots ts = preSp ts p ++ ((List.range (tAt ts p).2.length).map (fun k => (p, k)) ++ post) := by
  obtain ⟨b, hb⟩ : ∃ b, ts.length = p + (1 + b) := ⟨ts.length - p - 1, by omega⟩
  unfold spots preSp
  rw [hb, List.range_add, List.flatMap_append, List.range_add, List.map_append, List.flatMap_append]
  refine ⟨((List.range b).map (fun x => 1 + x)).map (fun x => p + x) |>.flatMap fun q => (List.range (tAt ts q).2.length).map fun k => (q, k), ?_⟩
  congr 1
  congr 1
  simp
theorem spots_at {ts : List Told} {p s : Nat} (h : p < ts.length) (hs : s < (tAt ts p).2.length) : (spots ts)[firstOf ts p + s]? = some (p, s) := by
  obtain ⟨post, e⟩ := spots_split ts h
  rw [e, List.getElem?_append_right (by unfold firstOf; omega), List.getElem?_append_left (by simp [firstOf]; omega)]
  unfold firstOf
  simp [hs]
theorem spots_lt {ts : List Told} {p s : Nat} (h : p < ts.length) (hs : s < (tAt ts p).2.length) : firstOf ts p + s < (spots ts).length := (List.getElem?_eq_some_iff.mp (spots_at h hs)).1
theorem spots_ne {ts : List Told} {p m : Nat} (h : p < ts.length) (hm : m < firstOf ts p) : (spots ts)[m]? ≠ some (p, 0) := fun e => by
  obtain ⟨post, e2⟩ := spots_split ts h
  rw [e2, List.getElem?_append_left hm] at e
  have := (mem_preSp.mp (List.mem_of_getElem? e)).1
  simp at this
theorem spD_inj {a b : Nat × Nat} (h : spD a = spD b) : a = b := by
  unfold spD at h
  simp at h
  exact Prod.ext (by exact_mod_cast h.1) (by exact_mod_cast h.2)
/-! ### answered -/
def ansRow (ts : List Told) (m : Mat) (p k : Nat) : Nat → List GQ
  | 0 => (spots ts).map fun _ => GQ.ofInt 0
  | s + 1 => (ansRow ts m p k s).zipWith (fun here more => here + (tAt ts p).2.getD (k - s) (GQ.ofInt 0) * more) (m.getD (firstOf ts p + s) [])
def answM (ts : List Told) (m : Mat) : Mat := (spots ts).map fun s => ansRow ts m s.1 s.2 (s.2 + 1)
theorem rbd_zip {i j n : Nat} {f : GQ → GQ → GQ} (hf : ∀ x y, Bd i x → Bd j y → Bd n (f x y)) : ∀ {a b : List GQ}, RBd i a → RBd j b → RBd n (a.zipWith f b)
  | [], _, _, _ => fun x h => by cases h
  | _ :: _, [], _, _ => fun x h => by cases h
  | x :: a, y :: b, ha, hb => fun z h => by
    simp only [List.zipWith_cons_cons, List.mem_cons] at h
    rcases h with rfl | h
    · exact hf x y (ha x (List.mem_cons_self ..)) (hb y (List.mem_cons_self ..))
    · exact rbd_zip hf (fun u hu => ha u (List.mem_cons_of_mem _ hu)) (fun u hu => hb u (List.mem_cons_of_mem _ hu)) z h
theorem bd_zero {n : Nat} (h : 0 < n) : Bd n (GQ.ofInt 0) := bd_int (Nat.pow_pos (by decide)) h
theorem getD_bd {ts : List Told} (ok : TsOk ts) {p j : Nat} (h : p < ts.length) : Bd 2 ((tAt ts p).2.getD j (GQ.ofInt 0)) := by
  by_cases hj : j < (tAt ts p).2.length
  · exact ok.bd _ (tAt_mem h) _ (getD_mem hj)
  · rw [List.getD_eq_getElem?_getD, List.getElem?_eq_none (by omega)]
    exact bd_zero (by decide)
theorem ansRow_ok {ts : List Told} {m : Mat} {B p k : Nat} (ok : TsOk ts) (sq : Sq (spots ts).length m) (bm : MBd B m) (hp : p < ts.length) : ∀ s, s ≤ (tAt ts p).2.length → (ansRow ts m p k s).length = (spots ts).length ∧ RBd (1 + s * (B + 4)) (ansRow ts m p k s)
  | 0, _ => ⟨by simp [ansRow], fun x h => by
    obtain ⟨_, _, rfl⟩ := List.mem_map.mp h
    exact bd_zero (by omega)⟩
  | s + 1, hs => by
    obtain ⟨h1, h2⟩ := ansRow_ok ok sq bm hp (k := k) s (by omega)
    have hl := spots_lt hp (show s < _ by omega)
    have hm : m.getD (firstOf ts p + s) [] ∈ m := getD_mem (by rw [sq.rows]; exact hl)
    refine ⟨by unfold ansRow; rw [List.length_zipWith, h1, sq.cols _ hm, Nat.min_self], ?_⟩
    unfold ansRow
    refine rbd_zip (i := 1 + s * (B + 4)) (j := B) (fun x y bx by_ => ?_) h2 (bm _ hm)
    exact (bx.add ((getD_bd ok hp).mul by_)).mono (by rw [Nat.succ_mul]; omega)
theorem answM_ok {ts : List Told} {m : Mat} {B : Nat} (ok : TsOk ts) (sq : Sq (spots ts).length m) (bm : MBd B m) : Sq (spots ts).length (answM ts m) ∧ MBd (2 * B + 9) (answM ts m) := by
  refine ⟨⟨by simp [answM], fun r hr => ?_⟩, fun r hr => ?_⟩
  · obtain ⟨s, hs, rfl⟩ := List.mem_map.mp hr
    obtain ⟨a, b⟩ := mem_spots.mp hs
    exact (ansRow_ok ok sq bm a _ (by omega)).1
  · obtain ⟨s, hs, rfl⟩ := List.mem_map.mp hr
    obtain ⟨a, b⟩ := mem_spots.mp hs
    have f := (ok.few _ (tAt_mem a)).2
    intro x hx
    refine ((ansRow_ok ok sq bm a _ (by omega)).2 x hx).mono ?_
    have := Nat.mul_le_mul_right (B + 4) (show s.2 + 1 ≤ 2 by omega)
    omega
def fAns (q : GQ) : D → D
  | .tup [.num x, .num y] => .num (x + q * y)
  | _ => .non
def R_answered : Rel := fun ds T => ∃ (ts : List Told) (m : Mat) (B : Nat), ds = [toldsD ts, matD m] ∧ TsOk ts ∧ Sq (spots ts).length m ∧ MBd B m ∧ B ≤ 10000 ∧ T = fun z => z = matD (answM ts m)
theorem ok_answered (T : Tx P K mg) : Fk P w K mg base "answered" 39 R_answered := by
  obtain ⟨fd, F⟩ := T.F_answered
  refine mkFk F sc_answered T.g_answered ?_ ?_ (fun _ _ _ _ _ _ us hl => match us, hl with | [_, _], _ => rfl)
  · rintro ds S ⟨ts, m, B, rfl, _⟩; rfl
  · rintro cdv A outer s H E hr ds S ⟨ts, m, B, rfl, ok, sq, bm, hB, rfl⟩
    have hlen := ok.tot
    refine xss_parF 2 3 sc_answered.nd (xv_call (ok_spots_of T) (hr.mono (by decide)) (xva_cons (xv_var 0) xva_nil) ⟨ts, rfl, ok, rfl⟩) (xf_lst xva_nil) ?_
    refine xss_cons (M := fun ρ => ∃ o4 o5 o6 o7 o8 o9 o10 o11 o12, ρ = [some (toldsD ts), some (matD m), some (.lst ((spots ts).map spD)), some (.ol ((answM ts m).map rowD)), o4, o5, o6, o7, o8, o9, o10, o11, o12]) (xs_for (L := [4, 5]) PassesOwn.never rfl (xi_list (xv_var 2)) (xg_pair 4 5 rfl sc_answered.nd) (fun i ρ => ∃ o4 o5 o6 o7 o8 o9 o10 o11 o12, ρ = [some (toldsD ts), some (matD m), some (.lst ((spots ts).map spD)), some (.ol (((answM ts m).take i).map rowD)), o4, o5, o6, o7, o8, o9, o10, o11, o12]) ⟨none, none, none, none, none, none, none, none, none, rfl⟩ ?_ ?_) ?_
    · rintro i d ρ1 hd ⟨o4, o5, o6, o7, o8, o9, o10, o11, o12, rfl⟩
      rw [List.getElem?_map] at hd
      obtain ⟨⟨p, k⟩, hs, rfl⟩ := Option.map_eq_some_iff.mp hd
      have hm := mem_spots.mp (List.mem_of_getElem? hs)
      obtain ⟨hp, hk⟩ := hm
      simp only at hp hk
      have hf := ok.few _ (tAt_mem hp)
      refine ⟨_, ⟨_, _, rfl, rfl⟩, ?_⟩
      have p0 : (spots ts)[firstOf ts p]? = some (p, 0) := spots_at (s := 0) hp (by omega)
      refine xss_set 6 sc_answered.nd (d := .int (firstOf ts p : Nat)) (xv_index 2 (x := spD (p, 0)) hr (xv_var 2) (xv_tup (xva_cons (xv_var 4) (xva_cons xv_int xva_nil))) rfl ?_ (by rw [List.getElem?_map, p0]; rfl) ?_) ?_
      · rw [List.all_map]; exact List.all_eq_true.mpr fun x _ => rfl
      · intro m hm e
        rw [List.getElem?_map] at e
        obtain ⟨y, hy, e2⟩ := Option.map_eq_some_iff.mp e
        rw [spD_inj e2] at hy
        exact spots_ne hp hm hy
      refine xss_setL 7 (ds := (ansRow ts m p k 0).map D.num) (xl_imp (xl_map (own := [("column", 10)]) (τ := tName 10) (ds := (spots ts).map spD) (fun _ => .num (GQ.ofInt 0)) rfl sc_answered.nd (xi_list (xv_var 2)) (blk_ok rfl (by rfl)) (fun _ _ _ _ _ => xg_name 10 sc_answered.nd) (by simp; omega) ?_) (fun z e => e.trans ?_)) ?_
      · intro d _
        exact ⟨_, rfl, rfl, fun _ _ _ _ _ => xv_call0 (ok_nought T) (hr.mono (by decide)) ⟨rfl, rfl⟩⟩
      · unfold ansRow
        rw [List.map_map, List.map_map]; rfl
      refine xss_cons (M := fun ρ => ∃ o8 o9 o10 o11 o12, ρ = [some (toldsD ts), some (matD m), some (.lst ((spots ts).map spD)), some (.ol (((answM ts m).take i).map rowD)), some (.int (p : Int)), some (.int (k : Int)), some (.int (firstOf ts p : Nat)), some (rowD (ansRow ts m p k (k + 1))), o8, o9, o10, o11, o12]) (xs_for (L := [8]) PassesOwn.never rfl (xi_range1 T.b_range (xv_add (xv_var 5) xv_int) (m := k + 1) (by omega) (by omega)) (xg_name 8 sc_answered.nd) (fun j ρ => ∃ o8 o9 o10 o11 o12, ρ = [some (toldsD ts), some (matD m), some (.lst ((spots ts).map spD)), some (.ol (((answM ts m).take i).map rowD)), some (.int (p : Int)), some (.int (k : Int)), some (.int (firstOf ts p : Nat)), some (rowD (ansRow ts m p k j)), o8, o9, o10, o11, o12]) ⟨o8, o9, o10, o11, o12, rfl⟩ ?_ ?_) ?_
      · rintro j d ρ1 hd ⟨o8, o9, o10, o11, o12, rfl⟩
        obtain ⟨h1, rfl⟩ := rng_at hd
        rw [show (0 : Int) + (j : Nat) = (j : Int) by omega]
        have hjl : j < (tAt ts p).2.length := by omega
        have hl := spots_lt hp hjl
        obtain ⟨r1, r2⟩ := ansRow_ok ok sq bm hp (k := k) j (by omega)
        have hmm : m.getD (firstOf ts p + j) [] ∈ m := getD_mem (by rw [sq.rows]; exact hl)
        refine ⟨_, rfl, ?_⟩
        refine xss_set 9 sc_answered.nd (d := .num ((tAt ts p).2.getD (k - j) (GQ.ofInt 0))) (xv_ixL (xv_ixT (xv_ixL (xv_var 0) (xv_var 4) rfl (toldsD_at hp)) xv_int rfl) (xv_sub (xv_var 5) (xv_var 8)) rfl (by rw [show (k : Int) - (j : Int) = ((k - j : Nat) : Int) by omega]; exact rowD_at (by omega))) ?_
        refine xss_setL 7 (ds := (ansRow ts m p k (j + 1)).map D.num) (xl_imp (xl_map (own := [("here", 11), ("more", 12)]) (τ := tPair 11 12) (ds := ((ansRow ts m p k j).map D.num).zipWith (fun x y => D.tup [x, y]) ((m.getD (firstOf ts p + j) []).map D.num)) (fAns ((tAt ts p).2.getD (k - j) (GQ.ofInt 0))) rfl sc_answered.nd (xi_zip T.b_zip (xv_var 7) (xv_ixL (xv_var 1) (xv_add (xv_var 6) (xv_var 8)) rfl (by rw [show (firstOf ts p : Int) + (j : Int) = ((firstOf ts p + j : Nat) : Int) by omega]; exact matD_at (by rw [sq.rows]; exact hl)))) (blk_ok rfl (by rfl)) (fun _ _ _ _ _ => xg_pair 11 12 rfl sc_answered.nd) (by simp; omega) ?_) (fun z e => e.trans (zip_D (fAns ((tAt ts p).2.getD (k - j) (GQ.ofInt 0))) _ (fun _ _ => rfl) (ansRow ts m p k j) (m.getD (firstOf ts p + j) [])))) (xss_nil ⟨_, _, _, _, _, rfl⟩)
        intro d hd
        obtain ⟨x, y, hx, hy, rfl⟩ := mem_zip hd
        refine ⟨_, ⟨_, _, rfl, rfl⟩, rfl, fun _ _ _ _ _ => ?_⟩
        have bn := getD_bd ok hp (j := k - j)
        have bx := r2 x hx
        have hj2 : j * (B + 4) ≤ 2 * (B + 4) := Nat.mul_le_mul_right _ (by omega)
        exact xv_tadd (n := 30000) (ok_add T) (hr.mono (by decide)) T (xv_var 11) (xv_tmul (n := 10000) (ok_mul T) (hr.mono (by decide)) T (xv_var 9) (xv_var 12) (bn.mono (by decide)) ((bm _ hmm y hy).mono hB) (by decide) (by decide)) (bx.mono (by omega)) ((bn.mul (bm _ hmm y hy)).mono (by omega)) (by decide) (by decide)
      · rintro ρ1 ⟨o8, o9, o10, o11, o12, rfl⟩
        exact ⟨o8, o9, o10, o11, o12, by rw [rng_len]⟩
      · rintro ρ1 ⟨o8, o9, o10, o11, o12, rfl⟩
        have ei : (answM ts m)[i]? = some (ansRow ts m p k (k + 1)) := by
          unfold answM
          rw [List.getElem?_map, hs]; rfl
        refine xss_one (xs_append 3 rfl (xv_var 7) (fun _ e => ⟨by rw [e]; rfl, ?_⟩) ?_)
        · subst e
          refine ⟨some (.int (p : Int)), some (.int (k : Int)), some (.int (firstOf ts p : Nat)), some (rowD (ansRow ts m p k (k + 1))), o8, o9, o10, o11, o12, ?_⟩
          rw [List.take_add_one, ei, List.map_append]; rfl
        · rw [List.length_map, List.length_take]
          have := (answM_ok ok sq bm).1.rows
          omega
    · rintro ρ1 ⟨o4, o5, o6, o7, o8, o9, o10, o11, o12, rfl⟩
      refine ⟨o4, o5, o6, o7, o8, o9, o10, o11, o12, ?_⟩
      rw [List.length_map, List.take_of_length_le (by unfold answM; simp)]
    · rintro ρ1 ⟨o4, o5, o6, o7, o8, o9, o10, o11, o12, rfl⟩
      exact xss_one (xs_retv (xv_var 3) ⟨rfl, rfl⟩)
/-! ### out_table_of, table_of -/
theorem turnM_ok {n B : Nat} {m : Mat} (sq : Sq n m) (bm : MBd B m) (hB : 0 < B) : Sq n (turnM m) ∧ MBd B (turnM m) := by
  refine ⟨⟨by simp [turnM, sq.rows], fun r hr => ?_⟩, fun r hr x hx => ?_⟩
  · obtain ⟨c, _, rfl⟩ := List.mem_map.mp hr
    simp [sq.rows]
  · obtain ⟨c, _, rfl⟩ := List.mem_map.mp hr
    obtain ⟨r, hr, rfl⟩ := List.mem_map.mp hx
    by_cases h : c < r.length
    · exact (bm r hr _ (getD_mem h)).conj
    · rw [List.getD_eq_getElem?_getD, List.getElem?_eq_none (by omega)]
      exact (bd_zero hB).conj
def outM (ts : List Told) (m : Mat) : Mat := turnM (answM ts (turnM (answM ts m)))
def R_out : Rel := fun ds T => ∃ (ts : List Told) (m : Mat) (B : Nat), ds = [toldsD ts, matD m] ∧ TsOk ts ∧ Sq (spots ts).length m ∧ MBd B m ∧ 0 < B ∧ B ≤ 1000 ∧ T = fun z => z = matD (outM ts m)
theorem ok_out_table_of (T : Tx P K mg) : Fk P w K mg base "out_table_of" 40 R_out := by
  obtain ⟨fd, F⟩ := T.F_out_table_of
  refine mkFk F sc_out_table_of T.g_out_table_of ?_ ?_ (fun _ _ _ _ _ _ us hl => match us, hl with | [_, _], _ => rfl)
  · rintro ds S ⟨ts, m, B, rfl, _⟩; rfl
  · rintro cdv A outer s H E hr ds S ⟨ts, m, B, rfl, ok, sq, bm, h0, hB, rfl⟩
    have hl := ok.tot
    obtain ⟨s1, b1⟩ := answM_ok ok sq bm
    obtain ⟨s2, b2⟩ := turnM_ok s1 b1 (by omega)
    obtain ⟨s3, b3⟩ := answM_ok ok s2 b2
    exact xss_one (xs_retv (xv_call (ok_turned T) (hr.mono (by decide)) (xva_cons (xv_call (ok_answered T) hr (xva_cons (xv_var 0) (xva_cons (xv_call (ok_turned T) (hr.mono (by decide)) (xva_cons (xv_call (ok_answered T) hr (xva_cons (xv_var 0) (xva_cons (xv_var 1) xva_nil)) ⟨ts, m, B, rfl, ok, sq, bm, by omega, rfl⟩) xva_nil) ⟨_, _, rfl, s1, by omega, rfl⟩) xva_nil)) ⟨ts, _, _, rfl, ok, s2, b2, by omega, rfl⟩) xva_nil) ⟨_, _, rfl, s3, by omega, rfl⟩) ⟨rfl, rfl⟩)
end NL

/-! text DL14 -/
set_option Elab.async false
set_option linter.all false
set_option maxRecDepth 100000
set_option maxHeartbeats 4000000
/-! The D-layer with objects that change: Ω tells, of the heap, how they stand. -/
namespace NL
open PySem PySem.Spec L2
/-- of H0 (the heap at the entry), G (what is known for good) and H -/
abbrev HW := Hp → Hp → Hp → Prop
/-- holds still while nothing of H0 ∪ H changes -/
def Still (Ω : HW) : Prop := ∀ H0 G H G' H', Ω H0 G H → Tr G H G' H' → Ω H0 G' H'
structure OutW where
  nx : Env → HW
  rt : D → HW := fun _ _ _ _ => False
  bk : Env → HW := fun _ _ _ _ => False
def tDW (K : PySem.W.Frag) (ρ : Env) (Ω : HW) (Φ : OutW) : TS := fun Dn σ H => ∃ G0 H0 G, Tr G0 H0 G H ∧ Sl K H0 G H σ ρ ∧ Ω H0 G H ∧
  (∀ G' H' σ' ρ', Tr G0 H0 G' H' → Sl K H0 G' H' σ' ρ' → Φ.nx ρ' H0 G' H' → Dn.nx σ' H') ∧ (∀ G' H' σ' ρ', Tr G0 H0 G' H' → Sl K H0 G' H' σ' ρ' → Φ.bk ρ' H0 G' H' → Dn.bk σ' H') ∧
  (∀ G' H' v d, Tr G0 H0 G' H' → Is K H0 G' H' v d → Φ.rt d H0 G' H' → Dn.rt v H')
abbrev XW (X : Cx) (st : Stmt) (ρ : Env) (Ω : HW) (Φ : OutW) : Prop := PS X st (tDW X.K ρ Ω Φ)
abbrev XWs (X : Cx) (st : List Stmt) (ρ : Env) (Ω : HW) (Φ : OutW) : Prop := PSs X st (tDW X.K ρ Ω Φ)
def tAnyW (X : Cx) (sts : List Stmt) : TS := fun Dn σ H => ∃ ρ Ω Φ, XWs X sts ρ Ω Φ ∧ tDW X.K ρ Ω Φ Dn σ H
section
variable {X : Cx} {ρ : Env} {Ω : HW} {Φ : OutW} {pos : Pos} {rest : List Stmt}
theorem pss_anyW {sts : List Stmt} : PSs X sts (tAnyW X sts) := ⟨fun pins s σ H Dn I ⟨_, _, _, h, q⟩ => h.run pins s σ H Dn I q⟩
theorem xws_nil (h : ∀ H0 G H, Ω H0 G H → Φ.nx ρ H0 G H) : XWs X [] ρ Ω Φ := pss_imp pss_nil fun Dn σ H ⟨G0, H0, G, t, sl, o, k, _⟩ => k G H σ ρ t sl (h _ _ _ o)
theorem xws_cons {st : Stmt} {M : Env → HW} (h : XW X st ρ Ω { Φ with nx := M }) (hr : ∀ ρ', XWs X rest ρ' (M ρ') Φ) : XWs X (st :: rest) ρ Ω Φ :=
  pss_imp (pss_cons h pss_anyW) fun Dn σ H ⟨G0, H0, G, t, sl, o, k1, k2, k3⟩ => ⟨G0, H0, G, t, sl, o, fun G' H' σ' ρ' t' sl' m => ⟨ρ', M ρ', Φ, hr ρ', G0, H0, G', t', sl', m, k1, k2, k3⟩, k2, k3⟩
/-- one way on -/
theorem xws_seq {st : Stmt} {ρ' : Env} {Ω' : HW} (h : XW X st ρ Ω { Φ with nx := fun z H0 G H => z = ρ' ∧ Ω' H0 G H }) (hr : XWs X rest ρ' Ω' Φ) : XWs X (st :: rest) ρ Ω Φ :=
  pss_imp (pss_cons h pss_anyW) fun Dn σ H ⟨G0, H0, G, t, sl, o, k1, k2, k3⟩ => ⟨G0, H0, G, t, sl, o, fun G' H' σ' ρ1 t' sl' ⟨e, m⟩ => ⟨ρ', Ω', Φ, hr, G0, H0, G', t', e ▸ sl', m, k1, k2, k3⟩, k2, k3⟩
theorem xws_one {st : Stmt} (h : XW X st ρ Ω Φ) : XWs X [st] ρ Ω Φ := pss_one h
theorem xws_imp {sts : List Stmt} {Ω' : HW} (h : XWs X sts ρ Ω' Φ) (w : ∀ H0 G H, Ω H0 G H → Ω' H0 G H) : XWs X sts ρ Ω Φ := pss_imp h fun Dn σ H ⟨G0, H0, G, t, sl, o, k⟩ => ⟨G0, H0, G, t, sl, w _ _ _ o, k⟩
/-- less is known -/
theorem xws_weak {sts : List Stmt} {ρ' : Env} (h : XWs X sts ρ' Ω Φ) (hl : ρ'.length = ρ.length) (w : ∀ (i : Nat) d, ρ'[i]? = some (some d) → ρ[i]? = some (some d)) : XWs X sts ρ Ω Φ :=
  pss_imp h fun Dn σ H ⟨G0, H0, G, t, sl, k⟩ => ⟨G0, H0, G, t, sl.weak hl w, k⟩
/-- the whole body: from a promise without Ω -/
theorem xss_of_w {sts : List Stmt} {Ψ : Out} (h : XWs X sts ρ (fun _ _ _ => True) { nx := fun z _ _ _ => Ψ.nx z, rt := fun d _ _ _ => Ψ.rt (frz d) }) : XSs X sts ρ Ψ :=
  pss_imp h fun Dn σ H ⟨G0, H0, G, t, sl, k1, k2, k3, k4⟩ => ⟨G0, H0, G, t, sl, trivial, fun G' H' σ' ρ' t' sl' n => k1 G' H' σ' ρ' t' sl' n, fun _ _ _ _ _ _ z => z.elim, fun G' H' v d t' i r => k4 G' H' v d t' i r⟩
theorem Is.rebase {K : PySem.W.Frag} {G0 H0 G H G' H' : Hp} {v : V} {d : D} (t : Tr G0 H0 G H) (h : Is K H G' H' v d) : Is K H0 G' H' v d := by
  cases d with
  | ol ds => obtain ⟨p, vs, e, h0, r⟩ := h; exact ⟨p, vs, e, t.fresh0 h0, r⟩
  | ob p C fs => obtain ⟨e, h0, r⟩ := h; exact ⟨e, t.fresh0 h0, r⟩
  | _ => exact Is.of h
theorem Sl.rebase {K : PySem.W.Frag} {G0 H0 G H G' H' : Hp} {σ : L2.St} {ρ : Env} (t : Tr G0 H0 G H) (h : Sl K H G' H' σ ρ) : Sl K H0 G' H' σ ρ :=
  ⟨h.len, fun i d e => let ⟨v, a, b⟩ := h.at_ i d e; ⟨v, a, b.rebase t⟩, h.sep⟩
/-- a statement that leaves what Ω tells alone -/
theorem xw_lift {st : Stmt} {Ψ : Out} (hk : knownE ρ = true) (hst : Still Ω) (h : XS X st ρ Ψ) (w1 : ∀ z H0 G H, Ψ.nx z → Ω H0 G H → Φ.nx z H0 G H) (w2 : ∀ d H0 G H, Ψ.rt (frz d) → Ω H0 G H → Φ.rt d H0 G H) (w3 : ∀ z, ¬ Ψ.bk z) (w4 : ∀ z, ¬ Ψ.ct z) : XW X st ρ Ω Φ :=
  ps_imp h fun Dn σ H ⟨G0, H0, G, t, sl, o, k1, k2, k3⟩ => ⟨G, H, G, Tr.refl t.ok, sl.known hk (Ex.refl G),
    fun G' H' σ' ρ' t' sl' n => k1 G' H' σ' ρ' (t.trans t') (sl'.rebase t) (w1 _ _ _ _ n (hst _ _ _ _ _ o t')), fun G' H' σ' ρ' t' sl' n => (w3 _ n).elim, fun G' H' σ' ρ' t' sl' n => (w4 _ n).elim,
    fun G' H' v d t' i r => k3 G' H' v d (t.trans t') (i.rebase t) (w2 _ _ _ _ r (hst _ _ _ _ _ o t'))⟩
/-- .. ahead of the rest -/
theorem xws_lift {st : Stmt} {ρ' : Env} (hst : Still Ω) (h : XS X st ρ { nx := fun z => z = ρ', rt := fun _ => False }) (hr : XWs X rest ρ' Ω Φ) (hk : knownE ρ = true := by rfl) : XWs X (st :: rest) ρ Ω Φ :=
  xws_seq (xw_lift hk hst h (fun _ _ _ _ e o => ⟨e, o⟩) (fun _ _ _ _ z => z.elim) (fun _ z => z.elim) (fun _ z => z.elim)) hr
/-- if, the test known -/
theorem xw_if {c : Expr} {a b : List Stmt} {k : Bool} (hk : knownE ρ = true) (hst : Still Ω) (hc : XT X c ρ (fun z => z = k)) (ha : k = true → XWs X a ρ Ω Φ) (hb : k = false → XWs X b ρ Ω Φ) : XW X (.If c a b pos) ρ Ω Φ := by
  cases k with
  | true =>
    refine ps_imp (ps_if hc (ha rfl) (u := fun _ _ _ => False) ⟨fun _ _ _ _ _ _ q => q.elim⟩) fun Dn σ H ⟨G0, H0, G, t, sl, o, k⟩ => ⟨G, H0, t.ok, sl, fun G' H' v t' s => ?_⟩
    subst s
    exact iteT ⟨G0, H0, G', t.trans t', sl.mono t', hst _ _ _ _ _ o t', k⟩
  | false =>
    refine ps_imp (ps_if hc (t := fun _ _ _ => False) ⟨fun _ _ _ _ _ _ q => q.elim⟩ (hb rfl)) fun Dn σ H ⟨G0, H0, G, t, sl, o, k⟩ => ⟨G, H0, t.ok, sl, fun G' H' v t' s => ?_⟩
    subst s
    exact iteF ⟨G0, H0, G', t.trans t', sl.mono t', hst _ _ _ _ _ o t', k⟩
/-- for -/
theorem xw_for {tg iter : Expr} {body : List Stmt} {τ : D → Env → Env → Prop} {L : List Nat} {ds : List D} (hst : Still Ω) (hp : PassesOwn (model X.prog X.w) X.A X.env X.xe) (hc : X.calm = true) (hi : XI X tg iter ρ ds) (hg : XG X tg τ L) (I : Nat → HW) (hI : ∀ i, Still (I i)) (ρl : Nat → Env) (h0 : ∀ H0 G H, Ω H0 G H → I 0 H0 G H) (e0 : (ρl 0).length = ρ.length ∧ ∀ (i : Nat) d, (ρl 0)[i]? = some (some d) → ρ[i]? = some (some d))
    (hs : ∀ i d, ds[i]? = some d → ∃ ρ2, τ d (ρl i) ρ2 ∧ XWs X body ρ2 (I i) { nx := fun z H0 G H => ((ρl (i + 1)).length = z.length ∧ ∀ (j : Nat) d, (ρl (i + 1))[j]? = some (some d) → z[j]? = some (some d)) ∧ I (i + 1) H0 G H, bk := fun _ _ _ _ => False, rt := Φ.rt }) (hd : ∀ H0 G H, I ds.length H0 G H → Φ.nx (ρl ds.length) H0 G H)
    (hf : ∀ x, foldedSetIterable iter X.env x = pure x := by intro _; rfl) : XW X (.For tg iter body [] pos) ρ Ω Φ :=
  ps_imp (ps_for hp hc hi hg pss_anyW hf) fun Dn σ H ⟨G0, H0, G, t, sl, o, k1, k2, k3⟩ => ⟨G, H0, t.ok, sl, fun G' H' J t' wk => by
    refine ⟨fun i m σ1 H1 => m = ds.length - i ∧ i ≤ ds.length ∧ ∃ G1, I i H0 G1 H1 ∧ Tr G0 H0 G1 H1 ∧ Ex G' G1 ∧ Sl X.K H0 G1 H1 σ1 (ρl i), ⟨ds.length, rfl, Nat.zero_le _, G', h0 _ _ _ (hst _ _ _ _ _ o t'), t.trans t', Ex.refl _, (sl.mono t').weak e0.1 e0.2⟩, ?_⟩
    rintro i m σ1 H1 ⟨rfl, hi, G1, hI1, t1, ex1, sl1⟩
    obtain ⟨go, st⟩ := wk G1 H1 i ex1 t1.ok
    by_cases hlt : i < ds.length
    · obtain ⟨g1, g2⟩ := go ds[i] (by simp [hlt])
      refine .inr ⟨g1, fun σ2 H2 => i < ds.length ∧ ∃ G2, I (i + 1) H0 G2 H2 ∧ Tr G0 H0 G2 H2 ∧ Ex G' G2 ∧ Sl X.K H0 G2 H2 σ2 (ρl (i + 1)), fun σ2 H2 ⟨a, b⟩ => ⟨ds.length - (i + 1), by omega, rfl, by omega, b⟩, fun x H2 y => ?_⟩
      obtain ⟨G2, t2, da⟩ := g2 x H2 y
      obtain ⟨ρ2, hτ, hb⟩ := hs i ds[i] (by simp [hlt])
      refine ⟨G2, H0, ρl i, _, ρ2, t2.ok, sl1.mono t2, da, hτ, fun σ3 sl3 _ => ?_⟩
      have t3 := t1.trans t2
      exact ⟨ρ2, I i, _, hb, G2, H0, G2, t3.rebase, sl3, hI i _ _ _ _ _ hI1 t2, fun G4 H4 σ4 ρ4 t4 sl4 ⟨⟨l4, w4⟩, o4⟩ => ⟨hlt, G4, o4, t3.join t4, (ex1.trans t2.gg).trans t4.gg, sl4.weak l4 w4⟩, fun _ _ _ _ _ _ z => z.elim, fun G4 H4 v d t4 i4 s4 => k3 G4 H4 v d (t3.join t4) i4 s4⟩
    · have e : i = ds.length := by omega
      subst e
      exact .inl ⟨st (Nat.le_refl _), k1 G1 H1 σ1 (ρl ds.length) t1 sl1 (hd _ _ _ hI1)⟩⟩
/-- a reading of the heap by Ω -/
def tDE (K : PySem.W.Frag) (ρ : Env) (Ω : HW) (S : D → Prop) : TE := fun σ H Q => ∃ G H0, Le G H ∧ Sl K H0 G H σ ρ ∧ Ω H0 G H ∧ ∀ G' H' v d, Tr G H G' H' → Is K H0 G' H' v d → S d → Q v H'
abbrev XEW (X : Cx) (e : Expr) (ρ : Env) (Ω : HW) (S : D → Prop) : Prop := PE X e (tDE X.K ρ Ω S)
/-- x = e, e read by Ω -/
theorem xws_setW (i : Nat) {x : Str} {e : Expr} {pos' : Pos} {d : D} (hst : Still Ω) (h : XEW X e ρ Ω (fun z => z = d)) (hr : XWs X rest (ρ.set i (some d)) Ω Φ) (hN : X.N.Nodup) (n : noOl d = true := by rfl) (hi : X.N[i]? = some x := by rfl) (hx : Loc X.env.scope x := by first | exact Or.inl rfl | exact Or.inr rfl)
    (hs : swapsWithSole [.Name x pos'] e pos.line X.env = pure false := by rfl) (hw : swappedStores [.Name x pos'] e X.env = pure none := by rfl)
    (hf : X.fn x = true ∨ X.env.scope.names.lookup x = some .local := by first | exact .inl rfl | exact .inr rfl | assumption) : XWs X (.Assign [.Name x pos'] e pos :: rest) ρ Ω Φ :=
  xws_seq (ps_imp (ps_asg h (pg_name hN hi hx hf) hs hw rfl) fun Dn σ H ⟨G0, H0, G, t, sl, o, k1, _⟩ => ⟨G, H0, t.ok, sl, o, fun G' H' v d' t' i s => by
    subst s
    exact k1 G' H' _ _ (t.trans t') ((sl.mono t').set (i.da n)) ⟨rfl, hst _ _ _ _ _ o t'⟩⟩) hr
end
end NL

/-! text P8 -/
set_option Elab.async false
set_option linter.all false
set_option maxRecDepth 100000
set_option maxHeartbeats 4000000
/-! force_table_of: a list of lists that is changed in place. -/
namespace NL
open PySem PySem.Spec L2
open PyProof.Rows (envOfC)
/-- at p a list of lists, all our own -/
def MatAt (K : PySem.W.Frag) (p : Addr) (m : List (List D)) : HW := fun H0 G H => ∃ qs : List Addr, H0 p = none ∧ G p = none ∧ H p = some (.lst (qs.map V.ref)) ∧ qs.Nodup ∧ p ∉ qs ∧ qs.length = m.length ∧
  ∀ (i : Nat) q r, qs[i]? = some q → m[i]? = some r → H0 q = none ∧ G q = none ∧ ∃ vs, H q = some (.lst vs) ∧ DaL K G vs r
theorem ref_not_pot {G H : Hp} {p : Addr} (hg : G p = none) : G p ≠ some potMark := by rw [hg]; exact fun z => nomatch z
theorem MatAt.still {K : PySem.W.Frag} {p : Addr} {m : List (List D)} : Still (MatAt K p m) := fun H0 G H G' H' ⟨qs, a, b, c, d, e, f, g⟩ t =>
  ⟨qs, a, t.pv _ _ c b, t.hh _ _ c (by rw [b]; exact fun z => nomatch z), d, e, f, fun i q r h1 h2 => by
    obtain ⟨x, y, vs, z, u⟩ := g i q r h1 h2
    exact ⟨x, t.pv _ _ z y, vs, t.hh _ _ z (by rw [y]; exact fun z => nomatch z), u.mono t.gg⟩⟩
theorem nodup_at {α : Type} {l : List α} (h : l.Nodup) {i j : Nat} {x : α} (hi : l[i]? = some x) (hj : l[j]? = some x) : i = j := by
  induction l generalizing i j with
  | nil => cases hi
  | cons a l ih =>
    obtain ⟨h1, h2⟩ := List.nodup_cons.mp h
    cases i with
    | zero =>
      cases j with
      | zero => rfl
      | succ j => simp at hi hj; subst hi; exact absurd (List.mem_of_getElem? hj) h1
    | succ i =>
      cases j with
      | zero => simp at hi hj; subst hj; exact absurd (List.mem_of_getElem? hi) h1
      | succ j => exact congrArg (· + 1) (ih h2 (i := i) (j := j) (by simpa using hi) (by simpa using hj))
section
variable {X : Cx} {ρ : Env} {Φ : OutW} {pos : Pos} {rest : List Stmt}
/-- x = [(a new list) for .. in ..] -/
theorem xws_setMat (i : Nat) {y : Str} {py spos : Pos} {Ω : HW} {elt tg iter : Expr} {scope : Scope} {own : List (Str × Nat)} {τ : D → Env → Env → Prop} {ds : List D} (f : D → List D) (hst : Still Ω) (hk : knownE ρ = true) (hc : X.calm = true) (hN : X.N.Nodup) (hi : XI X tg iter ρ ds) (ok : BlkOk X.N X.env.scope scope own)
    (hg : Blk X scope fun Y => XG Y tg τ (own.map (·.2))) (hl : ds.length ≤ 10000)
    (hs : ∀ d, d ∈ ds → ∃ ρ2, τ d (wipeE ρ (own.map (·.2))) ρ2 ∧ (Blk X scope fun Y => PE Y elt (tDF X.K ρ2 (fun z => z = f d))))
    (hr : ∀ p, XWs X rest (ρ.set i (some (.adr p))) (fun H0 G H => Ω H0 G H ∧ MatAt X.K p (ds.map f) H0 G H) Φ)
    (hy : X.N[i]? = some y := by rfl) (hyl : X.env.scope.names.lookup y = some .local := by rfl) (hsw : swapsWith (.ListComp elt [⟨tg, iter, [], 0⟩] scope pos) (some (.Name y py)) spos.line X.env = pure true := by rfl)
    (hf : ∀ x, foldedSetIterable iter X.env x = pure x := by intro _; rfl) : XWs X (.Assign [.Name y py] (.ListComp elt [⟨tg, iter, [], 0⟩] scope pos) spos :: rest) ρ Ω Φ := by
  let tF : TE := fun σ H Q => ∃ ρ S, (Blk X scope fun Y => PE Y elt (tDF X.K ρ S)) ∧ tDF X.K ρ S σ H Q
  have hF : Blk X scope fun Y => PE Y elt tF := fun s H C cl fp => ⟨fun pins s' σ H' Q I ⟨_, _, h, q⟩ => (h s H C cl fp).run pins s' σ H' Q I q⟩
  refine pss_imp (pss_cons (ps_setLc (te := tF) (tt := tAnyBT X scope []) (g := tDG X.K τ (own.map (·.2))) hc hN hy hyl hsw hi ok hg pts_anyB hF hf) pss_anyW) fun Dn σ H ⟨G0, H0, G, t0, sl, o, k⟩ => ?_
  refine ⟨G, H, t0.ok, sl.known hk (Ex.refl G), fun G' H' J t wk DD hD => ?_⟩
  have hD0 : H DD = none := t.fresh0 hD
  have tS : Tr G H G' (upd H' DD (.lst [])) := t.trans (Tr.own t.ok hD)
  refine ⟨fun i m H1 => m = ds.length - i ∧ i ≤ ds.length ∧ ∃ (G1 : Hp) (qs : List Addr), Tr G H G1 H1 ∧ Ex G' G1 ∧ G1 DD = none ∧ H1 DD = some (.lst (List.map V.ref qs)) ∧ List.Nodup qs ∧ DD ∉ qs ∧ List.length qs = i ∧ ∀ (j : Nat) q r, qs[j]? = some q → (ds.map f)[j]? = some r → H q = none ∧ G1 q = none ∧ ∃ vs, H1 q = some (.lst vs) ∧ DaL X.K G1 vs r,
    ⟨ds.length, rfl, Nat.zero_le _, G', [], tS, Ex.refl _, t.ok.none hD, upd_same, List.nodup_nil, by simp, rfl, fun j q r h => by cases h⟩, ?_⟩
  rintro i m H1 ⟨rfl, hi, G1, qs, t1, ex1, g1, h1, nd, nin, hlen, hq⟩
  obtain ⟨go, st⟩ := wk G1 H1 i ex1 t1.ok
  by_cases hlt : i < ds.length
  · obtain ⟨go1, go2⟩ := go ds[i] (by simp [hlt])
    refine .inr ⟨go1, fun H2 => i < ds.length ∧ ∃ (G1 : Hp) (qs : List Addr), Tr G H G1 H2 ∧ Ex G' G1 ∧ G1 DD = none ∧ H2 DD = some (.lst (qs.map V.ref)) ∧ qs.Nodup ∧ DD ∉ qs ∧ qs.length = i + 1 ∧ ∀ (j : Nat) q r, qs[j]? = some q → (ds.map f)[j]? = some r → H q = none ∧ G1 q = none ∧ ∃ vs, H2 q = some (.lst vs) ∧ DaL X.K G1 vs r, fun H2 ⟨a, b⟩ => ⟨ds.length - (i + 1), by omega, rfl, by omega, b⟩, fun x H2 y => ?_⟩
    obtain ⟨G2, t2, da⟩ := go2 x H2 y
    have pv : ∀ {Ga Ha Gb Hb : Hp} {ws : List V} {a : Addr}, Tr Ga Ha Gb Hb → Ga a = none → Ha a = some (.lst ws) → Gb a = none ∧ Hb a = some (.lst ws) := fun t g h => ⟨t.pv _ _ h g, t.hh _ _ h (by rw [g]; exact fun z => nomatch z)⟩
    obtain ⟨g2, h2⟩ := pv t2 g1 h1
    obtain ⟨ρ2, hτ, hE⟩ := hs ds[i] (List.getElem_mem hlt)
    refine ⟨G2, H, wipeE ρ (own.map (·.2)), _, ρ2, t2.ok, ((sl.known hk (Ex.refl G)).mono (t1.trans t2)).wipe _, da, hτ, fun σ3 sl3 c3 => ⟨c3.wipe, ?_⟩⟩
    refine ⟨ρ2, _, fun _ _ _ _ _ => xts_nil, G2, H, t2.ok, sl3, fun G3 H3 z t3 e => ?_⟩
    subst e
    obtain ⟨g3, h3⟩ := pv t3 g2 h2
    refine iteT ⟨ρ2, _, hE, G3, H, t3.ok, sl3.mono t3, fun G4 H4 p vs es t4 hp hg4 hh hd s => ?_⟩
    subst s
    obtain ⟨g4, h4⟩ := pv t4 g3 h3
    have t34 := ((t1.trans t2).trans t3).trans t4
    have hpD : p ≠ DD := fun z => by rw [z, h3] at hp; cases hp
    have old : ∀ (j : Nat) q r, qs[j]? = some q → (ds.map f)[j]? = some r → H q = none ∧ G4 q = none ∧ q ≠ p ∧ q ≠ DD ∧ ∃ vs, H4 q = some (.lst vs) ∧ DaL X.K G4 vs r := fun j q r e1 e2 => by
      obtain ⟨a, b, ws, c, d⟩ := hq j q r e1 e2
      have t23 := t2.trans t3
      obtain ⟨b3, c3⟩ := pv t23 b c
      obtain ⟨b4, c4⟩ := pv t4 b3 c3
      refine ⟨a, b4, (fun z => by subst z; rw [c3] at hp; cases hp), fun z => nin (z ▸ List.mem_of_getElem? e1), ws, c4, d.mono (t23.gg.trans t4.gg)⟩
    have hpq : p ∉ qs := fun hm => by
      obtain ⟨j, e⟩ := List.getElem?_of_mem hm
      have hj : j < ds.length := by have := (List.getElem?_eq_some_iff.mp e).1; omega
      exact (old j p _ e (List.getElem?_eq_getElem (by simpa using hj))).2.2.1 rfl
    refine ⟨qs.map V.ref, h4, ?_, hlt, G4, qs ++ [p], t34.mut hD0 g4, ((ex1.trans t2.gg).trans t3.gg).trans t4.gg, g4, by rw [upd_same, List.map_append]; rfl, ?_, ?_, by simp [hlen], fun j q r e1 e2 => ?_⟩
    · rw [List.length_map, hlen]
      exact Nat.lt_of_lt_of_le (Nat.lt_of_lt_of_le hlt hl) (by decide)
    · rw [List.nodup_append]
      exact ⟨nd, by simp, fun a ha b hb => by simp at hb; subst hb; exact fun z => hpq (z ▸ ha)⟩
    · simp [nin, Ne.symm hpD]
    · by_cases hj : j < qs.length
      · rw [List.getElem?_append_left hj] at e1
        obtain ⟨a, b, c, d, ws, e, g⟩ := old j q r e1 e2
        exact ⟨a, b, ws, by rw [upd_ne d]; exact e, g⟩
      · have hjl : j = qs.length := by
          have := (List.getElem?_eq_some_iff.mp e1).1
          simp at this; omega
        subst hjl
        simp at e1
        subst e1
        rw [hlen, List.getElem?_map, List.getElem?_eq_getElem hlt] at e2
        cases e2
        exact ⟨((t1.trans t2).trans t3).fresh0 hp, hg4, vs, by rw [upd_ne hpD]; exact hh, hd⟩
  · have e : i = ds.length := by omega
    subst e
    refine .inl ⟨st (Nat.le_refl _), ?_⟩
    refine ⟨ρ.set _ (some (.adr DD)), _, Φ, hr DD, G0, H0, G1, t0.trans t1, ((sl.mono t1).set (.adr DD)), ⟨hst _ _ _ _ _ o t1, qs, t0.fresh0 hD0, g1, h1, nd, nin, by simp [hlen], fun j q r e1 e2 => ?_⟩, k⟩
    obtain ⟨a, b⟩ := hq j q r e1 e2
    exact ⟨t0.fresh0 a, b⟩
/-- found[a][b] = x -/
theorem xws_set2 (i : Nat) {o ia ib e : Expr} {p1 p2 : Pos} {p : Addr} {m : List (List D)} {a b : Nat} {x : D} {r : List D} (hk : knownE ρ = true) (ho : XV X o ρ (.adr p)) (ha : XV X ia ρ (.int (a : Int))) (hb : XV X ib ρ (.int (b : Int))) (he : XV X e ρ x) (hm : m[a]? = some r) (hb2 : b < r.length) (n : noOl x = true) (hr : XWs X rest ρ (MatAt X.K p (m.set a (r.set b x))) Φ)
    (hs1 : PlainIx ia := by exact fun _ _ => rfl)
    (hA : ∀ v, assign (.Subscript (.Subscript o ia p1) ib p2) X.env v = (do
      let ov ← holding [v] (eval (.Subscript o ia p1) X.env)
      let iv ← holding [v, ov] (eval ib X.env)
      standAt p2
      holding [v, ov, iv] (setItem ov iv v)
      release [v, ov, iv] []) := by intro _; rfl)
    (hs : swapsWithSole [.Subscript (.Subscript o ia p1) ib p2] e pos.line X.env = pure false := by rfl) (hw : swappedStores [.Subscript (.Subscript o ia p1) ib p2] e X.env = pure none := by rfl) : XWs X (.Assign [.Subscript (.Subscript o ia p1) ib p2] e pos :: rest) ρ (MatAt X.K p m) Φ := by
  refine pss_imp (pss_cons (ps_asg he (pg_sub (pe_ix ix_list ho ha hs1) hb set_list hA) hs hw rfl) pss_anyW) fun Dn σ H ⟨G0, H0, G, t, sl, o, k⟩ => ?_
  refine ⟨G, H0, t.ok, sl, fun G1 H1 v d t1 i1 s1 => ?_⟩
  subst s1
  refine ⟨G1, H0, (t.trans t1).ok, sl.mono t1, fun G2 H2 u d2 t2 i2 s2 => ?_⟩
  subst s2
  cases i2
  refine ⟨G2, H0, t2.ok, (sl.mono t1).mono t2, fun G3 H3 u3 d3 t3 i3 s3 => ?_⟩
  subst s3
  cases i3
  have t123 := (t1.trans t2).trans t3
  obtain ⟨qs, x1, x2, x3, x4, x5, x6, x7⟩ := MatAt.still _ _ _ _ _ o t123
  have hal : a < qs.length := by rw [x6]; exact (List.getElem?_eq_some_iff.mp hm).1
  have eq : qs[a]? = some qs[a] := List.getElem?_eq_getElem hal
  obtain ⟨y1, y2, vs, y3, y4⟩ := x7 a _ r eq hm
  refine ⟨p, qs.map V.ref, (a : Int), .ref qs[a], rfl, rfl, SqL.of x3, atI_nat (by rw [List.getElem?_map, eq]; rfl), ?_⟩
  refine ⟨G3, H0, (t.trans t123).ok, sl.mono t123, fun G4 H4 u4 d4 t4 i4 s4 => ?_⟩
  subst s4
  cases i4
  have t4' := t123.trans t4
  obtain ⟨qs', z1, z2, z3, z4, z5, z6, z7⟩ := MatAt.still _ _ _ _ _ o t4'
  have eqq : qs' = qs := by
    have h3 := t4.hh _ _ x3 (by rw [x2]; exact fun z => nomatch z)
    rw [z3] at h3
    have h5 : qs'.map V.ref = qs.map V.ref := by injection h3 with h3; injection h3
    have inj : ∀ (a b : List Addr), a.map V.ref = b.map V.ref → a = b := fun a b h => by
      induction a generalizing b with
      | nil => cases b <;> first | rfl | cases h
      | cons c a ih =>
        cases b with
        | nil => cases h
        | cons d b => simp at h; rw [h.1, ih b (by simpa using h.2)]
    exact inj _ _ h5
  subst eqq
  obtain ⟨w1, w2, ws, w3, w4⟩ := z7 a _ r eq hm
  have hlen : ws.length = r.length := w4.1
  refine ⟨qs'[a], ws, (b : Int), b, rfl, rfl, w3, ?_, ?_⟩
  · unfold ixN
    rw [if_pos (by omega), if_pos (by omega)]; rfl
  · have pq : p ≠ qs'[a] := fun z => z5 (z ▸ List.getElem_mem hal)
    refine ⟨ρ, _, Φ, hr, G0, H0, G4, (t.trans t4').mut w1 w2, (sl.known hk t4'.gg), ⟨qs', z1, z2, by rw [upd_ne pq]; exact z3, z4, z5, by simp [z6], fun j q r' e1 e2 => ?_⟩, k⟩
    by_cases hja : j = a
    · subst hja
      rw [eq] at e1; cases e1
      rw [List.getElem?_set_self (by rw [← z6]; exact hal)] at e2
      cases e2
      have dx := (i1.da n).mono ((t2.trans t3).trans t4).gg
      exact ⟨w1, w2, _, upd_same, w4.set b dx⟩
    · rw [List.getElem?_set_ne (Ne.symm hja)] at e2
      obtain ⟨c1, c2, us, c3, c4⟩ := z7 j q r' e1 e2
      have hne : q ≠ qs'[a] := fun z => by
        subst z
        exact hja (nodup_at z4 e1 eq)
      exact ⟨c1, c2, us, by rw [upd_ne hne]; exact c3, c4⟩
/-- return x, x at p -/
theorem xw_retMat {e : Expr} {p : Addr} {m : List (List D)} (ho : XV X e ρ (.adr p)) (hr : Φ.rt = fun d _ _ _ => frz d = .lst (m.map D.lst)) : XW X (.Return (some e) pos) ρ (MatAt X.K p m) Φ := by
  refine ps_imp (ps_ret ho) fun Dn σ H ⟨G0, H0, G, t, sl, o, _, _, k3⟩ => ⟨G, H0, t.ok, sl, fun G' H' v d t' i s => ?_⟩
  subst s
  cases i
  obtain ⟨qs, x1, x2, x3, x4, x5, x6, x7⟩ := MatAt.still _ _ _ _ _ o t'
  -- all rows known from now on
  have key : ∀ (n : Nat), n ≤ qs.length → ∃ G2, Tr G0 H0 G2 H' ∧ Ex G' G2 ∧ G2 p = none ∧ ∀ (j : Nat) q r, qs[j]? = some q → m[j]? = some r → (j < n → Da X.K G2 (.ref q) (.lst r)) ∧ (n ≤ j → G2 q = none) := fun n => by
    induction n with
    | zero => exact fun _ => ⟨G', t.trans t', Ex.refl _, x2, fun j q r e1 e2 => ⟨fun z => absurd z (Nat.not_lt_zero _), fun _ => (x7 j q r e1 e2).2.1⟩⟩
    | succ n ih =>
      intro hn
      obtain ⟨G2, t2, e2, gp, h2⟩ := ih (by omega)
      have hnq : n < qs.length := by omega
      have eqn : qs[n]? = some qs[n] := List.getElem?_eq_getElem hnq
      have emn : m[n]? = some m[n] := List.getElem?_eq_getElem (by rw [← x6]; exact hnq)
      obtain ⟨a, b, vs, c, d⟩ := x7 n _ _ eqn emn
      have gq := (h2 n _ _ eqn emn).2 (Nat.le_refl _)
      have ex3 : Ex G2 (upd G2 qs[n] (.lst vs)) := Ex.upd gq
      have pq : p ≠ qs[n] := fun z => x5 (z ▸ List.getElem_mem hnq)
      refine ⟨upd G2 qs[n] (.lst vs), t2.frz a gq c pot_lst, e2.trans ex3, by rw [upd_ne pq]; exact gp, fun j q r e3 e4 => ⟨fun hj => ?_, fun hj => ?_⟩⟩
      · by_cases hjn : j = n
        · subst hjn
          rw [eqn] at e3; cases e3
          rw [emn] at e4; cases e4
          exact .lst' upd_same (d.mono (e2.trans ex3))
        · exact ((h2 j q r e3 e4).1 (by omega)).mono ex3
      · have hne : q ≠ qs[n] := fun z => by
          subst z
          have := nodup_at x4 e3 eqn
          omega
        rw [upd_ne hne]
        exact (h2 j q r e3 e4).2 (by omega)
  obtain ⟨G2, t2, e2, gp, h2⟩ := key qs.length (Nat.le_refl _)
  have t3 := t2.frz x1 gp x3 pot_lst
  refine k3 _ H' _ (.lst (m.map D.lst)) t3 (Is.of (.lst' upd_same ⟨by simp [x6], fun j v d e1 e3 => ?_⟩)) (by rw [hr]; rfl)
  rw [List.getElem?_map] at e1 e3
  obtain ⟨q, hq, rfl⟩ := Option.map_eq_some_iff.mp e1
  obtain ⟨r, hr', rfl⟩ := Option.map_eq_some_iff.mp e3
  exact ((h2 j q r hq hr').1 ((List.getElem?_eq_some_iff.mp hq).1)).mono (Ex.upd gp)
end
end NL

/-! text P9 -/
set_option Elab.async false
set_option linter.all false
set_option maxRecDepth 100000
set_option maxHeartbeats 4000000
/-! force_table_of, table_of. -/
namespace NL
open PySem PySem.Spec L2
open PyProof.Rows (envOfC)
variable {P : Program} {w : World} {K : PySem.W.Frag} {mg : Str → Option Value} {base : Heap}
/-- n rows of n, by places -/
def matOf {α : Type} (n : Nat) (f : Nat → Nat → α) : List (List α) := (List.range n).map fun a => (List.range n).map fun b => f a b
theorem matOf_row {α : Type} {n a : Nat} {f : Nat → Nat → α} (h : a < n) : (matOf n f)[a]? = some ((List.range n).map fun b => f a b) := by
  unfold matOf
  rw [List.getElem?_map, List.getElem?_range h]; rfl
theorem matOf_congr {α : Type} {n : Nat} {f g : Nat → Nat → α} (h : ∀ a b, a < n → b < n → f a b = g a b) : matOf n f = matOf n g := by
  unfold matOf
  refine List.map_congr_left fun a ha => List.map_congr_left fun b hb => h a b (List.mem_range.mp ha) (List.mem_range.mp hb)
theorem map_range_set {α : Type} {n b : Nat} {f : Nat → α} {x : α} (h : b < n) : ((List.range n).map f).set b x = (List.range n).map fun c => if c = b then x else f c := by
  apply List.ext_getElem?
  intro i
  rw [List.getElem?_set, List.getElem?_map, List.getElem?_map]
  by_cases hi : i < n
  · rw [List.getElem?_range hi]
    by_cases e : b = i
    · subst e; rw [if_pos rfl, if_pos (by simpa using h)]; simp
    · rw [if_neg e]
      have e' : ¬ i = b := fun z => e z.symm
      simp [e']
  · rw [List.getElem?_eq_none (by simpa using hi)]
    have : ¬ b = i := by omega
    rw [if_neg this]; rfl
theorem matOf_set {α : Type} {n a b : Nat} {f : Nat → Nat → α} {x : α} (ha : a < n) (hb : b < n) : (matOf n f).set a (((List.range n).map fun c => f a c).set b x) = matOf n fun c d => if c = a ∧ d = b then x else f c d := by
  rw [map_range_set hb]
  unfold matOf
  rw [map_range_set ha]
  refine List.map_congr_left fun c hc => ?_
  by_cases e : c = a
  · subst e
    rw [if_pos rfl]
    refine List.map_congr_left fun d _ => ?_
    by_cases e2 : d = b <;> simp [e2]
  · rw [if_neg e]
    refine List.map_congr_left fun d _ => ?_
    simp [e]
/-- the entry of two spots -/
def spAt (ts : List Told) (a : Nat) : Nat × Nat := (spots ts).getD a (0, 0)
def entE (ts : List Told) (a b : Nat) : GQ := entryP (tAt ts (spAt ts a).1).1 (tAt ts (spAt ts b).1).1 (spAt ts a).2 (spAt ts b).2
def forceV (ts : List Told) (a b : Nat) : GQ := if a < b then entE ts a b else (entE ts b a).conj
def forceM (ts : List Told) : Mat := matOf (spots ts).length (forceV ts)
theorem spAt_mem {ts : List Told} {a : Nat} (h : a < (spots ts).length) : (spAt ts a).1 < ts.length ∧ (spAt ts a).2 < (tAt ts (spAt ts a).1).2.length := mem_spots.mp (getD_mem h)
theorem spAt_get {ts : List Told} {a : Nat} (h : a < (spots ts).length) : (spots ts)[a]? = some (spAt ts a) := by
  unfold spAt
  rw [List.getD_eq_getElem?_getD, List.getElem?_eq_getElem h]; rfl
theorem spAt_one {ts : List Told} (ok : TsOk ts) {a : Nat} (h : a < (spots ts).length) : (spAt ts a).2 ≤ 1 := by
  obtain ⟨p, q⟩ := spAt_mem h
  have := (ok.few _ (tAt_mem p)).2
  omega
theorem entE_bd {ts : List Told} (ok : TsOk ts) {a b : Nat} (ha : a < (spots ts).length) (hb : b < (spots ts).length) : Bd 170 (entE ts a b) := bd_entry (ok.pt _ (tAt_mem (spAt_mem ha).1)) (ok.pt _ (tAt_mem (spAt_mem hb).1)) (spAt_one ok ha) (spAt_one ok hb)
theorem forceM_ok {ts : List Told} (ok : TsOk ts) : Sq (spots ts).length (forceM ts) ∧ MBd 170 (forceM ts) := by
  refine ⟨⟨by simp [forceM, matOf], fun r hr => ?_⟩, fun r hr x hx => ?_⟩
  · obtain ⟨a, _, rfl⟩ := List.mem_map.mp hr
    simp
  · obtain ⟨a, ha, rfl⟩ := List.mem_map.mp hr
    obtain ⟨b, hb, rfl⟩ := List.mem_map.mp hx
    have ha := List.mem_range.mp ha
    have hb := List.mem_range.mp hb
    unfold forceV
    split
    · exact entE_bd ok ha hb
    · exact (entE_bd ok hb ha).conj
/-- the matrix while it is made: rows ahead of i, and of row i the columns ahead of c -/
def stepV (ts : List Told) (i c a b : Nat) : D := if min a b < i ∨ (min a b = i ∧ max a b < c) then .num (forceV ts a b) else .num (GQ.ofInt 0)
theorem stepV_next (ts : List Told) (n i a b : Nat) (ha : a < n) (hb : b < n) : stepV ts i n a b = stepV ts (i + 1) (i + 1) a b := by
  unfold stepV
  have e : (min a b < i ∨ (min a b = i ∧ max a b < n)) ↔ (min a b < i + 1 ∨ (min a b = i + 1 ∧ max a b < i + 1)) := by omega
  by_cases h : min a b < i ∨ (min a b = i ∧ max a b < n)
  · rw [if_pos h, if_pos (e.mp h)]
  · rw [if_neg h, if_neg (fun z => h (e.mpr z))]
theorem stepV_set {ts : List Told} {i c a b : Nat} (h : i ≤ c) : (if a = c ∧ b = i then D.num (entE ts i c).conj else if a = i ∧ b = c then D.num (entE ts i c) else stepV ts i c a b) = stepV ts i (c + 1) a b := by
  by_cases h1 : a = c ∧ b = i
  · obtain ⟨rfl, rfl⟩ := h1
    rw [if_pos ⟨rfl, rfl⟩]
    unfold stepV forceV
    rw [if_pos (by omega), if_neg (by omega)]
  · rw [if_neg h1]
    by_cases h2 : a = i ∧ b = c
    · obtain ⟨rfl, rfl⟩ := h2
      rw [if_pos ⟨rfl, rfl⟩]
      unfold stepV forceV
      rw [if_pos (by omega), if_pos (by omega)]
    · rw [if_neg h2]
      unfold stepV
      have e : (min a b < i ∨ (min a b = i ∧ max a b < c)) ↔ (min a b < i ∨ (min a b = i ∧ max a b < c + 1)) := by omega
      by_cases h : min a b < i ∨ (min a b = i ∧ max a b < c)
      · rw [if_pos h, if_pos (e.mp h)]
      · rw [if_neg h, if_neg (fun z => h (e.mpr z))]
def R_force : Rel := fun ds T => ∃ (ts : List Told), ds = [toldsD ts] ∧ TsOk ts ∧ T = fun z => z = matD (forceM ts)
theorem fits_all {ρ' z : Env} (hl : ρ'.length = z.length) (h : ∀ (j : Nat) d, ρ'[j]? = some (some d) → z[j]? = some (some d)) : ρ'.length = z.length ∧ ∀ (j : Nat) d, ρ'[j]? = some (some d) → z[j]? = some (some d) := ⟨hl, h⟩
/-- ρ' tells no more than z -/
def fitsB : Env → Env → Prop
  | [], [] => True
  | none :: a, _ :: b => fitsB a b
  | some d :: a, o :: b => o = some d ∧ fitsB a b
  | _, _ => False
theorem fits_of : ∀ {a b : Env}, fitsB a b → a.length = b.length ∧ ∀ (j : Nat) d, a[j]? = some (some d) → b[j]? = some (some d)
  | [], [], _ => ⟨rfl, fun _ _ h => h⟩
  | none :: a, o :: b, h => by
    obtain ⟨x, y⟩ := fits_of (a := a) (b := b) h
    refine ⟨by simp [x], fun j d e => ?_⟩
    cases j with
    | zero => cases e
    | succ j => exact y j d e
  | some c :: a, o :: b, h => by
    obtain ⟨h1, h2⟩ := h
    obtain ⟨x, y⟩ := fits_of (a := a) (b := b) h2
    refine ⟨by simp [x], fun j d e => ?_⟩
    cases j with
    | zero => subst h1; exact e
    | succ j => exact y j d e
  | [], _ :: _, h => h.elim
  | none :: _, [], h => h.elim
  | some _ :: _, [], h => h.elim
theorem enm_at {ds : List D} {i : Nat} {d : D} (h : (enm ds)[i]? = some d) : ∃ e, ds[i]? = some e ∧ d = .tup [.int (i : Nat), e] := by
  unfold enm at h
  rw [List.getElem?_mapIdx] at h
  obtain ⟨e, h1, h2⟩ := Option.map_eq_some_iff.mp h
  exact ⟨e, h1, h2.symm⟩
theorem enm_len (ds : List D) : (enm ds).length = ds.length := by unfold enm; simp
section
variable {X : Cx} {ρ : Env} {pos : Pos}
/-- a, (b, c) -/
theorem xg_pair2 (i j k : Nat) {x y z : Str} {L : List Nat} {p1 p2 p3 p4 : Pos} {k1 k2} (hc : X.calm = true) (hN : X.N.Nodup) (hi : X.N[i]? = some x := by rfl) (hx : Loc X.env.scope x := by first | exact Or.inl rfl | exact Or.inr rfl) (hj : X.N[j]? = some y := by rfl) (hy : Loc X.env.scope y := by first | exact Or.inl rfl | exact Or.inr rfl)
    (hk : X.N[k]? = some z := by rfl) (hz : Loc X.env.scope z := by first | exact Or.inl rfl | exact Or.inr rfl) (hL : i ∈ L := by decide) (hL2 : j ∈ L := by decide) (hL3 : k ∈ L := by decide)
    (hf : X.fn x = true ∨ X.env.scope.names.lookup x = some .local := by first | exact .inl rfl | exact .inr rfl | assumption) (hf2 : X.fn y = true ∨ X.env.scope.names.lookup y = some .local := by first | exact .inl rfl | exact .inr rfl | assumption)
    (hf3 : X.fn z = true ∨ X.env.scope.names.lookup z = some .local := by first | exact .inl rfl | exact .inr rfl | assumption) : XG X (.Tuple [.Name x p1, .Tuple [.Name y p2, .Name z p3] k2 p4] k1 pos) (tPair2 i j k) L :=
  pg_imp (pg_tup hc (pgs_cons (pg_name hN hi hx hf) (pgs_cons (pg_tup hc (pgs_cons (pg_name hN hj hy hf2) (pgs_cons (pg_name hN hk hz hf3) pgs_nil))) pgs_nil))) fun v σ H Q ⟨G, H0, ρ, d, ρ', l, sl, da, t, kk⟩ => by
    obtain ⟨a, b, c, rfl, rfl⟩ := t
    cases da with
    | @tup p vs _ e1 e2 e3 =>
      obtain ⟨va, vs1, rfl, da, hr⟩ := DaL.cases_cons ⟨e2, e3⟩
      obtain ⟨vb, vs2, rfl, db, hr⟩ := hr.cases_cons
      obtain rfl := hr.cases_nil
      cases db with
      | @tup q us _ f1 f2 f3 =>
        obtain ⟨vc, vs3, rfl, db, hr⟩ := DaL.cases_cons ⟨f2, f3⟩
        obtain ⟨vd, vs4, rfl, dc, hr⟩ := hr.cases_cons
        obtain rfl := hr.cases_nil
        refine ⟨p, _, rfl, SqT.of (l.at_ _ _ e1 pot_tup), rfl, va, [.ref q], rfl, .ref q, [], rfl, ⟨q, _, rfl, SqT.of (l.at_ _ _ f1 pot_tup), rfl, vc, [vd], rfl, vd, [], rfl, rfl, rfl, ?_⟩⟩
        exact kk _ (((sl.set da).set db).set dc) (((Chg.set _ hL).trans (Chg.set _ hL2)).trans (Chg.set _ hL3))
end
theorem ok_force_table_of (T : Tx P K mg) : Fk P w K mg base "force_table_of" 41 R_force := by
  obtain ⟨fd, F⟩ := T.F_force_table_of
  refine mkFk F sc_force_table_of T.g_force_table_of ?_ ?_ (fun _ _ _ _ _ _ us hl => match us, hl with | [_], _ => rfl)
  · rintro ds S ⟨ts, rfl, _⟩; rfl
  · rintro cdv A outer s H E hr ds S ⟨ts, rfl, ok, rfl⟩
    have hlen := ok.tot
    have hnd := sc_force_table_of.nd
    refine xss_set 1 hnd (xv_call (ok_spots_of T) (hr.mono (by decide)) (xva_cons (xv_var 0) xva_nil) ⟨ts, rfl, ok, rfl⟩) ?_
    refine xss_of_w (xws_setMat 2 (own := [("row", 3)]) (τ := tName 3) (ds := (spots ts).map spD) (fun _ => (List.range (spots ts).length).map fun _ => .num (GQ.ofInt 0)) (fun _ _ _ _ _ _ _ => trivial) rfl rfl hnd (xi_list (xv_var 1)) (blk_ok rfl (by rfl)) (fun _ _ _ _ _ => xg_name 3 hnd) (by simp; omega) ?_ fun p => ?_)
    · intro d _
      refine ⟨_, rfl, fun _ _ _ _ _ => xf_imp (xf_map (own := [("column", 6)]) (τ := tName 6) (ds := (spots ts).map spD) (fun _ => .num (GQ.ofInt 0)) rfl hnd (xi_list (xv_var 1)) (blk_ok rfl (by rfl)) (fun _ _ _ _ _ => xg_name 6 hnd) (by simp; omega) ?_) fun z e => e.trans ?_⟩
      · intro d _
        exact ⟨_, rfl, rfl, fun _ _ _ _ _ => xv_call0 (ok_nought T) (hr.mono (by decide)) ⟨rfl, rfl⟩⟩
      · apply List.ext_getElem?
        intro i
        simp only [List.getElem?_map]
        by_cases h : i < (spots ts).length
        · rw [List.getElem?_eq_getElem h, List.getElem?_range h]; rfl
        · rw [List.getElem?_eq_none (by omega), List.getElem?_eq_none (by simp; omega)]; rfl
    · refine xws_imp (Ω' := MatAt K p (matOf (spots ts).length (stepV ts 0 0))) ?_ fun H0 G H h => ?_
      · refine xws_seq (ρ' := [some (toldsD ts), some (.lst ((spots ts).map spD)), some (.adr p), none, none, none, none, none, none, none]) (Ω' := MatAt K p (matOf (spots ts).length (stepV ts (spots ts).length (spots ts).length))) (xw_for (L := [3, 4, 5]) MatAt.still PassesOwn.never rfl (xi_enum T.b_enumerate (xv_var 1)) (xg_pair2 3 4 5 rfl hnd) (fun i => MatAt K p (matOf (spots ts).length (stepV ts i i))) (fun _ => MatAt.still) (fun _ => [some (toldsD ts), some (.lst ((spots ts).map spD)), some (.adr p), none, none, none, none, none, none, none]) (fun _ _ _ h => h) (fits_of (by simp [fitsB, startE])) ?_ ?_) ?_
        · intro i d hd
          obtain ⟨e, he, rfl⟩ := enm_at hd
          rw [List.getElem?_map] at he
          obtain ⟨sp, hs, rfl⟩ := Option.map_eq_some_iff.mp he
          have hi : i < (spots ts).length := (List.getElem?_eq_some_iff.mp hs).1
          have esp : sp = spAt ts i := by rw [spAt_get hi] at hs; exact (Option.some.inj hs).symm
          subst esp
          refine ⟨_, ⟨_, _, _, rfl, rfl⟩, ?_⟩
          refine xws_one (xw_for (L := [6]) MatAt.still PassesOwn.never rfl (xi_range2 T.b_range (xv_var 3) (xv_len T.b_len (xv_var 1) rfl) (m := (spots ts).length - i) (by simp) (by simp; omega)) (xg_name 6 hnd) (fun j => MatAt K p (matOf (spots ts).length (stepV ts i (i + j)))) (fun _ => MatAt.still) (fun _ => [some (toldsD ts), some (.lst ((spots ts).map spD)), some (.adr p), some (.int (i : Nat)), some (.int ((spAt ts i).1 : Int)), some (.int ((spAt ts i).2 : Int)), none, none, none, none]) (fun _ _ _ h => h) (fits_of (by simp [fitsB])) ?_ ?_)
          · intro j d hd
            obtain ⟨h1, rfl⟩ := rng_at hd
            rw [show (i : Int) + (j : Nat) = ((i + j : Nat) : Int) by omega]
            have hc : i + j < (spots ts).length := by omega
            obtain ⟨p1, _⟩ := spAt_mem hi
            obtain ⟨p2, _⟩ := spAt_mem hc
            refine ⟨_, rfl, ?_⟩
            refine xws_lift MatAt.still (xs_asgG (L := [7, 8]) (ρ := [some (toldsD ts), some (.lst ((spots ts).map spD)), some (.adr p), some (.int (i : Nat)), some (.int ((spAt ts i).1 : Int)), some (.int ((spAt ts i).2 : Int)), some (.int ((i + j : Nat) : Int)), none, none, none]) (xv_ixL (d := spD (spAt ts (i + j))) (xv_var 1) (xv_var 6) rfl (atI_nat (by rw [List.getElem?_map, spAt_get hc]; rfl))) (xg_pair 7 8 rfl hnd) (fun _ e => by subst e; exact ⟨rfl, _, ⟨_, _, rfl, rfl⟩, rfl⟩)) ?_
            refine xws_lift MatAt.still (xs_set 9 (xv_call (ok_entry T) (hr.mono (by decide)) (xva_cons (xv_ixT (xv_ixL (xv_var 0) (xv_var 4) rfl (toldsD_at p1)) xv_int rfl) (xva_cons (xv_var 5) (xva_cons (xv_ixT (xv_ixL (xv_var 0) (xv_var 7) rfl (toldsD_at p2)) xv_int rfl) (xva_cons (xv_var 8) xva_nil)))) ⟨_, _, _, _, rfl, ok.pt _ (tAt_mem p1), ok.pt _ (tAt_mem p2), spAt_one ok hi, spAt_one ok hc, rfl⟩) (fun _ e => by subst e; exact ⟨rfl, rfl⟩) hnd) ?_
            refine xws_set2 2 (p := p) (a := i) (b := i + j) rfl (xv_var 2) (xv_var 3) (xv_var 6) (xv_var 9) (matOf_row hi) (by simp; exact hc) rfl ?_
            rw [matOf_set hi hc]
            refine xws_set2 2 (p := p) (a := i + j) (b := i) rfl (xv_var 2) (xv_var 6) (xv_var 3) (xv_meth0 (ok_mirror T) (hr.mono (by decide)) (xv_var 9) insNum rfl ⟨_, rfl, rfl⟩) (matOf_row hc) (by simp; exact hi) rfl ?_
            rw [matOf_set hc hi]
            refine xws_nil fun H0 G H h => ⟨fits_of (by simp [fitsB]), ?_⟩
            have e : matOf (spots ts).length (stepV ts i (i + (j + 1))) = matOf (spots ts).length (fun c d => if c = i + j ∧ d = i then D.num (entryP (tAt ts (spAt ts i).1).1 (tAt ts (spAt ts (i + j)).1).1 (spAt ts i).2 (spAt ts (i + j)).2).conj else if c = i ∧ d = i + j then D.num (entryP (tAt ts (spAt ts i).1).1 (tAt ts (spAt ts (i + j)).1).1 (spAt ts i).2 (spAt ts (i + j)).2) else stepV ts i (i + j) c d) :=
              matOf_congr fun a b _ _ => (stepV_set (ts := ts) (i := i) (c := i + j) (a := a) (b := b) (by omega)).symm
            rw [e]
            exact h
          · intro H0 G H h
            refine ⟨fits_of (by simp [fitsB]), ?_⟩
            rw [rng_len, show i + ((spots ts).length - i) = (spots ts).length by omega] at h
            have e : matOf (spots ts).length (stepV ts (i + 1) (i + 1)) = matOf (spots ts).length (stepV ts i (spots ts).length) := matOf_congr fun a b ha hb => (stepV_next ts _ i a b ha hb).symm
            rw [e]
            exact h
        · intro H0 G H h
          rw [enm_len, List.length_map] at h
          exact ⟨rfl, h⟩
        · refine xws_one (xw_retMat (xv_var 2) ?_)
          funext d _ _ _
          show (frz d = matD (forceM ts) ∧ noOl (frz d) = true) = _
          have e : matD (forceM ts) = D.lst ((matOf (spots ts).length (stepV ts (spots ts).length (spots ts).length)).map D.lst) := by
            unfold matD forceM matOf
            congr 1
            rw [List.map_map, List.map_map]
            refine List.map_congr_left fun a ha => ?_
            have ha := List.mem_range.mp ha
            show D.lst _ = D.lst _
            congr 1
            rw [List.map_map]
            refine List.map_congr_left fun b hb => ?_
            have hb := List.mem_range.mp hb
            show D.num _ = stepV _ _ _ _ _
            unfold stepV
            rw [if_pos (by omega)]
          rw [← e]
          apply propext
          exact ⟨fun h => h.1, fun h => ⟨h, by rw [h]; rfl⟩⟩
      · obtain ⟨_, h⟩ := h
        have e : matOf (spots ts).length (stepV ts 0 0) = ((spots ts).map spD).map (fun _ => (List.range (spots ts).length).map fun _ => D.num (GQ.ofInt 0)) := by
          unfold matOf
          apply List.ext_getElem?
          intro i
          simp only [List.getElem?_map]
          by_cases h : i < (spots ts).length
          · rw [List.getElem?_eq_getElem h, List.getElem?_range h]
            show some _ = some _
            congr 1
            refine List.map_congr_left fun b _ => ?_
            unfold stepV
            rw [if_neg (by omega)]
          · rw [List.getElem?_eq_none (by simp; omega), List.getElem?_eq_none (by omega)]; rfl
        rw [e]
        exact h
end NL

/-! text P10 -/
set_option Elab.async false
set_option linter.all false
set_option maxRecDepth 100000
set_option maxHeartbeats 4000000
/-! table_of. -/
namespace NL
open PySem PySem.Spec L2
open PyProof.Rows (envOfC)
variable {P : Program} {w : World} {K : PySem.W.Frag} {mg : Str → Option Value} {base : Heap}
def subM (a b : Mat) : Mat := a.zipWith (fun r l => r.zipWith (· - ·) l) b
def tableM (ts : List Told) : Mat := subM (forceM ts) (outM ts (forceM ts))
def fSub : D → D
  | .tup [.num x, .num y] => .num (x - y)
  | _ => .non
def fRow : D → D
  | .tup [.lst a, .lst b] => .lst ((a.zipWith (fun x y => D.tup [x, y]) b).map fSub)
  | _ => .non
theorem zipM : ∀ (a b : Mat), ((a.map rowD).zipWith (fun x y => D.tup [x, y]) (b.map rowD)).map fRow = (subM a b).map rowD
  | [], _ => rfl
  | _ :: _, [] => rfl
  | x :: a, y :: b => by
    have ih := zipM a b
    unfold subM at ih ⊢
    simp only [List.map_cons, List.zipWith_cons_cons]
    rw [ih]
    congr 1
    show D.lst _ = D.lst _
    congr 1
    exact zip_D fSub _ (fun _ _ => rfl) x y
theorem mem_zipM {a b : Mat} {d : D} (h : d ∈ (a.map rowD).zipWith (fun x y => D.tup [x, y]) (b.map rowD)) : ∃ x y, x ∈ a ∧ y ∈ b ∧ d = .tup [rowD x, rowD y] := by
  induction a generalizing b with
  | nil => cases h
  | cons x a ih =>
    cases b with
    | nil => cases h
    | cons y b =>
      simp only [List.map_cons, List.zipWith_cons_cons, List.mem_cons] at h
      rcases h with rfl | h
      · exact ⟨x, y, List.mem_cons_self .., List.mem_cons_self .., rfl⟩
      · obtain ⟨u, v, h1, h2, h3⟩ := ih h
        exact ⟨u, v, List.mem_cons_of_mem _ h1, List.mem_cons_of_mem _ h2, h3⟩
theorem outM_ok {ts : List Told} {m : Mat} {B : Nat} (ok : TsOk ts) (sq : Sq (spots ts).length m) (bm : MBd B m) : Sq (spots ts).length (outM ts m) ∧ MBd (2 * (2 * B + 9) + 9) (outM ts m) := by
  obtain ⟨s1, b1⟩ := answM_ok ok sq bm
  obtain ⟨s2, b2⟩ := turnM_ok s1 b1 (by omega)
  obtain ⟨s3, b3⟩ := answM_ok ok s2 b2
  exact turnM_ok s3 b3 (by omega)
theorem subM_ok {n i j : Nat} {a b : Mat} (sa : Sq n a) (ba : MBd i a) (sb : Sq n b) (bb : MBd j b) : Sq n (subM a b) ∧ MBd (i + j + 1) (subM a b) := by
  have mem : ∀ {a b : Mat} {r : List GQ}, r ∈ subM a b → ∃ x y, x ∈ a ∧ y ∈ b ∧ r = x.zipWith (· - ·) y := by
    intro a
    induction a with
    | nil => intro b r h; cases h
    | cons x a ih =>
      intro b r h
      cases b with
      | nil => cases h
      | cons y b =>
        unfold subM at h
        simp only [List.zipWith_cons_cons, List.mem_cons] at h
        rcases h with rfl | h
        · exact ⟨x, y, List.mem_cons_self .., List.mem_cons_self .., rfl⟩
        · obtain ⟨u, v, h1, h2, h3⟩ := ih (b := b) h
          exact ⟨u, v, List.mem_cons_of_mem _ h1, List.mem_cons_of_mem _ h2, h3⟩
  refine ⟨⟨by unfold subM; rw [List.length_zipWith, sa.rows, sb.rows, Nat.min_self], fun r hr => ?_⟩, fun r hr => ?_⟩
  · obtain ⟨x, y, hx, hy, rfl⟩ := mem hr
    rw [List.length_zipWith, sa.cols x hx, sb.cols y hy, Nat.min_self]
  · obtain ⟨x, y, hx, hy, rfl⟩ := mem hr
    exact rbd_zip (fun u v bu bv => bu.sub bv) (ba x hx) (bb y hy)
theorem tableM_ok {ts : List Told} (ok : TsOk ts) : Sq (spots ts).length (tableM ts) ∧ MBd 900 (tableM ts) := by
  obtain ⟨s1, b1⟩ := forceM_ok ok
  obtain ⟨s2, b2⟩ := outM_ok ok s1 b1
  obtain ⟨s3, b3⟩ := subM_ok s1 b1 s2 b2
  exact ⟨s3, fun r hr x hx => (b3 r hr x hx).mono (by decide)⟩
def R_table : Rel := fun ds T => ∃ (ts : List Told), ds = [toldsD ts] ∧ TsOk ts ∧ T = fun z => z = matD (tableM ts)
theorem ok_table_of (T : Tx P K mg) : Fk P w K mg base "table_of" 42 R_table := by
  obtain ⟨fd, F⟩ := T.F_table_of
  refine mkFk F sc_table_of T.g_table_of ?_ ?_ (fun _ _ _ _ _ _ us hl => match us, hl with | [_], _ => rfl)
  · rintro ds S ⟨ts, rfl, _⟩; rfl
  · rintro cdv A outer s H E hr ds S ⟨ts, rfl, ok, rfl⟩
    have hlen := ok.tot
    have hnd := sc_table_of.nd
    obtain ⟨s1, b1⟩ := forceM_ok ok
    obtain ⟨s2, b2⟩ := outM_ok ok s1 b1
    refine xss_set 1 hnd (xv_call (ok_force_table_of T) hr (xva_cons (xv_var 0) xva_nil) ⟨ts, rfl, ok, rfl⟩) ?_
    refine xss_set 2 hnd (xv_call (ok_out_table_of T) (hr.mono (by decide)) (xva_cons (xv_var 0) (xva_cons (xv_var 1) xva_nil)) ⟨ts, _, 170, rfl, ok, s1, b1, by decide, by decide, rfl⟩) ?_
    refine xss_one (xs_retv (d := matD (tableM ts)) (xv_to (xv_of_xf (xf_map (own := [("row", 3), ("line", 4)]) (τ := tPair 3 4) (ds := ((forceM ts).map rowD).zipWith (fun x y => D.tup [x, y]) ((outM ts (forceM ts)).map rowD)) fRow rfl hnd (xi_zip T.b_zip (xv_var 1) (xv_var 2)) (blk_ok rfl (by rfl)) (fun _ _ _ _ _ => xg_pair 3 4 rfl hnd) (by rw [List.length_zipWith, List.length_map, List.length_map, s1.rows]; omega) ?_)) (congrArg D.lst (zipM _ _))) ⟨rfl, rfl⟩)
    intro d hd
    obtain ⟨r, l, hr', hl, rfl⟩ := mem_zipM hd
    refine ⟨_, ⟨_, _, rfl, rfl⟩, rfl, fun _ _ _ _ _ => ?_⟩
    refine xv_of_xf (xf_map (own := [("near", 5), ("far", 6)]) (τ := tPair 5 6) (ds := (r.map D.num).zipWith (fun x y => D.tup [x, y]) (l.map D.num)) fSub rfl hnd (xi_zip T.b_zip (xv_var 3) (xv_var 4)) (blk_ok rfl (by rfl)) (fun _ _ _ _ _ => xg_pair 5 6 rfl hnd) (by rw [List.length_zipWith, List.length_map, List.length_map, s1.cols r hr']; omega) ?_)
    intro d hd
    obtain ⟨x, y, hx, hy, rfl⟩ := mem_zip hd
    exact ⟨_, ⟨_, _, rfl, rfl⟩, rfl, fun _ _ _ _ _ => xv_tsub (n := 1000) (ok_sub T) (hr.mono (by decide)) T (xv_var 5) (xv_var 6) ((b1 r hr' x hx).mono (by decide)) ((b2 l hl y hy).mono (by decide)) (by decide) (by decide)⟩
end NL

/-! text P11 -/
set_option Elab.async false
set_option linter.all false
set_option maxRecDepth 100000
set_option maxHeartbeats 4000000
/-! Walk: what it reads. -/
namespace NL
open PySem PySem.Spec L2
open PyProof.Rows (envOfC)
variable {P : Program} {w : World} {K : PySem.W.Frag} {mg : Str → Option Value} {base : Heap}
theorem fWalk_values (a b c : V) : (fWalk a b c).lookup ("own_values" : Str) = some a := by
  unfold fWalk
  rw [lookup_putF, if_neg (by decide +kernel), lookup_putF, if_neg (by decide +kernel), lookup_putF, if_pos rfl]
theorem fWalk_weights (a b c : V) : (fWalk a b c).lookup ("own_weights" : Str) = some b := by
  unfold fWalk
  rw [lookup_putF, if_neg (by decide +kernel), lookup_putF, if_pos rfl]
theorem fWalk_left (a b c : V) : (fWalk a b c).lookup ("own_left" : Str) = some c := by
  unfold fWalk
  rw [lookup_putF, if_pos rfl]
theorem fWalk_no (a b c : V) {m : Str} (h1 : ¬ m = "own_values") (h2 : ¬ m = "own_weights") (h3 : ¬ m = "own_left") : (fWalk a b c).lookup m = none := by
  unfold fWalk
  rw [lookup_putF, if_neg h3, lookup_putF, if_neg h2, lookup_putF, if_neg h1]; rfl
theorem insWalk {K : PySem.W.Frag} {m : Str} {rows : List D} {left : D} (h1 : ¬ m = "own_values" := by decide +kernel) (h2 : ¬ m = "own_weights" := by decide +kernel) (h3 : ¬ m = "own_left" := by decide +kernel) : InsOf K (He.ga K "Walk") m (.walk rows left) := fun G v h => by
  cases h with
  | @walk p a dx b c vs _ _ e1 e2 e3 e4 e5 => exact ⟨p, dx, _, rfl, e1, fWalk_no _ _ _ h1 h2 h3⟩
section
variable {X : Cx} {ρ : Env} {p : Pos} {e : Expr} {rows : List D} {left : D}
theorem xv_wv (T : Tx P X.K X.mg) (he : XV X e ρ (.walk rows left)) (hab : attributeBase e ("own_values" : Str) X.env (eval e X.env) = eval e X.env := by rfl) : XV X (.Attribute e "own_values" p) ρ (.lst rows) :=
  xe_fld he T.cl_Walk T.na_Walk_own_values (fun H0 G H u d l i s => by
    subst s
    cases i with
    | @walk p a dx b c vs _ _ e1 e2 e3 e4 e5 => exact ⟨p, dx, _, _, .lst rows, rfl, l.at_ _ _ e1 ins_not_pot, fWalk_values _ _ _, .lst e2 e3 e4, rfl⟩) hab
theorem xv_wl (T : Tx P X.K X.mg) (he : XV X e ρ (.walk rows left)) (hab : attributeBase e ("own_left" : Str) X.env (eval e X.env) = eval e X.env := by rfl) : XV X (.Attribute e "own_left" p) ρ left :=
  xe_fld he T.cl_Walk T.na_Walk_own_left (fun H0 G H u d l i s => by
    subst s
    cases i with
    | @walk p a dx b c vs _ _ e1 e2 e3 e4 e5 => exact ⟨p, dx, _, _, _, rfl, l.at_ _ _ e1 ins_not_pot, fWalk_left _ _ _, Is.of e5, rfl⟩) hab
end
def mGet (m : Mat) (a b : Nat) : GQ := (m.getD a []).getD b (GQ.ofInt 0)
def natsD (ns : List Nat) : D := .lst (ns.map fun (n : Nat) => .int (n : Int))
def walkD (m : Mat) (left : List Nat) : D := .walk (m.map rowD) (natsD left)
def sgn (q : Rat) : Int := if 0 < q then 1 else if q < 0 then -1 else 0
theorem row_len {n a : Nat} {m : Mat} (sq : Sq n m) (h : a < n) : (m.getD a []).length = n := sq.cols _ (getD_mem (by rw [sq.rows]; exact h))
section
variable {X : Cx} {ρ : Env} {pos : Pos} {o a b : Expr} {p1 p2 : Pos}
/-- m[a][b] -/
theorem xv_mget {m : Mat} {n i j : Nat} (sq : Sq n m) (hi : i < n) (hj : j < n) (ho : XV X o ρ (.lst (m.map rowD))) (ha : XV X a ρ (.int (i : Int))) (hb : XV X b ρ (.int (j : Int))) (hs : PlainIx a := by exact fun _ _ => rfl) (hs2 : PlainIx b := by exact fun _ _ => rfl) : XV X (.Subscript (.Subscript o a p1) b p2) ρ (.num (mGet m i j)) :=
  xv_ixL (xv_ixL ho ha rfl (matD_at (by rw [sq.rows]; exact hi)) hs) hb rfl (rowD_at (by rw [row_len sq hi]; exact hj)) hs2
end
def R_middle : Rel := fun ds T => ∃ (m : Mat) (left : List Nat) (n p : Nat), ds = [walkD m left, .int (p : Int)] ∧ Sq n m ∧ p < n ∧ T = fun z => z = .rat (mGet m p p).re
theorem ok_middle (T : Tx P K mg) : Mth P w K mg base (He.ga K "Walk") "middle" 38 R_middle := by
  obtain ⟨fd, F⟩ := T.F_Walk_middle
  refine mkMth F sc_Walk_middle T.cl_Walk T.m_Walk_middle ?_ ?_ (fun _ _ _ _ _ _ us hl => match us, hl with | [_, _], _ => rfl)
  · rintro ds S ⟨m, left, n, p, rfl, _⟩; rfl
  · rintro cdv A outer s H E hr ds S ⟨m, left, n, p, rfl, sq, hp, rfl⟩
    exact xss_one (xs_retv (xv_prop (ok_plain T) hr (xv_mget sq hp hp (xv_wv T (xv_var 0)) (xv_var 1) (xv_var 1)) insNum rfl ⟨_, rfl, rfl⟩) ⟨rfl, rfl⟩)
def optD : Option Nat → D
  | some p => .int (p : Int)
  | none => .non
def fw (m : Mat) (left : List Nat) (s : Int) : Option Nat := left.find? fun p => decide (sgn (mGet m p p).re = s)
def R_first_with : Rel := fun ds T => ∃ (m : Mat) (left : List Nat) (n : Nat) (s : Int), ds = [walkD m left, .int s] ∧ Sq n m ∧ (∀ p ∈ left, p < n) ∧ T = fun z => z = optD (fw m left s)
theorem nats_at {ns : List Nat} {i : Nat} {d : D} (h : (ns.map fun (n : Nat) => D.int (n : Int))[i]? = some d) : ∃ n, ns[i]? = some n ∧ d = .int (n : Int) := by
  rw [List.getElem?_map] at h
  obtain ⟨n, h1, h2⟩ := Option.map_eq_some_iff.mp h
  exact ⟨n, h1, h2.symm⟩
theorem find_at {α : Type} {p : α → Bool} {l : List α} {i : Nat} {x : α} (h : (l.take i).find? p = none) (hx : l[i]? = some x) : (p x = true → l.find? p = some x) ∧ (p x = false → (l.take (i + 1)).find? p = none) := by
  have hi := (List.getElem?_eq_some_iff.mp hx).1
  constructor
  · intro hp
    have e : l = l.take i ++ (x :: l.drop (i + 1)) := by
      have := List.take_append_drop i l
      rw [List.drop_eq_getElem_cons hi] at this
      rw [(List.getElem?_eq_some_iff.mp hx).2] at this
      exact this.symm
    rw [e, List.find?_append, h]
    simp [hp]
  · intro hp
    rw [List.take_add_one, hx, List.find?_append, h]
    simp [hp]
theorem ok_first_with (T : Tx P K mg) : Mth P w K mg base (He.ga K "Walk") "first_with" 39 R_first_with := by
  obtain ⟨fd, F⟩ := T.F_Walk_first_with
  refine mkMth F sc_Walk_first_with T.cl_Walk T.m_Walk_first_with ?_ ?_ (fun _ _ _ _ _ _ us hl => match us, hl with | [_, _], _ => rfl)
  · rintro ds S ⟨m, left, n, s, rfl, _⟩; rfl
  · rintro cdv A outer s H E hr ds S ⟨m, left, n, sg, rfl, sq, hl, rfl⟩
    refine xss_cons (M := fun z => fw m left sg = none) (xs_for (L := [2]) PassesOwn.never rfl (xi_list (xv_wl T (xv_var 0))) (xg_name 2 sc_Walk_first_with.nd) (fun i z => (left.take i).find? (fun p => decide (sgn (mGet m p p).re = sg)) = none ∧ ∃ o, z = [some (walkD m left), some (.int sg), o]) ⟨rfl, none, rfl⟩ ?_ ?_) ?_
    · rintro i d ρ1 hd ⟨h0, o, rfl⟩
      obtain ⟨p, hp, rfl⟩ := nats_at hd
      have hpn := hl p (List.mem_of_getElem? hp)
      obtain ⟨f1, f2⟩ := find_at h0 hp
      refine ⟨_, rfl, xss_one (xs_if (xt_eq (xv_prop (ok_sign T) (hr.mono (by decide)) (xv_meth (ok_middle T) hr (xv_var 0) insWalk rfl (xva_cons (xv_var 2) xva_nil) ⟨m, left, n, p, rfl, sq, hpn, rfl⟩ rfl) insRat rfl ⟨_, rfl, rfl⟩) (xv_var 1)) (fun z => ?_) fun z => ?_)⟩
      · refine xss_one (xs_retv (xv_var 2) ⟨?_, rfl⟩)
        show D.int (p : Int) = optD (fw m left sg)
        unfold fw
        rw [f1 z]; rfl
      · exact xss_nil ⟨f2 z, _, rfl⟩
    · rintro ρ1 ⟨h0, o, rfl⟩
      rw [List.length_map, List.take_length] at h0
      exact h0
    · intro ρ1 h0
      exact xss_one (xs_retv xv_non ⟨by rw [h0]; rfl, rfl⟩)
def besideB (m : Mat) (left : List Nat) : Bool := left.any fun a => left.any fun b => decide (sgn (mGet m a a).re = 0) && !decide (mGet m a b = GQ.ofInt 0)
def R_first_beside : Rel := fun ds T => ∃ (m : Mat) (left : List Nat) (n : Nat), ds = [walkD m left] ∧ Sq n m ∧ (∀ p ∈ left, p < n) ∧ T = fun z => isNon z = !besideB m left ∧ noOl z = true
theorem ok_first_beside (T : Tx P K mg) : Mth P w K mg base (He.ga K "Walk") "first_beside" 39 R_first_beside := by
  obtain ⟨fd, F⟩ := T.F_Walk_first_beside
  refine mkMth F sc_Walk_first_beside T.cl_Walk T.m_Walk_first_beside ?_ ?_ (fun _ _ _ _ _ _ us hl => match us, hl with | [_], _ => rfl)
  · rintro ds S ⟨m, left, n, rfl, _⟩; rfl
  · rintro cdv A outer s H E hr ds S ⟨m, left, n, rfl, sq, hl, rfl⟩
    refine xss_cons (M := fun z => besideB m left = false) (xs_for (L := [1]) PassesOwn.never rfl (xi_list (xv_wl T (xv_var 0))) (xg_name 1 sc_Walk_first_beside.nd) (fun i z => ((left.take i).any fun a => left.any fun b => decide (sgn (mGet m a a).re = 0) && !decide (mGet m a b = GQ.ofInt 0)) = false ∧ ∃ o1 o2, z = [some (walkD m left), o1, o2]) ⟨rfl, none, none, rfl⟩ ?_ ?_) ?_
    · rintro i d ρ1 hd ⟨h0, o1, o2, rfl⟩
      obtain ⟨a, ha, rfl⟩ := nats_at hd
      have han := hl a (List.mem_of_getElem? ha)
      refine ⟨_, rfl, xss_one (xs_for (L := [2]) PassesOwn.never rfl (xi_list (xv_wl T (xv_var 0))) (xg_name 2 sc_Walk_first_beside.nd) (fun j z => ((left.take j).any fun b => decide (sgn (mGet m a a).re = 0) && !decide (mGet m a b = GQ.ofInt 0)) = false ∧ ∃ o2, z = [some (walkD m left), some (.int (a : Int)), o2]) ⟨rfl, o2, rfl⟩ ?_ ?_)⟩
      · rintro j d ρ2 hd ⟨h1, o2, rfl⟩
        obtain ⟨b, hb, rfl⟩ := nats_at hd
        have hbn := hl b (List.mem_of_getElem? hb)
        refine ⟨_, rfl, xss_one (xs_if (xt_and (xt_eq (xv_prop (ok_sign T) (hr.mono (by decide)) (xv_meth (ok_middle T) hr (xv_var 0) insWalk rfl (xva_cons (xv_var 1) xva_nil) ⟨m, left, n, a, rfl, sq, han, rfl⟩ rfl) insRat rfl ⟨_, rfl, rfl⟩) xv_int) fun _ => pw_and1 (xt_not (xt_val (xv_prop (ok_is_nought T) (hr.mono (by decide)) (xv_mget sq han hbn (xv_wv T (xv_var 0)) (xv_var 1) (xv_var 2)) insNum rfl ⟨_, rfl, rfl⟩)))).pt (fun z => ?_) fun z => ?_)⟩
        · refine xss_one (xs_retv (xv_tup (xva_cons (xv_var 1) (xva_cons (xv_var 2) xva_nil))) ⟨⟨?_, rfl⟩, rfl⟩)
          show false = _
          have : besideB m left = true := by
            unfold besideB
            refine List.any_eq_true.mpr ⟨a, List.mem_of_getElem? ha, List.any_eq_true.mpr ⟨b, List.mem_of_getElem? hb, z⟩⟩
          rw [this]; rfl
        · refine xss_nil ⟨?_, _, rfl⟩
          rw [List.take_add_one, hb, List.any_append, h1]
          have z2 : (decide (sgn (mGet m a a).re = 0) && !decide (mGet m a b = GQ.ofInt 0)) = false := z
          rw [show (some b).toList = [b] from rfl, List.any_cons, z2]; rfl
      · rintro ρ2 ⟨h1, o2, rfl⟩
        rw [List.length_map, List.take_length] at h1
        refine ⟨?_, _, _, rfl⟩
        rw [List.take_add_one, ha, List.any_append, h0]
        simpa using h1
    · rintro ρ1 ⟨h0, o1, o2, rfl⟩
      rw [List.length_map, List.take_length] at h0
      exact h0
    · intro ρ1 h0
      exact xss_one (xs_retv xv_non ⟨⟨by rw [h0]; rfl, rfl⟩, rfl⟩)
/-! ### column -/
def quotR (m : Mat) (left : List Nat) (p : Nat) : List GQ := (List.range m.length).map fun a => if a ∈ left then mGet m a p / mGet m p p else GQ.ofInt 0
def R_column : Rel := fun ds T => ∃ (m : Mat) (left : List Nat) (n p B : Nat), ds = [walkD m left, .int (p : Int)] ∧ Sq n m ∧ p < n ∧ n ≤ 100 ∧ MBd B m ∧ 0 < B ∧ B ≤ 40000000 ∧ mGet m p p ≠ GQ.ofInt 0 ∧ T = fun z => z = rowD (quotR m left p)
theorem mget_bd {n B : Nat} {m : Mat} (sq : Sq n m) (bm : MBd B m) {a b : Nat} (ha : a < n) (hb : b < n) : Bd B (mGet m a b) := bm _ (getD_mem (by rw [sq.rows]; exact ha)) _ (getD_mem (by rw [row_len sq ha]; exact hb))
theorem in_nats {a : Nat} {left : List Nat} : (decide ((a : Int) ∈ left.map fun (n : Nat) => (n : Int))) = decide (a ∈ left) := by
  apply decide_eq_decide.mpr
  rw [List.mem_map]
  constructor
  · rintro ⟨b, hb, e⟩
    have : b = a := by omega
    exact this ▸ hb
  · intro h; exact ⟨a, h, rfl⟩
theorem natsD_items (left : List Nat) : itemsOf (natsD left) = some ((left.map fun (n : Nat) => (n : Int)).map D.int) := by
  unfold natsD
  rw [List.map_map]; rfl
theorem ok_column (T : Tx P K mg) : Mth P w K mg base (He.ga K "Walk") "column" 39 R_column := by
  obtain ⟨fd, F⟩ := T.F_Walk_column
  refine mkMth F sc_Walk_column T.cl_Walk T.m_Walk_column ?_ ?_ (fun _ _ _ _ _ _ us hl => match us, hl with | [_, _], _ => rfl)
  · rintro ds S ⟨m, left, n, p, B, rfl, _⟩; rfl
  · rintro cdv A outer s H E hr ds S ⟨m, left, n, p, B, rfl, sq, hp, hn, bm, b0, hB, h0, rfl⟩
    have hnd := sc_Walk_column.nd
    refine xss_set 2 hnd (xv_mget sq hp hp (xv_wv T (xv_var 0)) (xv_var 1) (xv_var 1)) ?_
    refine xss_set 3 hnd (xv_len T.b_len (xv_wv T (xv_var 0)) rfl) ?_
    refine xss_one (xs_retv (d := rowD (quotR m left p)) (xv_to (xv_of_xf (xf_map (own := [("at", 4)]) (τ := tName 4) (ds := rng 0 m.length) (fun d => match d with | .int i => .num (if i.toNat ∈ left then mGet m i.toNat p / mGet m p p else GQ.ofInt 0) | _ => .non) rfl hnd (xi_range1 T.b_range (xv_var 3) (by simp) (by simp; have := sq.rows; omega)) (blk_ok rfl (by rfl)) (fun _ _ _ _ _ => xg_name 4 hnd) (by rw [rng_len]; have := sq.rows; omega) ?_)) ?_) ⟨rfl, rfl⟩)
    · intro d hd
      obtain ⟨i, hi, rfl⟩ := mem_rng hd
      rw [show (0 : Int) + (i : Nat) = (i : Int) by omega]
      rw [sq.rows] at hi
      refine ⟨_, rfl, rfl, fun _ _ _ _ _ => ?_⟩
      simp only [Int.toNat_natCast]
      refine xe_if (k := decide (i ∈ left)) (xt_to (xt_inI (xv_var 4) (xv_wl T (xv_var 0)) (natsD_items left)) in_nats) (fun z => ?_) fun z => ?_
      · rw [if_pos (of_decide_eq_true z)]
        exact xv_meth (ok_over T) hr (xv_mget sq hi hp (xv_wv T (xv_var 0)) (xv_var 4) (xv_var 1)) insNum rfl (xva_cons (xv_var 2) xva_nil) ⟨_, _, _, B, rfl, .inl rfl, h0, b0, hB, mget_bd sq bm hi hp, mget_bd sq bm hp hp, rfl⟩ rfl
      · rw [if_neg (of_decide_eq_false z)]
        exact xv_call0 (ok_nought T) (hr.mono (by decide)) ⟨rfl, rfl⟩
    · show D.lst _ = D.lst _
      congr 1
      unfold quotR rng
      rw [List.map_map, List.map_map]
      refine List.map_congr_left fun a _ => ?_
      simp only [Function.comp_def]
      rw [show (0 : Int) + (a : Nat) = (a : Int) by omega, Int.toNat_natCast]
end NL

/-! text DL15 -/
set_option Elab.async false
set_option linter.all false
set_option maxRecDepth 100000
set_option maxHeartbeats 4000000
/-! The D-layer: list(..), tuple(..), fields that hold own lists, shades. -/
namespace NL
open PySem PySem.Spec L2
section
variable {X : Cx} {ρ : Env} {pos p : Pos} {a : Expr}
/-- list(xs) -/
theorem xf_listOf {d : D} {ds : List D} (hm : X.mg "list" = none) (ha : XV X a ρ d) (e : itemsOf d = some ds) (hg : Gl X "list" := by rfl) (he : starEach [a] X.env = (false, eval a X.env) :: starEach [] X.env := by rfl) (hpl : (backTo pos (starEach [] X.env)).any (·.1) = false := by rfl) : XF X (.Call (.Name "list" p) [a] [] pos) ρ (fun z => z = ds) :=
  pe_imp (pe_callTy call_list_of hg hm (by decide +kernel) (pa_cons ha pa_nil he) (by decide) (by decide) he hpl) fun σ H Q ⟨G, H0, l, sl, k⟩ => ⟨G, H0, l, sl, fun G1 H1 v z t1 i1 s1 => by
    subst s1
    obtain ⟨q1, vs, rfl, s, hd⟩ := seq_of t1.ok i1 e
    exact ⟨q1, vs, rfl, s, fun p hp => k G1 _ p _ _ (t1.trans (Tr.own t1.ok hp)) (t1.fresh0 hp) (t1.ok.none hp) upd_same hd rfl⟩⟩
/-- list(range(n)) -/
theorem rgV_dal {K : PySem.W.Frag} {G : Hp} {n : Nat} : DaL K G (rgV 0 (n : Int)) (rng 0 n) := by
  refine ⟨by rw [rgV_length, rng_len]; omega, fun i v d h1 h2 => ?_⟩
  obtain ⟨hi, rfl⟩ := rng_at h2
  unfold rgV at h1
  rw [List.getElem?_map] at h1
  obtain ⟨j, hj, rfl⟩ := Option.map_eq_some_iff.mp h1
  rw [List.getElem?_range (by omega)] at hj
  cases hj
  exact .int _
theorem xf_listRg {n : Nat} {p2 pos2 : Pos} (hc : X.calm = true) (hm : X.mg "list" = none) (hm2 : X.mg "range" = none) (ha : XV X a ρ (.int (n : Int))) (hn : n ≤ 10000) (hg : Gl X "list" := by rfl) (hg2 : Gl X "range" := by rfl) (na : starEach [a] X.env = (false, eval a X.env) :: starEach [] X.env := by rfl)
    (nb : starEach [.Call (.Name "range" p2) [a] [] pos2] X.env = (false, eval (.Call (.Name "range" p2) [a] [] pos2) X.env) :: starEach [] X.env := by rfl) : XF X (.Call (.Name "list" p) [.Call (.Name "range" p2) [a] [] pos2] [] pos) ρ (fun z => z = rng 0 n) :=
  pe_imp (pe_listRg hc hg hm (prg_1 hg2 hm2 ha na) nb) fun σ H Q ⟨G, H0, l, sl, k⟩ => ⟨G, H0, l, sl, fun G1 H1 v z t1 i1 s1 => by
    subst s1
    cases i1
    exact ⟨_, rfl, RgOk.of_le (by omega) (by omega) (by omega) (by omega), fun q hq => k G1 _ q _ _ (t1.trans (Tr.own t1.ok hq)) (t1.fresh0 hq) (t1.ok.none hq) upd_same rgV_dal rfl⟩⟩
end
/-- an instance at p, our own -/
def ObAt (p C : Addr) (fs : List (Str × V)) : HW := fun H0 G H => H0 p = none ∧ G p = none ∧ ∃ dx, H p = some (.ins C dx fs)
/-- a list at p, our own -/
def OlAt (K : PySem.W.Frag) (p : Addr) (ds : List D) : HW := fun H0 G H => H0 p = none ∧ G p = none ∧ ∃ vs, H p = some (.lst vs) ∧ DaL K G vs ds
theorem ObAt.still {p C : Addr} {fs : List (Str × V)} : Still (ObAt p C fs) := fun H0 G H G' H' ⟨a, b, dx, c⟩ t => ⟨a, t.pv _ _ c b, dx, t.hh _ _ c (by rw [b]; exact fun z => nomatch z)⟩
theorem OlAt.still {K : PySem.W.Frag} {p : Addr} {ds : List D} : Still (OlAt K p ds) := fun H0 G H G' H' ⟨a, b, vs, c, d⟩ t => ⟨a, t.pv _ _ c b, vs, t.hh _ _ c (by rw [b]; exact fun z => nomatch z), d.mono t.gg⟩
theorem Still.and {Ω Ω' : HW} (a : Still Ω) (b : Still Ω') : Still (fun H0 G H => Ω H0 G H ∧ Ω' H0 G H) := fun H0 G H G' H' h t => ⟨a _ _ _ _ _ h.1 t, b _ _ _ _ _ h.2 t⟩
theorem Still.pure {c : Prop} : Still (fun _ _ _ => c) := fun _ _ _ _ _ h _ => h
/-- what is told of another address stays when p changes -/
theorem ObAt.upd' {p q C : Addr} {fs : List (Str × V)} {H0 G H : Hp} {o : HO} (h : ObAt q C fs H0 G H) (n : q ≠ p) : ObAt q C fs H0 G (upd H p o) := by
  obtain ⟨a, b, dx, c⟩ := h
  exact ⟨a, b, dx, by rw [upd_ne n]; exact c⟩
theorem OlAt.upd' {K : PySem.W.Frag} {p q : Addr} {ds : List D} {H0 G H : Hp} {o : HO} (h : OlAt K q ds H0 G H) (n : q ≠ p) : OlAt K q ds H0 G (upd H p o) := by
  obtain ⟨a, b, vs, c, d⟩ := h
  exact ⟨a, b, vs, by rw [upd_ne n]; exact c, d⟩
theorem ob_ne_ol {K : PySem.W.Frag} {p q C : Addr} {fs : List (Str × V)} {ds : List D} {H0 G H : Hp} (h : ObAt p C fs H0 G H) (h' : OlAt K q ds H0 G H) : p ≠ q := fun z => by
  subst z
  obtain ⟨_, _, dx, c⟩ := h
  obtain ⟨_, _, vs, d, _⟩ := h'
  rw [c] at d; cases d
section
variable {X : Cx} {ρ : Env} {Φ : OutW} {pos : Pos} {rest : List Stmt} {Ω : HW}
/-- self.f = (a new list), which stays our own -/
theorem xws_fldF (as : List Addr) {x : Expr} {e : Expr} {f : Str} {apos : Pos} {p C : Addr} {fs : List (Str × V)} {ds : List D} (hk : knownE ρ = true) (hst : Still Ω) (has : ∀ H0 G H, Ω H0 G H → ∀ a ∈ as, H a ≠ none) (hx : XV X x ρ (.adr p)) (he : XF X e ρ (fun z => z = ds)) (hc : Cls X.K C) (hna : NoAttr X.K C f) (hlen : fs.length < 1000)
    (hΩ : ∀ H0 G H o, ObAt p C fs H0 G H → Ω H0 G H → Ω H0 G (upd H p o))
    (hr : ∀ a, a ∉ as → XWs X rest ρ (fun H0 G H => ObAt p C (putF f (.ref a) fs) H0 G H ∧ OlAt X.K a ds H0 G H ∧ Ω H0 G H) Φ)
    (hs : swapsWith e (some (.Attribute x f apos)) pos.line X.env = pure false := by rfl) : XWs X (.Assign [.Attribute x f apos] e pos :: rest) ρ (fun H0 G H => ObAt p C fs H0 G H ∧ Ω H0 G H) Φ :=
  pss_imp (pss_cons (ps_fld hx he hs) pss_anyW) fun Dn σ H ⟨G0, H0, G, t, sl, o, k⟩ => ⟨G, H0, t.ok, sl, fun G' H' q vs es t' hq hg hh hd s => by
    subst s
    refine ⟨G', H0, t'.ok, sl.mono t', fun G2 H2 v d t2 i2 s2 => ?_⟩
    subst s2
    cases i2
    have t12 := t'.trans t2
    have o1 := ObAt.still _ _ _ _ _ o.1 t12
    obtain ⟨h0, g0, dx, hp⟩ := id o1
    have oq : OlAt X.K q es H0 G2 H2 := OlAt.still _ _ _ _ _ ⟨t.fresh0 hq, hg, vs, hh, hd⟩ t2
    have pq : p ≠ q := ob_ne_ol o1 oq
    exact ⟨p, C, dx, fs, rfl, hp, hc, hna, hlen, ρ, _, Φ, hr q (fun m => has _ _ _ o.2 q m hq), G0, H0, G2, (t.trans t12).mut h0 g0, sl.known hk t12.gg, ⟨⟨h0, g0, dx, upd_same⟩, oq.upd' (Ne.symm pq), hΩ _ _ _ _ o1 (hst _ _ _ _ _ o.2 t12)⟩, k⟩⟩
/-- self.f = e, e known for good -/
theorem xws_fldV {x : Expr} {e : Expr} {f : Str} {apos : Pos} {p C : Addr} {fs : List (Str × V)} {d : D} (hk : knownE ρ = true) (hst : Still Ω) (hx : XV X x ρ (.adr p)) (he : XV X e ρ d) (n : noOl d = true) (hc : Cls X.K C) (hna : NoAttr X.K C f) (hlen : fs.length < 1000)
    (hΩ : ∀ H0 G H o, ObAt p C fs H0 G H → Ω H0 G H → Ω H0 G (upd H p o))
    (hr : XWs X rest ρ (fun H0 G H => (∃ c, ObAt p C (putF f c fs) H0 G H ∧ Da X.K G c d) ∧ Ω H0 G H) Φ)
    (hs : swapsWith e (some (.Attribute x f apos)) pos.line X.env = pure false := by rfl) : XWs X (.Assign [.Attribute x f apos] e pos :: rest) ρ (fun H0 G H => ObAt p C fs H0 G H ∧ Ω H0 G H) Φ :=
  pss_imp (pss_cons (ps_fld hx he hs) pss_anyW) fun Dn σ H ⟨G0, H0, G, t, sl, o, k⟩ => ⟨G, H0, t.ok, sl, fun G' H' c e' t' ic s => by
    subst s
    refine ⟨G', H0, t'.ok, sl.mono t', fun G2 H2 v d t2 i2 s2 => ?_⟩
    subst s2
    cases i2
    have t12 := t'.trans t2
    have o1 := ObAt.still _ _ _ _ _ o.1 t12
    obtain ⟨h0, g0, dx, hp⟩ := id o1
    exact ⟨p, C, dx, fs, rfl, hp, hc, hna, hlen, ρ, _, Φ, hr, G0, H0, G2, (t.trans t12).mut h0 g0, sl.known hk t12.gg, ⟨⟨c, ⟨h0, g0, dx, upd_same⟩, (ic.da n).mono t2.gg⟩, hΩ _ _ _ _ o1 (hst _ _ _ _ _ o.2 t12)⟩, k⟩⟩
theorem putF_putF (f : Str) (v w : V) : ∀ fs : List (Str × V), putF f v (putF f w fs) = putF f v fs
  | [] => by unfold putF; unfold putF; simp
  | (g, x) :: r => by
    by_cases h : g = f
    · have e : putF f w ((g, x) :: r) = (g, w) :: r := by
        show (if g = f then _ else _) = _
        rw [if_pos h]
      have e2 : ∀ z, putF f v ((g, z) :: r) = (g, v) :: r := fun z => by
        show (if g = f then _ else _) = _
        rw [if_pos h]
      rw [e, e2, e2]
    · have e : ∀ u s z, putF f u ((g, z) :: s) = (g, z) :: putF f u s := fun u s z => by
        show (if g = f then _ else _) = _
        rw [if_neg h]
      rw [e, e, e, putF_putF f v w r]
end
/-! ### shades: a datum of which only the kind is kept -/
structure Shade (d z : D) : Prop where
  non : isNon z = isNon d
  int : ∀ i, d = .int i → z = .int i
  no : noOl z = true
theorem Da.shade {K : PySem.W.Frag} {G : Hp} {v : V} {d : D} (h : Da K G v d) : ∃ z, (∀ G2, Da K G2 v z) ∧ Shade d z := by
  cases h with
  | non => exact ⟨.non, fun _ => .non, rfl, fun _ e => e, rfl⟩
  | bl b => exact ⟨.bl b, fun _ => .bl b, rfl, fun _ e => e, rfl⟩
  | int b => exact ⟨.int b, fun _ => .int b, rfl, fun _ e => e, rfl⟩
  | str b => exact ⟨.str b, fun _ => .str b, rfl, fun _ e => e, rfl⟩
  | ty b => exact ⟨.ty b, fun _ => .ty b, rfl, fun _ e => e, rfl⟩
  | num e n => exact ⟨.adr _, fun _ => .adr _, rfl, fun i e => (nomatch e), rfl⟩
  | rat e n => exact ⟨.adr _, fun _ => .adr _, rfl, fun i e => (nomatch e), rfl⟩
  | parts e => exact ⟨.adr _, fun _ => .adr _, rfl, fun i e => (nomatch e), rfl⟩
  | lst _ _ _ => exact ⟨.adr _, fun _ => .adr _, rfl, fun i e => (nomatch e), rfl⟩
  | tup _ _ _ => exact ⟨.adr _, fun _ => .adr _, rfl, fun i e => (nomatch e), rfl⟩
  | dict e => exact ⟨.adr _, fun _ => .adr _, rfl, fun i e => (nomatch e), rfl⟩
  | pot e => exact ⟨.adr _, fun _ => .adr _, rfl, fun i e => (nomatch e), rfl⟩
  | cls x => exact ⟨.cls x, fun _ => .cls x, rfl, fun _ e => e, rfl⟩
  | adr p => exact ⟨.adr p, fun _ => .adr p, rfl, fun _ e => e, rfl⟩
  | walk _ _ _ _ _ => exact ⟨.adr _, fun _ => .adr _, rfl, fun i e => (nomatch e), rfl⟩
  | scrF e => exact ⟨.adr _, fun _ => .adr _, rfl, fun i e => (nomatch e), rfl⟩
  | scrK e => exact ⟨.adr _, fun _ => .adr _, rfl, fun i e => (nomatch e), rfl⟩
end NL

/-! text P12 -/
set_option Elab.async false
set_option linter.all false
set_option maxRecDepth 100000
set_option maxHeartbeats 4000000
/-! Walk: its making and its step. -/
namespace NL
open PySem PySem.Spec L2
open PyProof.Rows (envOfC)
variable {P : Program} {w : World} {K : PySem.W.Frag} {mg : Str → Option Value} {base : Heap}
/-- a Walk at p, its rows at a, its weights at b -/
def WalkAt (K : PySem.W.Frag) (p a b : Addr) (W : Mat → Prop) (m : Mat) (left : List Nat) : HW := fun H0 G H => (∃ c, ObAt p (He.ga K "Walk") (fWalk (.ref a) (.ref b) c) H0 G H ∧ Da K G c (natsD left)) ∧ OlAt K a (m.map rowD) H0 G H ∧ (∃ wts, W wts ∧ OlAt K b (wts.map rowD) H0 G H) ∧ a ≠ b
theorem WalkAt.still {p a b : Addr} {W : Mat → Prop} {m : Mat} {left : List Nat} : Still (WalkAt K p a b W m left) := fun H0 G H G' H' ⟨⟨c, x1, x2⟩, x3, ⟨wts, x4, x6⟩, x7⟩ t =>
  ⟨⟨c, ObAt.still _ _ _ _ _ x1 t, x2.mono t.gg⟩, OlAt.still _ _ _ _ _ x3 t, ⟨wts, x4, OlAt.still _ _ _ _ _ x6 t⟩, x7⟩
/-- n rows of n, small -/
def WB (n B : Nat) : Mat → Prop := fun w => Sq n w ∧ MBd B w
/-! ### __init__ -/
def unitR (n a : Nat) : List GQ := (List.range n).map fun b => if a = b then GQ.ofInt 1 else GQ.ofInt 0
def spW0 (K : PySem.W.Frag) : Sp := fun vs H Q _ => ∃ G H0 p dx v m n, vs = [.ref p, v] ∧ Tr G H0 G H ∧ H0 p = none ∧ G p = none ∧ H p = some (.ins (He.ga K "Walk") dx []) ∧ Da K G v (matD m) ∧ Sq n m ∧ n ≤ 100 ∧
  ∀ G' H' a b, Tr G H0 G' H' → WalkAt K p a b (WB n 1) m (List.range n) H0 G' H' → Q .non H'
theorem rng_nats (n : Nat) : rng 0 n = (List.range n).map fun (i : Nat) => D.int (i : Int) := by
  unfold rng
  refine List.map_congr_left fun i _ => ?_
  rw [show (0 : Int) + (i : Nat) = (i : Int) by omega]
theorem fl_ok1 (f : Str) (x : V) : (putF f x []).length < 1000 := fl1 f x
theorem ok_Walk_init (T : Tx P K mg) : ∃ fd, FnOk P w K mg base CX0 38 (d_Walk_init.ad K) fd ["self", "twins"] (spW0 K) ∧ Binds K fd ["self", "twins"] [] := by
  obtain ⟨fd, F⟩ := T.F_Walk_init
  refine ⟨fd, F.ok sc_Walk_init (fun vs H Q E ⟨_, _, _, _, _, _, _, e, _⟩ => by rw [e]; rfl) (fun cdv A outer s H vs Q E hr ⟨G, H0, p, dx, v, m, n, e, t, h0, hg, hp, da, sq, hn, k⟩ => ?_), F.bindsN (fun _ _ _ _ _ _ us hl => match us, hl with | [_, _], _ => rfl)⟩
  subst e
  have hnd := sc_Walk_init.nd
  have hm := sq.rows
  have key : XWs (cxD P w K mg base n_Walk_init "Walk.__init__" (defScope s_Walk_init) (d_Walk_init.ad K) cdv A outer s H E) (defBody s_Walk_init) [some (.adr p), some (matD m), none, none, none, none] (ObAt p (He.ga K "Walk") []) { nx := fun _ H0 G H => ∃ a b, WalkAt K p a b (WB n 1) m (List.range n) H0 G H } := by
    refine xws_lift ObAt.still (xs_set 2 (xv_len T.b_len (xv_var 1) rfl) (fun _ e => by subst e; exact ⟨rfl, rfl⟩) hnd) ?_
    refine xws_imp (Ω' := fun H0 G H => ObAt p (He.ga K "Walk") [] H0 G H ∧ True) ?_ fun _ _ _ h => ⟨h, trivial⟩
    refine xws_fldF [] (ds := m.map rowD) rfl Still.pure (fun _ _ _ _ a h => nomatch h) (xv_var 0) (xf_imp (xf_map (own := [("row", 3)]) (τ := tName 3) (ds := m.map rowD) (fun d => d) rfl hnd (xi_list (xv_var 1)) (blk_ok rfl (by rfl)) (fun _ _ _ _ _ => xg_name 3 hnd) (by simp; omega) ?_) fun z e => e.trans (List.map_id' _)) T.cl_Walk T.na_Walk_own_values (by decide) (fun _ _ _ _ _ h => h) fun a _ => ?_
    · intro d hd
      obtain ⟨r, hr', rfl⟩ := List.mem_map.mp hd
      exact ⟨_, rfl, rfl, fun _ _ _ _ _ => xv_of_xf (xf_listOf T.b_list (xv_var 3) rfl)⟩
    refine xws_imp (Ω' := fun H0 G H => ObAt p (He.ga K "Walk") (putF "own_values" (.ref a) []) H0 G H ∧ OlAt K a (m.map rowD) H0 G H) ?_ fun _ _ _ h => ⟨h.1, h.2.1⟩
    refine xws_fldF [a] (ds := ((List.range n).map (unitR n)).map rowD) rfl OlAt.still (fun H0 G H h x hx => by
      obtain ⟨_, _, vs, c, _⟩ := h
      rw [List.mem_singleton.mp hx, c]; exact fun z => nomatch z) (xv_var 0) (xf_imp (xf_map (own := [("near", 4)]) (τ := tName 4) (ds := rng 0 n) (fun d => match d with | .int i => rowD (unitR n i.toNat) | _ => .non) rfl hnd (xi_range1 T.b_range (xv_var 2) (by rw [List.length_map, hm]; simp) (by rw [List.length_map, hm]; omega)) (blk_ok rfl (by rfl)) (fun _ _ _ _ _ => xg_name 4 hnd) (by rw [rng_len]; omega) ?_) fun z e => e.trans ?_) T.cl_Walk T.na_Walk_own_weights (fl1 _ _) (fun H0 G H o h h' => h'.upd' (Ne.symm (ob_ne_ol h h'))) fun b hb => ?_
    · intro d hd
      obtain ⟨i, hi, rfl⟩ := mem_rng hd
      rw [show (0 : Int) + (i : Nat) = (i : Int) by omega]
      refine ⟨_, rfl, rfl, fun _ _ _ _ _ => ?_⟩
      refine xe_of_xf (xf_map (own := [("far", 5)]) (τ := tName 5) (ds := rng 0 n) (fun d => match d with | .int j => .num (if i = j.toNat then GQ.ofInt 1 else GQ.ofInt 0) | _ => .non) rfl hnd (xi_range1 T.b_range (xv_var 2) (by rw [List.length_map, hm]; simp) (by rw [List.length_map, hm]; omega)) (blk_ok rfl (by rfl)) (fun _ _ _ _ _ => xg_name 5 hnd) (by rw [rng_len]; omega) ?_) fun z e => ?_
      · intro d hd
        obtain ⟨j, hj, rfl⟩ := mem_rng hd
        rw [show (0 : Int) + (j : Nat) = (j : Int) by omega]
        refine ⟨_, rfl, rfl, fun _ _ _ _ _ => ?_⟩
        simp only [Int.toNat_natCast]
        refine xe_if (k := decide (i = j)) (xt_to (xt_eq (xv_var 4) (xv_var 5)) (decide_eq_decide.mpr (by omega))) (fun z => ?_) fun z => ?_
        · rw [if_pos (of_decide_eq_true z)]
          exact xv_call0 (ok_one T) (hr.mono (by decide)) ⟨rfl, rfl⟩
        · rw [if_neg (of_decide_eq_false z)]
          exact xv_call0 (ok_nought T) (hr.mono (by decide)) ⟨rfl, rfl⟩
      · subst e
        show D.lst _ = D.lst _
        congr 1
        rw [rng_nats]
        unfold unitR
        rw [List.map_map, List.map_map]
        refine List.map_congr_left fun j _ => ?_
        simp [Function.comp_def]
    · rw [rng_nats, List.map_map, List.map_map]
      refine List.map_congr_left fun i _ => ?_
      simp [Function.comp_def]
    · have hba : a ≠ b := fun z => hb (by rw [z]; exact List.mem_singleton.mpr rfl)
      refine xws_imp (Ω' := fun H0 G H => ObAt p (He.ga K "Walk") (putF "own_weights" (.ref b) (putF "own_values" (.ref a) [])) H0 G H ∧ (OlAt K a (m.map rowD) H0 G H ∧ OlAt K b (((List.range n).map (unitR n)).map rowD) H0 G H)) ?_ fun _ _ _ h => ⟨h.1, h.2.2, h.2.1⟩
      refine xws_fldV (d := natsD (List.range n)) rfl (Still.and OlAt.still OlAt.still) (xv_var 0) (xv_to (xv_of_xf (xf_listRg rfl T.b_list T.b_range (xv_var 2) (by rw [List.length_map, hm]; omega))) (by rw [List.length_map, hm, rng_nats]; rfl)) rfl T.cl_Walk T.na_Walk_own_left (fl2 _ _ _ _) (fun H0 G H o h h' => ⟨h'.1.upd' (Ne.symm (ob_ne_ol h h'.1)), h'.2.upd' (Ne.symm (ob_ne_ol h h'.2))⟩) ?_
      refine xws_nil fun H0 G H ⟨hc, h1, h2⟩ => ⟨a, b, hc, h1, ⟨(List.range n).map (unitR n), ⟨⟨by simp, fun r hr' => ?_⟩, fun r hr' x hx => ?_⟩, h2⟩, hba⟩
      · obtain ⟨i, _, rfl⟩ := List.mem_map.mp hr'
        simp [unitR]
      · obtain ⟨i, _, rfl⟩ := List.mem_map.mp hr'
        obtain ⟨j, _, rfl⟩ := List.mem_map.mp hx
        split
        · exact bd_int (by decide) (by decide)
        · exact bd_int (by decide) (by decide)
  refine ⟨_, key.nox, G, H0, G, t, ?_, ⟨h0, hg, dx, hp⟩, fun G' H' σ' ρ' t' sl' ⟨a, b, hw⟩ => k G' H' a b t' hw, fun _ _ _ _ _ _ z => z.elim, fun _ _ _ _ _ _ z => z.elim⟩
  refine ⟨rfl, fun i d e => ?_, fun i j d e q n a b c c' => ?_⟩
  · match i, e with
    | 0, e => cases e; exact ⟨.ref p, rfl, Is.of (.adr p)⟩
    | 1, e => cases e; exact ⟨v, rfl, Is.of da⟩
    | 2, e => cases e
    | 3, e => cases e
    | 4, e => cases e
    | 5, e => cases e
    | i + 6, e => simp at e
  · match i, a with
    | 0, a => cases a; cases c
    | 1, a => cases a; cases c
    | 2, a => cases a
    | 3, a => cases a
    | 4, a => cases a
    | 5, a => cases a
    | i + 6, a => simp at a
end NL

/-! text P13 -/
set_option Elab.async false
set_option linter.all false
set_option maxRecDepth 100000
set_option maxHeartbeats 4000000
/-! Walk read while it stands open. -/
namespace NL
open PySem PySem.Spec L2
open PyProof.Rows (envOfC)
/-- what is known, without p and a -/
def less2 (G : Hp) (p a : Addr) : Hp := fun x => if x = p ∨ x = a then none else G x
theorem less2_p {G : Hp} {p a : Addr} : less2 G p a p = none := if_pos (.inl rfl)
theorem less2_a {G : Hp} {p a : Addr} : less2 G p a a = none := if_pos (.inr rfl)
theorem less2_ne {G : Hp} {p a x : Addr} (h : x ≠ p) (h' : x ≠ a) : less2 G p a x = G x := if_neg (fun z => z.elim h h')
theorem Tr.minus {G H G' H' : Hp} {p a : Addr} {o1 o2 : HO} (hp : G p = none) (ha : G a = none) (t : Tr (upd (upd G p o1) a o2) H G' H') (n1 : o1 ≠ potMark) (n2 : o2 ≠ potMark) : Tr G H (less2 G' p a) H' where
  gg := ⟨fun x o h => by
    have xp : x ≠ p := fun z => by rw [z, hp] at h; cases h
    have xa : x ≠ a := fun z => by rw [z, ha] at h; cases h
    rw [less2_ne xp xa]
    exact t.gg.go x o (by rw [upd_ne xa, upd_ne xp]; exact h)⟩
  ok := ⟨fun x o h n => by
    unfold less2 at h
    split at h
    · cases h
    · exact t.ok.at_ x o h n, fun x h => by
    unfold less2 at h
    split at h
    · cases h
    · exact t.ok.pot x h⟩
  hh := fun x o h n => t.hh x o h fun z => by
    by_cases xa : x = a
    · subst xa; rw [upd_same] at z; exact n2 (Option.some.inj z)
    · rw [upd_ne xa] at z
      by_cases xp : x = p
      · subst xp; rw [upd_same] at z; exact n1 (Option.some.inj z)
      · rw [upd_ne xp] at z; exact n z
  pv := fun x o h n => by
    unfold less2
    split
    · rfl
    · rename_i hx
      have xp : x ≠ p := fun z => hx (.inl z)
      have xa : x ≠ a := fun z => hx (.inr z)
      exact t.pv x o h (by rw [upd_ne xa, upd_ne xp]; exact n)
section
variable {X : Cx} {ρ : Env} {pos : Pos} {k : Nat} {W : Mat → Prop} {m : Mat} {left : List Nat} {p a b : Addr} {P : Program}
/-- with the Walk's state known -/
theorem walk_known {K : PySem.W.Frag} {H0 G H : Hp} (l : Le G H) (o : WalkAt K p a b W m left H0 G H) : ∃ dx c vs, G p = none ∧ G a = none ∧ p ≠ a ∧ H p = some (.ins (He.ga K "Walk") dx (fWalk (.ref a) (.ref b) c)) ∧ H a = some (.lst vs) ∧
    Le (upd (upd G p (.ins (He.ga K "Walk") dx (fWalk (.ref a) (.ref b) c))) a (.lst vs)) H ∧ Ex G (upd (upd G p (.ins (He.ga K "Walk") dx (fWalk (.ref a) (.ref b) c))) a (.lst vs)) ∧ Da K (upd (upd G p (.ins (He.ga K "Walk") dx (fWalk (.ref a) (.ref b) c))) a (.lst vs)) (.ref p) (walkD m left) := by
  obtain ⟨⟨c, ob, dc⟩, oa, _, _⟩ := o
  have pa := ob_ne_ol ob oa
  obtain ⟨h0, g0, dx, hp⟩ := ob
  obtain ⟨h1, g1, vs, hv, dv⟩ := oa
  have ex1 : Ex G (upd G p (.ins (He.ga K "Walk") dx (fWalk (.ref a) (.ref b) c))) := Ex.upd g0
  have ga1 : upd G p (.ins (He.ga K "Walk") dx (fWalk (.ref a) (.ref b) c)) a = none := by rw [upd_ne (Ne.symm pa)]; exact g1
  have ex2 := ex1.trans (Ex.upd (o := .lst vs) ga1)
  refine ⟨dx, c, vs, g0, g1, pa, hp, hv, ⟨fun x o h n => ?_, fun x h => ?_⟩, ex2, ?_⟩
  · by_cases xa : x = a
    · subst xa; rw [upd_same] at h; cases h; exact hv
    · rw [upd_ne xa] at h
      by_cases xp : x = p
      · subst xp; rw [upd_same] at h; cases h; exact hp
      · rw [upd_ne xp] at h; exact l.at_ x o h n
  · by_cases xa : x = a
    · subst xa; rw [upd_same] at h; exact absurd (Option.some.inj h) pot_lst
    · rw [upd_ne xa] at h
      by_cases xp : x = p
      · subst xp; rw [upd_same] at h; exact absurd (Option.some.inj h) ins_not_pot
      · rw [upd_ne xp] at h; exact l.pot x h
  · have dv2 := dv.mono ex2
    exact .walk (a := a) (by rw [upd_ne pa, upd_same]) upd_same dv2.1 dv2.2 (dc.mono ex2)
variable {R : Rel} {Ω : HW}
/-- walk.m(..): of the answer only its kind -/
theorem xew_walk {x : Expr} {mm : Str} {apos : Pos} {e : Expr} {es : List Expr} {ds : List D} {T : D → Prop} {pl : Sem Bool} (Tx' : Tx P X.K X.mg) (hΩ : ∀ H0 G H, Ω H0 G H → WalkAt X.K p a b W m left H0 G H) (F : Mth X.prog X.w X.K X.mg X.base (He.ga X.K "Walk") mm k R) (hr : Room k X.A) (hx : XV X x ρ (.adr p)) (ha : XVA X (e :: es) ρ ds) (hn : ds.all noOl = true) (r : R (walkD m left :: ds) T)
    (h1 : ¬ mm = "own_values" := by decide +kernel) (h2 : ¬ mm = "own_weights" := by decide +kernel) (h3 : ¬ mm = "own_left" := by decide +kernel)
    (hst : starEach (e :: es) X.env = (false, eval e X.env) :: starEach es X.env := by rfl) (hpl : (backTo pos (starEach es X.env)).any (·.1) = false := by rfl)
    (ht : eval (.Call (.Attribute x mm apos) (e :: es) [] pos) X.env = (do
      let ov ← eval x X.env
      standAt apos.atName
      let (f, first) ← holding [ov] (getMethod ov mm pl)
      callWith pos f first (backTo pos (starEach (e :: es) X.env)) (backToKw pos (keywordEach [] X.env))) := by rfl) : XEW X (.Call (.Attribute x mm apos) (e :: es) [] pos) ρ Ω (fun z => ∃ d, T d ∧ Shade d z) := by
  obtain ⟨f, fd, ps, F, hc, hm, hb⟩ := F.ex
  refine pe_imp (pe_meth hx hc hm F hr hb .nil pass0 ha hst hpl ht) fun σ H Q ⟨G, H0, l, sl, o, k⟩ => ⟨G, H0, l, sl, fun G1 H1 v z t1 i1 s1 => ?_⟩
  subst s1
  cases i1
  have o1 := WalkAt.still _ _ _ _ _ (hΩ _ _ _ o) t1
  obtain ⟨dx, c, vs, _, _, _, hp, _, _⟩ := walk_known t1.ok o1
  refine ⟨p, dx, _, rfl, hp, fWalk_no _ _ _ h1 h2 h3, G1, H0, t1.ok, sl.mono t1, fun G2 H2 us zs t2 i2 s2 => ?_⟩
  subst s2
  rw [List.append_nil]
  have o2 := WalkAt.still _ _ _ _ _ o1 t2
  obtain ⟨dx, c, vs, gp, ga, pa, hp, hv, le2, ex2, dw⟩ := walk_known t2.ok o2
  refine ⟨_, _, T, le2, DaL.cons dw ((i2.all hn).mono ex2), r, fun G3 H3 u d t3 da td => ?_⟩
  have tm := Tr.minus gp ga t3 ins_not_pot pot_lst
  obtain ⟨z, hz, hs⟩ := da.shade
  exact k _ H3 u z ((t1.trans t2).trans tm) (Is.of (hz _)) ⟨d, td, hs⟩
theorem xew_walk0 {x : Expr} {mm : Str} {apos : Pos} {T : D → Prop} {pl : Sem Bool} (Tx' : Tx P X.K X.mg) (hΩ : ∀ H0 G H, Ω H0 G H → WalkAt X.K p a b W m left H0 G H) (F : Mth X.prog X.w X.K X.mg X.base (He.ga X.K "Walk") mm k R) (hr : Room k X.A) (hx : XV X x ρ (.adr p)) (r : R [walkD m left] T)
    (h1 : ¬ mm = "own_values" := by decide +kernel) (h2 : ¬ mm = "own_weights" := by decide +kernel) (h3 : ¬ mm = "own_left" := by decide +kernel)
    (ht : eval (.Call (.Attribute x mm apos) [] [] pos) X.env = (do
      let ov ← eval x X.env
      standAt apos.atName
      let (f, first) ← holding [ov] (getMethod ov mm pl)
      callWith pos f first (backTo pos (starEach [] X.env)) (backToKw pos (keywordEach [] X.env))) := by rfl) : XEW X (.Call (.Attribute x mm apos) [] [] pos) ρ Ω (fun z => ∃ d, T d ∧ Shade d z) := by
  obtain ⟨f, fd, ps, F, hc, hm, hb⟩ := F.ex
  refine pe_imp (pe_meth0 hx hc hm F hr hb .nil pass0 ht) fun σ H Q ⟨G, H0, l, sl, o, k⟩ => ⟨G, H0, l, sl, fun G1 H1 v z t1 i1 s1 => ?_⟩
  subst s1
  cases i1
  have o1 := WalkAt.still _ _ _ _ _ (hΩ _ _ _ o) t1
  obtain ⟨dx, c, vs, gp, ga, pa, hp, hv, le2, ex2, dw⟩ := walk_known t1.ok o1
  refine ⟨p, dx, _, rfl, hp, fWalk_no _ _ _ h1 h2 h3, ?_⟩
  refine ⟨_, _, T, le2, DaL.cons dw DaL.nil, r, fun G3 H3 u d t3 da td => ?_⟩
  have tm := Tr.minus gp ga t3 ins_not_pot pot_lst
  obtain ⟨z, hz, hs⟩ := da.shade
  exact k _ H3 u z (t1.trans tm) (Is.of (hz _)) ⟨d, td, hs⟩
/-- a row of numbers, its list not among what goes -/
theorem Da.row_minus {K : PySem.W.Frag} {G : Hp} {v : V} {r : List GQ} (h : Da K G v (rowD r)) (hne : r ≠ []) (hp : ∀ C dx fs, G p = some (.ins C dx fs) → fs.lookup ("own_plain" : Str) = none) (ha : ∀ vs, G a = some (.lst vs) → ∀ q, vs[0]? = some (.ref q) → ∃ us, G q = some (.lst us)) (hal : ∃ o, G a = some (.lst o)) (hpi : ∃ C dx fs, G p = some (.ins C dx fs)) : Da K (less2 G p a) v (rowD r) := by
  have num : ∀ {v : V} {x : GQ}, Da K G v (.num x) → Da K (less2 G p a) v (.num x) := fun {v x} d => by
    cases d with
    | @num q dx l r w _ e nn =>
      refine .num (dx := dx) ?_ nn
      rw [less2_ne]
      · exact e
      · intro z; subst z
        have := hp _ _ _ e
        rw [fNum_plain] at this; cases this
      · intro z; subst z
        obtain ⟨o, ho⟩ := hal
        rw [e] at ho; cases ho
  cases h with
  | @lst q vs _ e1 e2 e3 =>
    refine .lst (vs := vs) ?_ e2 fun i u d hu hd => ?_
    · rw [less2_ne]
      · exact e1
      · intro z; subst z
        obtain ⟨C, dx, fs, hh⟩ := hpi
        rw [e1] at hh; cases hh
      · intro z; subst z
        cases r with
        | nil => exact hne rfl
        | cons y r =>
          obtain ⟨u0, hu0, d0⟩ := DaL.at_ (show DaL K G vs ((y :: r).map D.num) from ⟨e2, e3⟩) (i := 0) (d := .num y) rfl
          cases d0 with
          | @num q2 dx l r' w _ e nn =>
            obtain ⟨us, hus⟩ := ha vs e1 q2 hu0
            rw [e] at hus; cases hus
    · have d2 := e3 i u d hu hd
      rw [List.getElem?_map] at hd
      obtain ⟨x, _, rfl⟩ := Option.map_eq_some_iff.mp hd
      exact num d2
/-- walk.column(..): the row itself -/
theorem xew_column {x : Expr} {apos : Pos} {e : Expr} {d : D} {r : List GQ} {pl : Sem Bool} (Tx' : Tx P X.K X.mg) (hΩ : ∀ H0 G H, Ω H0 G H → WalkAt X.K p a b W m left H0 G H) (F : Mth X.prog X.w X.K X.mg X.base (He.ga X.K "Walk") "column" k R) (hr : Room k X.A) (hx : XV X x ρ (.adr p)) (ha : XV X e ρ d) (hn : noOl d = true) (rr : R (walkD m left :: [d]) (fun z => z = rowD r)) (hne : r ≠ []) (hm0 : m ≠ [])
    (hst : starEach [e] X.env = (false, eval e X.env) :: starEach [] X.env := by rfl) (hpl : (backTo pos (starEach [] X.env)).any (·.1) = false := by rfl)
    (ht : eval (.Call (.Attribute x "column" apos) [e] [] pos) X.env = (do
      let ov ← eval x X.env
      standAt apos.atName
      let (f, first) ← holding [ov] (getMethod ov "column" pl)
      callWith pos f first (backTo pos (starEach [e] X.env)) (backToKw pos (keywordEach [] X.env))) := by rfl) : XEW X (.Call (.Attribute x "column" apos) [e] [] pos) ρ Ω (fun z => z = rowD r) := by
  obtain ⟨f, fd, ps, F, hc, hm, hb⟩ := F.ex
  refine pe_imp (pe_meth hx hc hm F hr hb .nil pass0 (xva_cons ha xva_nil hst) hst hpl ht) fun σ H Q ⟨G, H0, l, sl, o, k⟩ => ⟨G, H0, l, sl, fun G1 H1 v z t1 i1 s1 => ?_⟩
  subst s1
  cases i1
  have o1 := WalkAt.still _ _ _ _ _ (hΩ _ _ _ o) t1
  obtain ⟨dx, c, vs, _, _, _, hp, _, _⟩ := walk_known t1.ok o1
  refine ⟨p, dx, _, rfl, hp, fWalk_no _ _ _ (by decide +kernel) (by decide +kernel) (by decide +kernel), G1, H0, t1.ok, sl.mono t1, fun G2 H2 us zs t2 i2 s2 => ?_⟩
  subst s2
  rw [List.append_nil]
  have o2 := WalkAt.still _ _ _ _ _ o1 t2
  obtain ⟨dx, c, vs, gp, ga, pa, hp, hv, le2, ex2, dw⟩ := walk_known t2.ok o2
  refine ⟨_, _, _, le2, DaL.cons dw ((i2.all (show [d].all noOl = true by rw [List.all_cons, hn]; rfl)).mono ex2), rr, fun G3 H3 u d t3 da td => ?_⟩
  subst td
  have tm := Tr.minus gp ga t3 ins_not_pot pot_lst
  refine k _ H3 u _ ((t1.trans t2).trans tm) (Is.of (da.row_minus hne ?_ ?_ ?_ ?_)) rfl
  · intro C dx' fs e
    have := t3.gg.go p _ (by rw [upd_ne pa, upd_same])
    rw [e] at this; cases this
    exact fWalk_no _ _ _ (by decide +kernel) (by decide +kernel) (by decide +kernel)
  · intro ws e q hq
    have h3 := t3.gg.go a _ upd_same
    rw [e] at h3; cases h3
    obtain ⟨_, oa, _⟩ := o2
    obtain ⟨_, _, vs', hv', dv⟩ := oa
    rw [hv] at hv'; cases hv'
    cases m with
    | nil => exact absurd rfl hm0
    | cons r0 m =>
      obtain ⟨y, hy, dy⟩ := dv.at_ (i := 0) (d := rowD r0) rfl
      rw [hq] at hy; cases hy
      cases dy with
      | @lst _ ls _ f1 f2 f3 => exact ⟨ls, t3.gg.go _ _ (ex2.go _ _ f1)⟩
  · exact ⟨_, t3.gg.go a _ upd_same⟩
  · exact ⟨_, _, _, t3.gg.go p _ (by rw [upd_ne pa, upd_same])⟩
end
end NL

/-! text P14 -/
set_option Elab.async false
set_option linter.all false
set_option maxRecDepth 100000
set_option maxHeartbeats 4000000
/-! Walk.take. -/
namespace NL
open PySem PySem.Spec L2
open PyProof.Rows (envOfC)
section
variable {X : Cx} {ρ : Env} {pos : Pos} {Φ : OutW} {rest : List Stmt} {k : Nat} {W : Mat → Prop} {m : Mat} {left : List Nat} {p a b : Addr} {P : Program} {Ω : HW}
/-- known data under Ω -/
theorem xew_of {e : Expr} {S : D → Prop} (h : XE X e ρ S) : XEW X e ρ Ω S := pe_imp h fun σ H Q ⟨G, H0, l, sl, o, k⟩ => ⟨G, H0, l, sl, k⟩
theorem xew_imp {e : Expr} {S S' : D → Prop} (h : XEW X e ρ Ω S') (w : ∀ d, S' d → S d) : XEW X e ρ Ω S := pe_imp h fun σ H Q ⟨G, H0, l, sl, o, k⟩ => ⟨G, H0, l, sl, o, fun G' H' v d t i s => k G' H' v d t i (w d s)⟩
/-- arguments under Ω -/
def tDEA (K : PySem.W.Frag) (ρ : Env) (Ω : HW) (S : List D → Prop) : TA := fun σ H Q => ∃ G H0, Le G H ∧ Sl K H0 G H σ ρ ∧ Ω H0 G H ∧ ∀ G' H' vs ds, Tr G H G' H' → IsL K H0 G' H' vs ds → S ds → Q vs H'
abbrev XAW (X : Cx) (es : List Expr) (ρ : Env) (Ω : HW) (S : List D → Prop) : Prop := PA X es (tDEA X.K ρ Ω S)
theorem xaw_nil : XAW X [] ρ Ω (fun z => z = []) := pa_imp pa_nil fun σ H Q ⟨G, H0, l, sl, o, k⟩ => k G H [] [] (Tr.refl l) trivial rfl
theorem xaw_cons (hst : Still Ω) {e : Expr} {es : List Expr} {Sa : D → Prop} {Sr S : List D → Prop} (h : XEW X e ρ Ω Sa) (hr : XAW X es ρ Ω Sr) (w : ∀ d ds, Sa d → Sr ds → S (d :: ds)) (hs : starEach (e :: es) X.env = (false, eval e X.env) :: starEach es X.env := by rfl) : XAW X (e :: es) ρ Ω S :=
  pa_imp (pa_cons h hr hs) fun σ H Q ⟨G, H0, l, sl, o, k⟩ => ⟨G, H0, l, sl, o, fun G1 H1 v d t1 i1 s1 => ⟨G1, H0, t1.ok, sl.mono t1, hst _ _ _ _ _ o t1, fun G2 H2 vs ds t2 i2 s2 => k G2 H2 (v :: vs) (d :: ds) (t1.trans t2) ⟨i1.mono t2, i2⟩ (w d ds s1 s2)⟩⟩
/-- f(e, ..) under Ω -/
theorem xew_call {R : Rel} {S : D → Prop} {x : Str} {pp : Pos} {e : Expr} {es : List Expr} {Ss : List D → Prop} (F : Fk X.prog X.w X.K X.mg X.base x k R) (hr : Room k X.A) (ha : XAW X (e :: es) ρ Ω Ss) (wh : ∀ ds, Ss ds → ds.all noOl = true ∧ ∃ T, R ds T ∧ ∀ d, T d → S d) (hg : Gl X x := by rfl)
    (hdb : (x == ("__debug__" : Str)) = false := by decide) (he : starEach (e :: es) X.env = (false, eval e X.env) :: starEach es X.env := by rfl) (hpl : (backTo pos (starEach es X.env)).any (·.1) = false := by rfl) : XEW X (.Call (.Name x pp) (e :: es) [] pos) ρ Ω S := by
  obtain ⟨f, fd, ps, F, hm, hk, hb⟩ := F.ex
  refine pe_imp (pe_call F hr hg hm hk hb .nil pass0 ha hdb he hpl) fun σ H Q ⟨G, H0, l, sl, o, k⟩ => ⟨G, H0, l, sl, o, fun G1 H1 vs ds t1 i1 s1 => ?_⟩
  obtain ⟨w1, T, w2, w3⟩ := wh ds s1
  rw [List.append_nil]
  exact ⟨G1, ds, T, t1.ok, i1.all w1, w2, fun G2 H2 v d t2 da s2 => k G2 H2 v d (t1.trans t2) (Is.of da) (w3 d s2)⟩
/-- self.own_values[i] -/
theorem xew_rowV {x ix : Expr} {apos : Pos} {n i : Nat} (T : Tx P X.K X.mg) (hΩ : ∀ H0 G H, Ω H0 G H → WalkAt X.K p a b W m left H0 G H) (hx : XV X x ρ (.adr p)) (hi : XV X ix ρ (.int (i : Int))) (hin : i < m.length) (hs : PlainIx ix := by exact fun _ _ => rfl)
    (hab : attributeBase x ("own_values" : Str) X.env (eval x X.env) = eval x X.env := by rfl) : XEW X (.Subscript (.Attribute x "own_values" apos) ix pos) ρ Ω (fun z => z = rowD (m.getD i [])) :=
  pe_imp (pe_ix ix_list (pe_fld hx hab) hi hs) fun σ H Q ⟨G, H0, l, sl, o, k⟩ => ⟨G, H0, l, sl, fun G1 H1 v d t1 i1 s1 => by
    subst s1
    cases i1
    have o1 := WalkAt.still _ _ _ _ _ (hΩ _ _ _ o) t1
    obtain ⟨⟨c, ⟨_, _, dx, hp⟩, _⟩, _, _⟩ := id o1
    refine ⟨p, _, dx, _, _, rfl, hp, T.cl_Walk, T.na_Walk_own_values, fWalk_values _ _ _, G1, H0, t1.ok, sl.mono t1, fun G2 H2 u e t2 i2 s2 => ?_⟩
    subst s2
    cases i2
    obtain ⟨_, ⟨_, _, vs, hv, dv⟩, _⟩ := WalkAt.still _ _ _ _ _ o1 t2
    obtain ⟨y, hy, dy⟩ := atI_dal dv (matD_at hin)
    exact ⟨a, vs, _, y, rfl, rfl, SqL.of hv, hy, k G2 H2 y _ (t1.trans t2) (Is.of dy) rfl⟩⟩
/-- self.own_weights[i] -/
theorem xew_rowW {x ix : Expr} {apos : Pos} {i : Nat} (T : Tx P X.K X.mg) (hΩ : ∀ H0 G H, Ω H0 G H → WalkAt X.K p a b W m left H0 G H) (hx : XV X x ρ (.adr p)) (hi : XV X ix ρ (.int (i : Int))) (hW : ∀ w, W w → i < w.length) (hs : PlainIx ix := by exact fun _ _ => rfl)
    (hab : attributeBase x ("own_weights" : Str) X.env (eval x X.env) = eval x X.env := by rfl) : XEW X (.Subscript (.Attribute x "own_weights" apos) ix pos) ρ Ω (fun z => ∃ w, W w ∧ z = rowD (w.getD i [])) :=
  pe_imp (pe_ix ix_list (pe_fld hx hab) hi hs) fun σ H Q ⟨G, H0, l, sl, o, k⟩ => ⟨G, H0, l, sl, fun G1 H1 v d t1 i1 s1 => by
    subst s1
    cases i1
    have o1 := WalkAt.still _ _ _ _ _ (hΩ _ _ _ o) t1
    obtain ⟨⟨c, ⟨_, _, dx, hp⟩, _⟩, _, _⟩ := id o1
    refine ⟨p, _, dx, _, _, rfl, hp, T.cl_Walk, T.na_Walk_own_weights, fWalk_weights _ _ _, G1, H0, t1.ok, sl.mono t1, fun G2 H2 u e t2 i2 s2 => ?_⟩
    subst s2
    cases i2
    obtain ⟨_, _, ⟨w, hw, ⟨_, _, vs, hv, dv⟩⟩, _⟩ := WalkAt.still _ _ _ _ _ o1 t2
    obtain ⟨y, hy, dy⟩ := atI_dal dv (matD_at (hW w hw))
    exact ⟨b, vs, _, y, rfl, rfl, SqL.of hv, hy, k G2 H2 y _ (t1.trans t2) (Is.of dy) ⟨w, hw, rfl⟩⟩⟩
/-- self.own_left -/
theorem xew_left {x : Expr} (T : Tx P X.K X.mg) (hΩ : ∀ H0 G H, Ω H0 G H → WalkAt X.K p a b W m left H0 G H) (hx : XV X x ρ (.adr p)) (hab : attributeBase x ("own_left" : Str) X.env (eval x X.env) = eval x X.env := by rfl) : XEW X (.Attribute x "own_left" pos) ρ Ω (fun z => z = natsD left) :=
  pe_imp (pe_fld hx hab) fun σ H Q ⟨G, H0, l, sl, o, k⟩ => ⟨G, H0, l, sl, fun G1 H1 v d t1 i1 s1 => by
    subst s1
    cases i1
    obtain ⟨⟨c, ⟨_, _, dx, hp⟩, dc⟩, _⟩ := WalkAt.still _ _ _ _ _ (hΩ _ _ _ o) t1
    exact ⟨p, _, dx, _, _, rfl, hp, T.cl_Walk, T.na_Walk_own_left, fWalk_left _ _ _, k G1 H1 _ _ t1 (Is.of dc) rfl⟩⟩
/-- self.own_values[i] = e -/
theorem xws_setV {x ix e : Expr} {p1 p2 : Pos} {i : Nat} {r : List GQ} (T : Tx P X.K X.mg) (hk : knownE ρ = true) (hx : XV X x ρ (.adr p)) (hi : XV X ix ρ (.int (i : Int))) (he : XEW X e ρ (WalkAt X.K p a b W m left) (fun z => z = rowD r)) (hin : i < m.length) (hr : XWs X rest ρ (WalkAt X.K p a b W (m.set i r) left) Φ)
    (hab : attributeBase x ("own_values" : Str) X.env (eval x X.env) = eval x X.env := by rfl)
    (hA : ∀ v, assign (.Subscript (.Attribute x "own_values" p1) ix p2) X.env v = (do
      let ov ← holding [v] (eval (.Attribute x "own_values" p1) X.env)
      let iv ← holding [v, ov] (eval ix X.env)
      standAt p2
      holding [v, ov, iv] (setItem ov iv v)
      release [v, ov, iv] []) := by intro _; rfl)
    (hs : swapsWithSole [.Subscript (.Attribute x "own_values" p1) ix p2] e pos.line X.env = pure false := by rfl) (hw : swappedStores [.Subscript (.Attribute x "own_values" p1) ix p2] e X.env = pure none := by rfl) : XWs X (.Assign [.Subscript (.Attribute x "own_values" p1) ix p2] e pos :: rest) ρ (WalkAt X.K p a b W m left) Φ :=
  pss_imp (pss_cons (ps_asg he (pg_sub (pe_fld hx hab) hi set_list hA) hs hw rfl) pss_anyW) fun Dn σ H ⟨G0, H0, G, t, sl, o, k⟩ => ⟨G, H0, t.ok, sl, o, fun G1 H1 v d t1 i1 s1 => by
    subst s1
    refine ⟨G1, H0, t1.ok, sl.mono t1, fun G2 H2 u e2 t2 i2 s2 => ?_⟩
    subst s2
    cases i2
    have o2 := WalkAt.still _ _ _ _ _ o (t1.trans t2)
    obtain ⟨⟨c, ⟨_, _, dx, hp⟩, _⟩, _, _⟩ := id o2
    refine ⟨p, _, dx, _, _, rfl, hp, T.cl_Walk, T.na_Walk_own_values, fWalk_values _ _ _, G2, H0, t2.ok, (sl.mono t1).mono t2, fun G3 H3 u3 e3 t3 i3 s3 => ?_⟩
    subst s3
    cases i3
    have t123 := (t1.trans t2).trans t3
    obtain ⟨⟨c, ob, dc⟩, oa, ⟨w, hw, owt⟩, hab'⟩ := WalkAt.still _ _ _ _ _ o2 t3
    have pa := ob_ne_ol ob oa
    obtain ⟨h0, g0, vs, hv, dv⟩ := oa
    have dr : Da X.K G3 v (rowD r) := (i1.da rfl).mono (t2.trans t3).gg
    refine ⟨a, vs, (i : Int), i, rfl, rfl, hv, ?_, ?_⟩
    · have : vs.length = m.length := by rw [dv.1, List.length_map]
      unfold ixN
      rw [if_pos (by omega), if_pos (by omega)]; rfl
    · refine ⟨ρ, _, Φ, hr, G0, H0, G3, (t.trans t123).mut h0 g0, sl.known hk t123.gg, ⟨⟨c, ob.upd' pa, dc⟩, ⟨h0, g0, _, upd_same, ?_⟩, ⟨w, hw, owt.upd' (Ne.symm hab')⟩, hab'⟩, k⟩
      rw [List.map_set]
      exact dv.set i dr⟩
/-- self.own_weights[i] = e -/
theorem xws_setW' {x ix e : Expr} {p1 p2 : Pos} {i : Nat} {S : D → Prop} {W' : Mat → Prop} (T : Tx P X.K X.mg) (hk : knownE ρ = true) (hx : XV X x ρ (.adr p)) (hi : XV X ix ρ (.int (i : Int))) (he : XEW X e ρ (WalkAt X.K p a b W m left) S) (hin : ∀ w, W w → i < w.length) (hS : ∀ z w, S z → W w → ∃ r, z = rowD r ∧ W' (w.set i r)) (hr : XWs X rest ρ (WalkAt X.K p a b W' m left) Φ)
    (hab : attributeBase x ("own_weights" : Str) X.env (eval x X.env) = eval x X.env := by rfl)
    (hA : ∀ v, assign (.Subscript (.Attribute x "own_weights" p1) ix p2) X.env v = (do
      let ov ← holding [v] (eval (.Attribute x "own_weights" p1) X.env)
      let iv ← holding [v, ov] (eval ix X.env)
      standAt p2
      holding [v, ov, iv] (setItem ov iv v)
      release [v, ov, iv] []) := by intro _; rfl)
    (hs : swapsWithSole [.Subscript (.Attribute x "own_weights" p1) ix p2] e pos.line X.env = pure false := by rfl) (hw : swappedStores [.Subscript (.Attribute x "own_weights" p1) ix p2] e X.env = pure none := by rfl) : XWs X (.Assign [.Subscript (.Attribute x "own_weights" p1) ix p2] e pos :: rest) ρ (WalkAt X.K p a b W m left) Φ :=
  pss_imp (pss_cons (ps_asg he (pg_sub (pe_fld hx hab) hi set_list hA) hs hw rfl) pss_anyW) fun Dn σ H ⟨G0, H0, G, t, sl, o, k⟩ => ⟨G, H0, t.ok, sl, o, fun G1 H1 v d t1 i1 s1 => by
    refine ⟨G1, H0, t1.ok, sl.mono t1, fun G2 H2 u e2 t2 i2 s2 => ?_⟩
    subst s2
    cases i2
    have o2 := WalkAt.still _ _ _ _ _ o (t1.trans t2)
    obtain ⟨⟨c, ⟨_, _, dx, hp⟩, _⟩, _, _⟩ := id o2
    refine ⟨p, _, dx, _, _, rfl, hp, T.cl_Walk, T.na_Walk_own_weights, fWalk_weights _ _ _, G2, H0, t2.ok, (sl.mono t1).mono t2, fun G3 H3 u3 e3 t3 i3 s3 => ?_⟩
    subst s3
    cases i3
    have t123 := (t1.trans t2).trans t3
    obtain ⟨⟨c, ob, dc⟩, oa, ⟨w, hw, owt⟩, hab'⟩ := WalkAt.still _ _ _ _ _ o2 t3
    have pb := ob_ne_ol ob owt
    obtain ⟨h0, g0, vs, hv, dv⟩ := owt
    obtain ⟨r, rfl, hw'⟩ := hS d w s1 hw
    have dr : Da X.K G3 v (rowD r) := (i1.da rfl).mono (t2.trans t3).gg
    refine ⟨b, vs, (i : Int), i, rfl, rfl, hv, ?_, ?_⟩
    · have := hin w hw
      have : vs.length = w.length := by rw [dv.1, List.length_map]
      unfold ixN
      rw [if_pos (by omega), if_pos (by omega)]; rfl
    · refine ⟨ρ, _, Φ, hr, G0, H0, G3, (t.trans t123).mut h0 g0, sl.known hk t123.gg, ⟨⟨c, ob.upd' pb, dc⟩, oa.upd' hab', ⟨_, hw', h0, g0, _, upd_same, ?_⟩, hab'⟩, k⟩
      rw [List.map_set]
      exact dv.set i dr⟩
/-- what is walked, read under Ω -/
def tDIW (K : PySem.W.Frag) (ρ : Env) (Ω : HW) (ds : List D) : TI := fun σ H R => ∃ G H0, Le G H ∧ Sl K H0 G H σ ρ ∧ Ω H0 G H ∧ ∀ G' H' J, Tr G H G' H' → Wk K G' J ds → R J H'
theorem xiw_list {tg e : Expr} {ds : List D} (h : XEW X e ρ Ω (fun z => z = .lst ds)) : PI X tg e (tDIW X.K ρ Ω ds) :=
  pi_imp (pi_list h) fun σ H R ⟨G, H0, l, sl, o, k⟩ => ⟨G, H0, l, sl, o, fun G' H' v d t i s => by
    subst s
    cases i with
    | @lst p vs _ a b c => exact ⟨p, rfl, ⟨vs, SqL.of (t.ok.at_ _ _ a pot_lst)⟩, k G' H' _ t (wk_list a ⟨b, c⟩)⟩⟩
theorem xw_forW {tg iter : Expr} {body : List Stmt} {τ : D → Env → Env → Prop} {L : List Nat} {ds : List D} (hst : Still Ω) (hp : PassesOwn (model X.prog X.w) X.A X.env X.xe) (hc : X.calm = true) (hi : PI X tg iter (tDIW X.K ρ Ω ds)) (hg : XG X tg τ L) (I : Nat → HW) (hI : ∀ i, Still (I i)) (ρl : Nat → Env) (h0 : ∀ H0 G H, Ω H0 G H → I 0 H0 G H) (e0 : (ρl 0).length = ρ.length ∧ ∀ (i : Nat) d, (ρl 0)[i]? = some (some d) → ρ[i]? = some (some d))
    (hs : ∀ i d, ds[i]? = some d → ∃ ρ2, τ d (ρl i) ρ2 ∧ XWs X body ρ2 (I i) { nx := fun z H0 G H => ((ρl (i + 1)).length = z.length ∧ ∀ (j : Nat) d, (ρl (i + 1))[j]? = some (some d) → z[j]? = some (some d)) ∧ I (i + 1) H0 G H, bk := fun _ _ _ _ => False, rt := Φ.rt }) (hd : ∀ H0 G H, I ds.length H0 G H → Φ.nx (ρl ds.length) H0 G H)
    (hf : ∀ x, foldedSetIterable iter X.env x = pure x := by intro _; rfl) : XW X (.For tg iter body [] pos) ρ Ω Φ :=
  ps_imp (ps_for hp hc hi hg pss_anyW hf) fun Dn σ H ⟨G0, H0, G, t, sl, o, k1, k2, k3⟩ => ⟨G, H0, t.ok, sl, o, fun G' H' J t' wk => by
    refine ⟨fun i m σ1 H1 => m = ds.length - i ∧ i ≤ ds.length ∧ ∃ G1, I i H0 G1 H1 ∧ Tr G0 H0 G1 H1 ∧ Ex G' G1 ∧ Sl X.K H0 G1 H1 σ1 (ρl i), ⟨ds.length, rfl, Nat.zero_le _, G', h0 _ _ _ (hst _ _ _ _ _ o t'), t.trans t', Ex.refl _, (sl.mono t').weak e0.1 e0.2⟩, ?_⟩
    rintro i m σ1 H1 ⟨rfl, hi, G1, hI1, t1, ex1, sl1⟩
    obtain ⟨go, st⟩ := wk G1 H1 i ex1 t1.ok
    by_cases hlt : i < ds.length
    · obtain ⟨g1, g2⟩ := go ds[i] (by simp [hlt])
      refine .inr ⟨g1, fun σ2 H2 => i < ds.length ∧ ∃ G2, I (i + 1) H0 G2 H2 ∧ Tr G0 H0 G2 H2 ∧ Ex G' G2 ∧ Sl X.K H0 G2 H2 σ2 (ρl (i + 1)), fun σ2 H2 ⟨a, b⟩ => ⟨ds.length - (i + 1), by omega, rfl, by omega, b⟩, fun x H2 y => ?_⟩
      obtain ⟨G2, t2, da⟩ := g2 x H2 y
      obtain ⟨ρ2, hτ, hb⟩ := hs i ds[i] (by simp [hlt])
      refine ⟨G2, H0, ρl i, _, ρ2, t2.ok, sl1.mono t2, da, hτ, fun σ3 sl3 _ => ?_⟩
      have t3 := t1.trans t2
      exact ⟨ρ2, I i, _, hb, G2, H0, G2, t3.rebase, sl3, hI i _ _ _ _ _ hI1 t2, fun G4 H4 σ4 ρ4 t4 sl4 ⟨⟨l4, w4⟩, o4⟩ => ⟨hlt, G4, o4, t3.join t4, (ex1.trans t2.gg).trans t4.gg, sl4.weak l4 w4⟩, fun _ _ _ _ _ _ z => z.elim, fun G4 H4 v d t4 i4 s4 => k3 G4 H4 v d (t3.join t4) i4 s4⟩
    · have e : i = ds.length := by omega
      subst e
      exact .inl ⟨st (Nat.le_refl _), k1 G1 H1 σ1 (ρl ds.length) t1 sl1 (hd _ _ _ hI1)⟩⟩
/-- x, y = a, b, both read under Ω -/
theorem xws_parW (i j : Nat) {x y : Str} {e1 e2 : Expr} {px py pt : Pos} {kt k2 pt2} {d1 d2 : D} (hst : Still Ω) (hN : X.N.Nodup) (ha : XEW X e1 ρ Ω (fun z => z = d1)) (hb : XEW X e2 ρ Ω (fun z => z = d2)) (hr : XWs X rest ((ρ.set i (some d1)).set j (some d2)) Ω Φ) (n1 : noOl d1 = true := by rfl) (n2 : noOl d2 = true := by rfl) (hc : X.calm = true := by rfl)
    (hi : X.N[i]? = some x := by rfl) (hj : X.N[j]? = some y := by rfl) (hij : i ≠ j := by decide) (hx : X.env.scope.names.lookup x = some .local := by rfl) (hy : X.env.scope.names.lookup y = some .local := by rfl)
    (he : starEach [e1, e2] X.env = (false, eval e1 X.env) :: starEach [e2] X.env := by rfl) (he2 : starEach [e2] X.env = (false, eval e2 X.env) :: starEach [] X.env := by rfl)
    (hw : swappedStores [.Tuple [.Name x px, .Name y py] kt pt] (.Tuple [e1, e2] k2 pt2) X.env = pure (some [x, y]) := by rfl) (hs : swapsWithSole [.Tuple [.Name x px, .Name y py] kt pt] (.Tuple [e1, e2] k2 pt2) pos.line X.env = pure false := by rfl) :
    XWs X (.Assign [.Tuple [.Name x px, .Name y py] kt pt] (.Tuple [e1, e2] k2 pt2) pos :: rest) ρ Ω Φ :=
  xws_seq (ps_imp (ps_par hc hN hi hj hij hx hy (xaw_cons hst (S := fun z => z = [d1, d2]) ha (xaw_cons hst (S := fun z => z = [d2]) hb xaw_nil (fun _ _ a b => by rw [a, b]) he2) (fun _ _ a b => by rw [a, b]) he) hw hs) fun Dn σ H ⟨G0, H0, G, t, sl, o, k1, _⟩ => ⟨G, H0, t.ok, sl, o, fun G' H' vs ds t' ii s => by
    subst s
    obtain ⟨v, u, rfl, i1, i2⟩ := isl2 ii
    exact ⟨v, u, rfl, k1 G' H' _ _ (t.trans t') (((sl.mono t').set (i1.da n1)).set (i2.da n2)) ⟨rfl, hst _ _ _ _ _ o t'⟩⟩⟩) hr
end
end NL

/-! text P15 -/
set_option Elab.async false
set_option linter.all false
set_option maxRecDepth 100000
set_option maxHeartbeats 4000000
/-! Walk.take: the def. -/
namespace NL
open PySem PySem.Spec L2
open PyProof.Rows (envOfC)
section
variable {X : Cx} {ρ : Env} {pos : Pos} {W : Mat → Prop} {m : Mat} {left : List Nat} {p a b : Addr} {P : Program} {Ω : HW}
theorem Da.nats_minus {K : PySem.W.Frag} {G : Hp} {v : V} {l : List Nat} (h : Da K G v (natsD l)) (hpi : ∃ C dx fs, G p = some (.ins C dx fs)) (ha : ∃ q vs, G a = some (.lst (.ref q :: vs))) : Da K (less2 G p a) v (natsD l) := by
  cases h with
  | @lst q vs _ e1 e2 e3 =>
    refine .lst (vs := vs) ?_ e2 fun i u d hu hd => ?_
    · rw [less2_ne]
      · exact e1
      · intro z; subst z
        obtain ⟨C, dx, fs, hh⟩ := hpi
        rw [e1] at hh; cases hh
      · intro z; subst z
        obtain ⟨q2, us, hh⟩ := ha
        rw [e1] at hh; cases hh
        cases l with
        | nil => simp at e2
        | cons n l =>
          have := e3 0 _ _ rfl rfl
          cases this
    · have d2 := e3 i u d hu hd
      rw [List.getElem?_map] at hd
      obtain ⟨x, _, rfl⟩ := Option.map_eq_some_iff.mp hd
      cases d2
      exact .int _
/-- a value reckoned with the Walk's state known: a list of places -/
theorem xew_snapN {e : Expr} {l : List Nat} (i : Nat) (hi : ρ[i]? = some (some (.adr p))) (hk : knownE ρ = true) (hm0 : m ≠ []) (hΩ : ∀ H0 G H, Ω H0 G H → WalkAt X.K p a b W m left H0 G H) (h : XV X e (ρ.set i (some (walkD m left))) (natsD l)) : XEW X e ρ Ω (fun z => z = natsD l) := by
  refine pe_imp h fun σ H Q ⟨G, H0, le, sl, o, k⟩ => ?_
  have o1 := hΩ _ _ _ o
  obtain ⟨dx, c, vs, gp, ga, pa, hp, hv, le2, ex2, dw⟩ := walk_known le o1
  have sl2 : Sl X.K H0 _ H σ ρ := sl.known hk ex2
  obtain ⟨u, hu, iu⟩ := sl2.at_ i _ hi
  have eu : u = .ref p := by cases iu; rfl
  subst eu
  have sl3 := sl2.set (i := i) dw
  have eσ : σ.set i (some (.ref p)) = σ := by
    apply List.ext_getElem?
    intro j
    rw [List.getElem?_set]
    by_cases e : i = j
    · subst e
      rw [if_pos rfl, if_pos (List.getElem?_eq_some_iff.mp hu).1, hu]
    · rw [if_neg e]
  rw [eσ] at sl3
  refine ⟨_, H0, le2, sl3, fun G3 H3 v d t3 i3 s3 => ?_⟩
  subst s3
  have tm := Tr.minus gp ga t3 ins_not_pot pot_lst
  refine k _ H3 v _ tm (Is.of (Da.nats_minus (show Da X.K G3 v (natsD l) from i3) ⟨_, _, _, t3.gg.go p _ (by rw [upd_ne pa, upd_same])⟩ ?_)) rfl
  obtain ⟨_, ⟨_, _, vs', hv', dv⟩, _⟩ := o1
  rw [hv] at hv'; cases hv'
  cases m with
  | nil => exact absurd rfl hm0
  | cons r m =>
    obtain ⟨y, ys, rfl, dy, _⟩ := DaL.cases_cons dv
    cases dy with
    | @lst q ls _ f1 f2 f3 => exact ⟨q, ys, t3.gg.go a _ upd_same⟩
end
variable {P : Program} {w : World} {K : PySem.W.Frag} {mg : Str → Option Value} {base : Heap}
theorem nodup_len : ∀ (n : Nat) (l : List Nat), l.Nodup → (∀ x ∈ l, x < n) → l.length ≤ n
  | 0, l, _, h => by
    cases l with
    | nil => exact Nat.le_refl _
    | cons x l => exact absurd (h x (List.mem_cons_self ..)) (Nat.not_lt_zero _)
  | n + 1, l, nd, h => by
    by_cases hn : n ∈ l
    · have h1 := nodup_len n (l.erase n) (nd.erase n) fun x hx => by
        have a := h x (List.mem_of_mem_erase hx)
        have b : x ≠ n := fun z => by subst z; exact nd.not_mem_erase hx
        omega
      rw [List.length_erase_of_mem hn] at h1
      omega
    · exact Nat.le_succ_of_le (nodup_len n l nd fun x hx => by
        have a := h x hx
        have b : x ≠ n := fun z => by subst z; exact hn hx
        omega)
def takeRow (m : Mat) (p j : Nat) : List GQ := lessRow (m.getD j []) (mGet m j p / mGet m p p) (m.getD p [])
/-- the rows of S taken -/
def takeS (m : Mat) (p : Nat) (S : List Nat) : Mat := (List.range m.length).map fun j => if j ∈ S then takeRow m p j else m.getD j []
theorem takeS_nil (m : Mat) (p : Nat) : takeS m p [] = m := by
  unfold takeS
  apply List.ext_getElem?
  intro i
  rw [List.getElem?_map]
  by_cases h : i < m.length
  · rw [List.getElem?_range h, List.getElem?_eq_getElem h]
    show some (if i ∈ [] then _ else m.getD i []) = _
    rw [if_neg (by simp), List.getD_eq_getElem?_getD, List.getElem?_eq_getElem h]; rfl
  · rw [List.getElem?_eq_none (by simpa using h), List.getElem?_eq_none (by omega)]; rfl
theorem takeS_snoc {m : Mat} {p j : Nat} {S : List Nat} (hj : j < m.length) : (takeS m p S).set j (takeRow m p j) = takeS m p (S ++ [j]) := by
  unfold takeS
  rw [map_range_set hj]
  refine List.map_congr_left fun i _ => ?_
  by_cases e : i = j
  · subst e; simp
  · simp [e]
theorem takeS_at {m : Mat} {p i : Nat} {S : List Nat} (hi : i < m.length) : (takeS m p S).getD i [] = if i ∈ S then takeRow m p i else m.getD i [] := by
  unfold takeS
  rw [List.getD_eq_getElem?_getD, List.getElem?_map, List.getElem?_range hi]; rfl
theorem takeS_len (m : Mat) (p : Nat) (S : List Nat) : (takeS m p S).length = m.length := by simp [takeS]
theorem sub_zero_row : ∀ (x y : List GQ), x.length = y.length → lessRow x (GQ.ofInt 0) y = x
  | [], [], _ => rfl
  | [], _ :: _, h => by simp at h
  | _ :: _, [], h => by simp at h
  | u :: x, v :: y, h => by
    have ih := sub_zero_row x y (by simpa using h)
    unfold lessRow at ih ⊢
    simp only [List.zipWith_cons_cons]
    rw [ih]
    congr 1
    have z1 : (GQ.ofInt 0).re = 0 := rfl
    have z2 : (GQ.ofInt 0).im = 0 := rfl
    exact GQ.ext' (by rw [GQ.sub_re, GQ.mul_re]; grind) (by rw [GQ.sub_im, GQ.mul_im]; grind)
theorem lessRow_bd {i j k : Nat} {a b : List GQ} {q : GQ} (ha : RBd i a) (hb : RBd j b) (hq : Bd k q) : RBd (i + (k + j + 1) + 1) (lessRow a q b) := rbd_zip (fun x y bx by_ => bx.sub (hq.mul by_)) ha hb
/-- the weights while some rows are taken -/
def WS (n B : Nat) (S : List Nat) : Mat → Prop := fun w => Sq n w ∧ ∀ j r, w[j]? = some r → RBd (if j ∈ S then 5 * B + 3 else B) r
structure TakeOk (m : Mat) (left : List Nat) (n B p : Nat) : Prop where
  sq : Sq n m
  bm : MBd B m
  lt : ∀ j ∈ left, j < n
  nd : left.Nodup
  mem : p ∈ left
  ne : mGet m p p ≠ GQ.ofInt 0
  b0 : 0 < B
  bB : B ≤ 6000000
  n6 : n ≤ 100
def spTake (K : PySem.W.Frag) : Sp := fun vs H Q _ => ∃ (G H0 : Hp) (p a b : Addr) (m : Mat) (left : List Nat) (n B j : Nat), vs = [.ref p, .int (j : Int)] ∧ Tr G H0 G H ∧ WalkAt K p a b (WB n B) m left H0 G H ∧ TakeOk m left n B j ∧
  ∀ G' H', Tr G H0 G' H' → WalkAt K p a b (WB n (5 * B + 3)) (takeS m j (left.filter (· ≠ j))) (left.filter (· ≠ j)) H0 G' H' → Q .non H'
theorem quotR_bd {m : Mat} {left : List Nat} {n B p : Nat} (o : TakeOk m left n B p) {j : Nat} (hj : j < n) : Bd (3 * B + 1) ((quotR m left p).getD j (GQ.ofInt 0)) := by
  have hp := o.lt p o.mem
  unfold quotR
  rw [List.getD_eq_getElem?_getD, List.getElem?_map, List.getElem?_range (by rw [o.sq.rows]; exact hj)]
  show Bd _ (if j ∈ left then _ else _)
  split
  · exact (Bd.div (mget_bd o.sq o.bm hj hp) (mget_bd o.sq o.bm hp hp) o.ne).mono (by omega)
  · exact bd_zero (by omega)
theorem quotR_at {m : Mat} {left : List Nat} {p j : Nat} (hj : j ∈ left) (hl : j < m.length) : (quotR m left p).getD j (GQ.ofInt 0) = mGet m j p / mGet m p p := by
  unfold quotR
  rw [List.getD_eq_getElem?_getD, List.getElem?_map, List.getElem?_range hl]
  show (if j ∈ left then _ else _) = _
  rw [if_pos hj]
theorem natsD_filter (left : List Nat) (p : Nat) : ((left.map fun (n : Nat) => D.int (n : Int)).filter (fun d => !decide (d = .int (p : Int)))).map (fun d => d) = (left.filter (· ≠ p)).map fun (n : Nat) => D.int (n : Int) := by
  rw [List.map_id', List.filter_map]
  congr 1
  refine List.filter_congr fun x _ => ?_
  simp only [Function.comp_def]
  by_cases e : x = p
  · subst e; simp
  · have : ¬ (D.int (x : Int) = D.int (p : Int)) := fun z => e (by have := D.int.inj z; omega)
    simp [e, this]
theorem ok_Walk_take (T : Tx P K mg) : ∃ fd, FnOk P w K mg base CX0 41 (d_Walk_take.ad K) fd ["self", "place"] (spTake K) ∧ Binds K fd ["self", "place"] [] := by
  obtain ⟨fd, F⟩ := T.F_Walk_take
  refine ⟨fd, F.ok sc_Walk_take (fun vs H Q E ⟨_, _, _, _, _, _, _, _, _, _, e, _⟩ => by rw [e]; rfl) (fun cdv A outer s H vs Q E hr ⟨G, H0, p, a, b, m, left, n, B, pl, e, t, o, ok, k⟩ => ?_), F.bindsN (fun _ _ _ _ _ _ us hl => match us, hl with | [_, _], _ => rfl)⟩
  subst e
  have hnd := sc_Walk_take.nd
  have hm := ok.sq.rows
  have hp := ok.lt pl ok.mem
  have hm0 : m ≠ [] := fun z => by rw [z] at hm; simp at hm; omega
  have qne : quotR m left pl ≠ [] := fun z => by
    have h1 : (quotR m left pl).length = m.length := by simp [quotR]
    rw [z] at h1
    have h2 : (0 : Nat) = m.length := h1
    omega
  have bB := ok.bB
  have b0 := ok.b0
  let L := left.filter (· ≠ pl)
  have hLm : ∀ j ∈ L, j ∈ left ∧ j ≠ pl := fun j hj => by
    have := List.mem_filter.mp hj
    exact ⟨this.1, by simpa using this.2⟩
  have hLn : L.Nodup := ok.nd.filter _
  have key : XWs (cxD P w K mg base n_Walk_take "Walk.take" (defScope s_Walk_take) (d_Walk_take.ad K) cdv A outer s H E) (defBody s_Walk_take) [some (.adr p), some (.int (pl : Int)), none, none, none] (WalkAt K p a b (WB n B) m left) { nx := fun _ => WalkAt K p a b (WB n (5 * B + 3)) (takeS m pl L) L } := by
    refine xws_parW 2 3 (d1 := rowD (quotR m left pl)) (d2 := rowD (m.getD pl [])) WalkAt.still hnd (xew_column T (fun _ _ _ h => h) (ok_column T) (hr.mono (by decide)) (xv_var 0) (xv_var 1) rfl ⟨m, left, n, pl, B, rfl, ok.sq, hp, ok.n6, ok.bm, ok.b0, by omega, ok.ne, rfl⟩ qne hm0) (xew_rowV (n := n) T (fun _ _ _ h => h) (xv_var 0) (xv_var 1) (by omega)) ?_
    -- own_left
    refine pss_imp (pss_cons (ps_fld (xv_var 0 : XV _ _ [some (.adr p), some (.int (pl : Int)), some (rowD (quotR m left pl)), some (rowD (m.getD pl [])), none] (.adr p)) (xew_snapN (p := p) (a := a) (b := b) (W := WB n B) (m := m) (left := left) (l := L) (Ω := WalkAt K p a b (WB n B) m left) (ρ := [some (.adr p), some (.int (pl : Int)), some (rowD (quotR m left pl)), some (rowD (m.getD pl [])), none]) 0 rfl rfl hm0 (fun _ _ _ h => h) (xv_to (xv_of_xf (xf_fm (own := [("at", 4)]) (τ := tName 4) (ds := left.map fun (n : Nat) => D.int (n : Int)) (fun d => !decide (d = .int (pl : Int))) (fun d => d) rfl hnd (xi_list (xv_wl T (xv_var 0))) (blk_ok rfl (by rfl)) (fun _ _ _ _ _ => xg_name 4 hnd) (?len) ?el)) (congrArg D.lst (natsD_filter left pl)))) (by rfl)) pss_anyW) ?_
    case len =>
      rw [List.length_map]
      have h1 := List.nodup_range (n := n)
      have : left.length ≤ n := by
        exact nodup_len n left ok.nd ok.lt
      have := ok.n6
      omega
    case el =>
      intro d hd
      obtain ⟨j, hj, rfl⟩ := List.mem_map.mp hd
      refine ⟨_, rfl, fun _ _ _ _ _ => xt_to (xt_ne (xv_var 4) (xv_var 1)) ?_, fun _ => ⟨rfl, fun _ _ _ _ _ => xv_var 4⟩⟩
      by_cases e : (j : Int) = (pl : Int)
      · rw [e]; simp
      · have : ¬ (D.int (j : Int) = D.int (pl : Int)) := fun z => e (D.int.inj z)
        simp [e, this]
    rintro Dn σ H ⟨G0, H0, G, t, sl, o, k⟩
    refine ⟨G, H0, t.ok, sl, o, fun G1 H1 v d t1 i1 s1 => ?_⟩
    subst s1
    refine ⟨G1, H0, t1.ok, sl.mono t1, fun G2 H2 u e t2 i2 s2 => ?_⟩
    subst s2
    cases i2
    have t12 := t1.trans t2
    obtain ⟨⟨c, ob, dc⟩, oa, ⟨wt, hw, ow⟩, hab⟩ := WalkAt.still _ _ _ _ _ o t12
    have pa := ob_ne_ol ob oa
    have pb := ob_ne_ol ob ow
    obtain ⟨h0, g0, dx, hpp⟩ := ob
    refine ⟨p, _, dx, _, rfl, hpp, T.cl_Walk, T.na_Walk_own_left, by unfold fWalk; exact Nat.lt_of_le_of_lt (putF_le _ _ _) (Nat.lt_of_le_of_lt (Nat.succ_le_succ (putF_le _ _ _)) (Nat.lt_of_le_of_lt (Nat.succ_le_succ (Nat.succ_le_succ (putF_le _ _ _))) (by decide))), ?_⟩
    have ef : putF "own_left" v (fWalk (.ref a) (.ref b) c) = fWalk (.ref a) (.ref b) v := by unfold fWalk; exact putF_putF _ _ _ _
    rw [ef]
    refine ⟨[some (.adr p), some (.int (pl : Int)), some (rowD (quotR m left pl)), some (rowD (m.getD pl [])), none], WalkAt K p a b (WB n B) m L, { nx := fun _ => WalkAt K p a b (WB n (5 * B + 3)) (takeS m pl L) L }, ?_, G0, H0, G2, (t.trans t12).mut h0 g0, sl.known rfl t12.gg, ⟨⟨v, ⟨h0, g0, dx, upd_same⟩, (i1.da rfl).mono t2.gg⟩, oa.upd' (Ne.symm pa), ⟨wt, hw, ow.upd' (Ne.symm pb)⟩, hab⟩, k⟩
    -- the loop
    refine xws_one (xw_forW (L := [4]) WalkAt.still PassesOwn.never rfl (xiw_list (xew_left T (fun _ _ _ h => h) (xv_var 0))) (xg_name 4 hnd) (fun i => WalkAt K p a b (WS n B (L.take i)) (takeS m pl (L.take i)) L) (fun _ => WalkAt.still) (fun _ => [some (.adr p), some (.int (pl : Int)), some (rowD (quotR m left pl)), some (rowD (m.getD pl [])), none]) ?_ (fits_of (by simp [fitsB])) ?_ ?_)
    · rintro H0 G H ⟨x1, x2, ⟨wt, ⟨y1, y2⟩, y3⟩, x4⟩
      refine ⟨x1, ?_, ⟨wt, ⟨y1, fun j r hj => ?_⟩, y3⟩, x4⟩
      · rw [List.take_zero, takeS_nil]; exact x2
      · rw [List.take_zero, if_neg (by simp)]
        exact y2 r (List.mem_of_getElem? hj)
    · intro i d hd
      obtain ⟨j, hj, rfl⟩ := nats_at hd
      have hjm := hLm j (List.mem_of_getElem? hj)
      have hjn := ok.lt j hjm.1
      have hjS : j ∉ L.take i := fun hmem => by
        obtain ⟨i2, h2⟩ := List.getElem?_of_mem hmem
        rw [List.getElem?_take] at h2
        split at h2
        · have := nodup_at hLn h2 hj
          omega
        · cases h2
      have hpS : pl ∉ L.take i := fun hmem => (hLm pl (List.mem_of_mem_take hmem)).2 rfl
      have eS : L.take (i + 1) = L.take i ++ [j] := by rw [List.take_add_one, hj]; rfl
      refine ⟨_, rfl, ?_⟩
      have ql : (quotR m left pl).length = n := by simp [quotR, hm]
      have qb := quotR_bd ok hjn
      have qe := quotR_at (p := pl) hjm.1 (by omega : j < m.length)
      have rowj : (takeS m pl (L.take i)).getD j [] = m.getD j [] := by rw [takeS_at (by omega), if_neg hjS]
      have bj : RBd B (m.getD j []) := ok.bm _ (getD_mem (by omega))
      have bp : RBd B (m.getD pl []) := ok.bm _ (getD_mem (by omega))
      refine xws_one (xw_if rfl WalkAt.still (xt_not (xt_val (xv_prop (ok_is_nought T) (hr.mono (by decide)) (xv_ixL (xv_var 2) (xv_var 4) rfl (rowD_at (r := quotR m left pl) (by omega))) insNum rfl ⟨_, rfl, rfl⟩))) (fun z => ?_) fun z => ?_)
      · refine xws_setV (i := j) (r := takeRow m pl j) T rfl (xv_var 0) (xv_var 4) (xew_call (ok_less_times T) (hr.mono (by decide)) (xaw_cons WalkAt.still (S := fun z => z = [rowD (m.getD j []), .num ((quotR m left pl).getD j (GQ.ofInt 0)), rowD (m.getD pl [])]) (xew_rowV (n := n) T (fun _ _ _ h => h) (xv_var 0) (xv_var 4) (by rw [takeS_len]; omega)) (xaw_cons WalkAt.still (S := fun z => z = [.num ((quotR m left pl).getD j (GQ.ofInt 0)), rowD (m.getD pl [])]) (xew_of (xv_ixL (xv_var 2) (xv_var 4) rfl (rowD_at (r := quotR m left pl) (by omega)))) (xaw_cons WalkAt.still (S := fun z => z = [rowD (m.getD pl [])]) (xew_of (xv_var 3)) xaw_nil (fun _ _ a b => by rw [a, b])) (fun _ _ a b => by rw [a, b])) (fun _ _ a b => by rw [a, b, rowj])) (fun ds e => ?_)) (by rw [takeS_len]; omega) ?_
        · subst e
          refine ⟨rfl, _, ⟨_, _, _, 3 * B + 1, rfl, by rw [row_len ok.sq hjn]; exact ok.n6, fun x hx => (bj x hx).mono (by omega), fun x hx => (bp x hx).mono (by omega), qb, by omega, rfl⟩, fun d e => ?_⟩
          rw [e, qe]; rfl
        · rw [takeS_snoc (by omega), ← eS]
          refine xws_setW' (i := j) (W' := WS n B (L.take (i + 1))) (S := fun z => ∃ w1 w2, WS n B (L.take i) w1 ∧ WS n B (L.take i) w2 ∧ z = rowD (lessRow (w1.getD j []) ((quotR m left pl).getD j (GQ.ofInt 0)) (w2.getD pl []))) T rfl (xv_var 0) (xv_var 4) (xew_call (ok_less_times T) (hr.mono (by decide)) (xaw_cons WalkAt.still (S := fun z => ∃ w1 w2, WS n B (L.take i) w1 ∧ WS n B (L.take i) w2 ∧ z = [rowD (w1.getD j []), .num ((quotR m left pl).getD j (GQ.ofInt 0)), rowD (w2.getD pl [])]) (xew_rowW (i := j) T (fun _ _ _ h => h) (xv_var 0) (xv_var 4) (fun w hw => by rw [hw.1.rows]; exact hjn)) (xaw_cons WalkAt.still (S := fun z => ∃ w2, WS n B (L.take i) w2 ∧ z = [.num ((quotR m left pl).getD j (GQ.ofInt 0)), rowD (w2.getD pl [])]) (xew_of (xv_ixL (xv_var 2) (xv_var 4) rfl (rowD_at (r := quotR m left pl) (by omega)))) (xaw_cons WalkAt.still (S := fun z => ∃ w2, WS n B (L.take i) w2 ∧ z = [rowD (w2.getD pl [])]) (xew_rowW (i := pl) T (fun _ _ _ h => h) (xv_var 0) (xv_var 1) (fun w hw => by rw [hw.1.rows]; exact hp)) xaw_nil (fun _ _ ⟨w2, h2, a⟩ b => ⟨w2, h2, by rw [a, b]⟩)) (fun _ _ a ⟨w2, h2, b⟩ => ⟨w2, h2, by rw [a, b]⟩)) (fun _ _ ⟨w1, h1, a⟩ ⟨w2, h2, b⟩ => ⟨w1, w2, h1, h2, by rw [a, b]⟩)) (fun ds ⟨w1, w2, h1, h2, e⟩ => ?_)) (fun w hw => by rw [hw.1.rows]; exact hjn) (fun z w ⟨w1, w2, h1, h2, e⟩ hw => ⟨_, e, ?_⟩) (xws_nil fun H0 G H h => ⟨fits_of (by simp [fitsB]), h⟩)
          · subst e
            have b1 : RBd B (w1.getD j []) := by
              have := h1.2 j _ (by rw [List.getElem?_eq_getElem (by rw [h1.1.rows]; exact hjn)])
              rw [if_neg hjS] at this
              rw [List.getD_eq_getElem?_getD, List.getElem?_eq_getElem (by rw [h1.1.rows]; exact hjn)]
              exact this
            have b2 : RBd B (w2.getD pl []) := by
              have := h2.2 pl _ (by rw [List.getElem?_eq_getElem (by rw [h2.1.rows]; exact hp)])
              rw [if_neg hpS] at this
              rw [List.getD_eq_getElem?_getD, List.getElem?_eq_getElem (by rw [h2.1.rows]; exact hp)]
              exact this
            exact ⟨rfl, _, ⟨_, _, _, 3 * B + 1, rfl, by rw [row_len h1.1 hjn]; exact ok.n6, fun x hx => (b1 x hx).mono (by omega), fun x hx => (b2 x hx).mono (by omega), qb, by omega, rfl⟩, fun d e => ⟨w1, w2, h1, h2, e⟩⟩
          · have b1 : RBd B (w1.getD j []) := by
              have := h1.2 j _ (by rw [List.getElem?_eq_getElem (by rw [h1.1.rows]; exact hjn)])
              rw [if_neg hjS] at this
              rw [List.getD_eq_getElem?_getD, List.getElem?_eq_getElem (by rw [h1.1.rows]; exact hjn)]
              exact this
            have b2 : RBd B (w2.getD pl []) := by
              have := h2.2 pl _ (by rw [List.getElem?_eq_getElem (by rw [h2.1.rows]; exact hp)])
              rw [if_neg hpS] at this
              rw [List.getD_eq_getElem?_getD, List.getElem?_eq_getElem (by rw [h2.1.rows]; exact hp)]
              exact this
            have bl := lessRow_bd b1 b2 qb
            have ll : (lessRow (w1.getD j []) ((quotR m left pl).getD j (GQ.ofInt 0)) (w2.getD pl [])).length = n := by
              unfold lessRow
              rw [List.length_zipWith, row_len h1.1 hjn, row_len h2.1 hp, Nat.min_self]
            refine ⟨⟨by simp [hw.1.rows], fun r hr' => ?_⟩, fun i2 r hr' => ?_⟩
            · rcases List.mem_or_eq_of_mem_set hr' with h | h
              · exact hw.1.cols r h
              · rw [h]; exact ll
            · rw [List.getElem?_set] at hr'
              rw [eS]
              by_cases e2 : j = i2
              · subst e2
                rw [if_pos rfl, if_pos (by rw [hw.1.rows]; exact hjn)] at hr'
                cases hr'
                rw [if_pos (by simp)]
                exact fun x hx => (bl x hx).mono (by omega)
              · rw [if_neg e2] at hr'
                have := hw.2 i2 r hr'
                have e3 : (i2 ∈ L.take i ++ [j]) ↔ i2 ∈ L.take i := by
                  simp
                  intro z; exact absurd z.symm e2
                by_cases h5 : i2 ∈ L.take i
                · rw [if_pos (e3.mpr h5)]; rw [if_pos h5] at this; exact this
                · rw [if_neg (fun z => h5 (e3.mp z))]; rw [if_neg h5] at this; exact this
      · -- nothing to take
        have q0 : mGet m j pl / mGet m pl pl = GQ.ofInt 0 := by
          have : decide ((quotR m left pl).getD j (GQ.ofInt 0) = GQ.ofInt 0) = true := by simpa using z
          rw [← qe]; exact of_decide_eq_true this
        have e1 : takeS m pl (L.take (i + 1)) = takeS m pl (L.take i) := by
          unfold takeS
          refine List.map_congr_left fun j2 _ => ?_
          rw [eS]
          by_cases e2 : j2 = j
          · subst e2
            rw [if_pos (by simp), if_neg hjS]
            unfold takeRow
            rw [q0]
            exact sub_zero_row _ _ (by rw [row_len ok.sq hjn, row_len ok.sq hp])
          · simp [e2]
        refine xws_nil fun H0 G H ⟨x1, x2, ⟨wt, ⟨y1, y2⟩, y3⟩, x4⟩ => ⟨fits_of (by simp [fitsB]), x1, ?_, ⟨wt, ⟨y1, fun i2 r hr' x hx => ?_⟩, y3⟩, x4⟩
        · rw [e1]; exact x2
        · have := y2 i2 r hr' x hx
          refine this.mono ?_
          rw [eS]
          by_cases h5 : i2 ∈ L.take i
          · rw [if_pos h5, if_pos (by simp [h5])]; exact Nat.le_refl _
          · rw [if_neg h5]
            split <;> omega
    · rintro H0 G H ⟨x1, x2, ⟨wt, ⟨y1, y2⟩, y3⟩, x4⟩
      rw [List.length_map, List.take_length] at *
      refine ⟨x1, x2, ⟨wt, ⟨y1, fun r hr' x hx => ?_⟩, y3⟩, x4⟩
      obtain ⟨i2, h2⟩ := List.getElem?_of_mem hr'
      refine (y2 i2 r h2 x hx).mono ?_
      split <;> omega
  refine ⟨_, key.nox, G, H0, G, t, ?_, o, fun G' H' σ' ρ' t' sl' hw => k G' H' t' hw, fun _ _ _ _ _ _ z => z.elim, fun _ _ _ _ _ _ z => z.elim⟩
  refine ⟨rfl, fun i d e => ?_, fun i j d e q n a b c c' => ?_⟩
  · match i, e with
    | 0, e => cases e; exact ⟨.ref p, rfl, Is.of (.adr p)⟩
    | 1, e => cases e; exact ⟨.int (pl : Int), rfl, Is.of (.int _)⟩
    | 2, e => cases e
    | 3, e => cases e
    | 4, e => cases e
    | i + 5, e => simp at e
  · match i, a with
    | 0, a => cases a; cases c
    | 1, a => cases a; cases c
    | 2, a => cases a
    | 3, a => cases a
    | 4, a => cases a
    | i + 5, a => simp at a
end NL

/-! text P16 -/
set_option Elab.async false
set_option linter.all false
set_option maxRecDepth 100000
set_option maxHeartbeats 4000000
/-! squares_of, is_never_below_of. -/
namespace NL
open PySem PySem.Spec L2
open PyProof.Rows (envOfC)
/-! ### tests under Ω -/
section
variable {X : Cx} {ρ : Env} {pos : Pos} {Φ : OutW} {rest : List Stmt} {Ω : HW}
def tDTW (K : PySem.W.Frag) (ρ : Env) (Ω : HW) (S : Bool → Prop) : TT := fun σ H Q => ∃ G H0, Le G H ∧ Sl K H0 G H σ ρ ∧ Ω H0 G H ∧ ∀ G' H' b, Tr G H G' H' → S b → Q b H'
abbrev XTW (X : Cx) (e : Expr) (ρ : Env) (Ω : HW) (S : Bool → Prop) : Prop := PT X e (tDTW X.K ρ Ω S)
theorem xtw_of {e : Expr} {S : Bool → Prop} (h : XT X e ρ S) : XTW X e ρ Ω S := pt_imp h fun σ H Q ⟨G, H0, l, sl, o, k⟩ => ⟨G, H0, l, sl, k⟩
theorem xew_isN {a : Expr} {c : Bool} {jj p} (ha : XEW X a ρ Ω (fun z => isNon z = c)) : XEW X (.Compare a [.Is] [.Constant .none jj p] pos) ρ Ω (fun z => z = .bl c) :=
  pe_imp (pe_cmp (pc_isN ha) rfl) fun σ H Q ⟨G, H0, l, sl, o, k⟩ => ⟨G, H0, l, sl, o, fun G' H' v d t i s => k G' H' _ _ t (Is.of (.bl _)) (by rw [isN_of i, s])⟩
theorem xew_notN {a : Expr} {c : Bool} {jj p} (ha : XEW X a ρ Ω (fun z => isNon z = c)) : XEW X (.Compare a [.IsNot] [.Constant .none jj p] pos) ρ Ω (fun z => z = .bl (!c)) :=
  pe_imp (pe_cmp (pc_notN ha) rfl) fun σ H Q ⟨G, H0, l, sl, o, k⟩ => ⟨G, H0, l, sl, o, fun G' H' v d t i s => k G' H' _ _ t (Is.of (.bl _)) (by rw [isN_of i, s])⟩
theorem xtw_val {e : Expr} {b : Bool} (h : XEW X e ρ Ω (fun z => z = .bl b)) (he : ∀ whole, PySem.isTrue e X.env whole = (do let v ← whole; standAt e.pos; holding [v] (truthy v)) := by intro _; rfl) : XTW X e ρ Ω (fun z => z = b) :=
  pt_imp (pt_val h he) fun σ H Q ⟨G, H0, l, sl, o, k⟩ => ⟨G, H0, l, sl, o, fun G' H' v d t i s => by
    subst s
    cases i
    exact ⟨b, rfl, k G' H' b t rfl⟩⟩
theorem xtw_and {a b : Expr} {c d : Bool} (hst : Still Ω) (ha : XTW X a ρ Ω (fun z => z = c)) (hb : XTW X b ρ Ω (fun z => z = d)) : XTW X (.BoolOp .And [a, b] pos) ρ Ω (fun z => z = (c && d)) := by
  refine pt_imp (pw_and ha (pw_and1 hb)).pt fun σ H Q ⟨G, H0, l, sl, o, k⟩ => ⟨G, H0, l, sl, o, fun G' H' v t s => ?_⟩
  subst s
  cases v with
  | true => exact iteT ⟨G', H0, t.ok, sl.mono t, hst _ _ _ _ _ o t, fun G2 H2 e t2 s2 => k G2 H2 e (t.trans t2) (by simpa using s2)⟩
  | false => exact iteF (k G' H' _ t rfl)
theorem xtw_or {a b : Expr} {c d : Bool} (hst : Still Ω) (ha : XTW X a ρ Ω (fun z => z = c)) (hb : XTW X b ρ Ω (fun z => z = d)) : XTW X (.BoolOp .Or [a, b] pos) ρ Ω (fun z => z = (c || d)) := by
  refine pt_imp (pw_or ha (pw_or1 hb)).pt fun σ H Q ⟨G, H0, l, sl, o, k⟩ => ⟨G, H0, l, sl, o, fun G' H' v t s => ?_⟩
  subst s
  cases v with
  | false => exact iteF ⟨G', H0, t.ok, sl.mono t, hst _ _ _ _ _ o t, fun G2 H2 e t2 s2 => k G2 H2 e (t.trans t2) (by simpa using s2)⟩
  | true => exact iteT (k G' H' _ t rfl)
theorem xw_ifW {c : Expr} {a b : List Stmt} {k : Bool} (hst : Still Ω) (hc : XTW X c ρ Ω (fun z => z = k)) (ha : k = true → XWs X a ρ Ω Φ) (hb : k = false → XWs X b ρ Ω Φ) : XW X (.If c a b pos) ρ Ω Φ := by
  cases k with
  | true =>
    refine ps_imp (ps_if hc (ha rfl) (u := fun _ _ _ => False) ⟨fun _ _ _ _ _ _ q => q.elim⟩) fun Dn σ H ⟨G0, H0, G, t, sl, o, k⟩ => ⟨G, H0, t.ok, sl, o, fun G' H' v t' s => ?_⟩
    subst s
    exact iteT ⟨G0, H0, G', t.trans t', sl.mono t', hst _ _ _ _ _ o t', k⟩
  | false =>
    refine ps_imp (ps_if hc (t := fun _ _ _ => False) ⟨fun _ _ _ _ _ _ q => q.elim⟩ (hb rfl)) fun Dn σ H ⟨G0, H0, G, t, sl, o, k⟩ => ⟨G, H0, t.ok, sl, o, fun G' H' v t' s => ?_⟩
    subst s
    exact iteF ⟨G0, H0, G', t.trans t', sl.mono t', hst _ _ _ _ _ o t', k⟩
theorem xtw_isN {a : Expr} {c : Bool} {jj p} (ha : XEW X a ρ Ω (fun z => isNon z = c)) : XTW X (.Compare a [.Is] [.Constant .none jj p] pos) ρ Ω (fun z => z = c) :=
  pt_imp (pt_cmp (pc_isN ha) rfl) fun σ H Q ⟨G, H0, l, sl, o, k⟩ => ⟨G, H0, l, sl, o, fun G' H' v d t i s => ⟨c, by rw [isN_of i, s], k G' H' _ t rfl⟩⟩
theorem xtw_notN {a : Expr} {c : Bool} {jj p} (ha : XEW X a ρ Ω (fun z => isNon z = c)) : XTW X (.Compare a [.IsNot] [.Constant .none jj p] pos) ρ Ω (fun z => z = !c) :=
  pt_imp (pt_cmp (pc_notN ha) rfl) fun σ H Q ⟨G, H0, l, sl, o, k⟩ => ⟨G, H0, l, sl, o, fun G' H' v d t i s => ⟨!c, by rw [isN_of i, s], k G' H' _ t rfl⟩⟩
theorem xv_neg {e : Expr} {i : Int} (h : XV X e ρ (.int i)) : XV X (.UnaryOp .USub e pos) ρ (.int (-i)) :=
  pe_imp (pe_un un_neg h) fun σ H Q ⟨G, H0, l, sl, k⟩ => ⟨G, H0, l, sl, fun G' H' v d t i s => by
    subst s
    cases i
    exact ⟨_, rfl, k G' H' _ _ t (Is.of (.int _)) rfl⟩⟩
def tAnyTW (X : Cx) (e : Expr) : TT := fun σ H Q => ∃ ρ Ω S, XTW X e ρ Ω S ∧ tDTW X.K ρ Ω S σ H Q
theorem pt_anyW {e : Expr} : PT X e (tAnyTW X e) := ⟨fun pins s σ H Q I ⟨_, _, _, h, q⟩ => h.run pins s σ H Q I q⟩
theorem xw_while {c : Expr} {body : List Stmt} (hp : PassesOwn (model X.prog X.w) X.A X.env X.xe) (I : Nat → Env → HW → Prop) (m0 : Nat) (h0 : I m0 ρ Ω)
    (hs : ∀ m ρ1 Ω1, I m ρ1 Ω1 → ∃ b, Still Ω1 ∧ XTW X c ρ1 Ω1 (fun z => z = b) ∧ (b = true → XWs X body ρ1 Ω1 { nx := fun z H0 G H => ∃ m' Ω', m' < m ∧ I m' z Ω' ∧ Ω' H0 G H, rt := Φ.rt }) ∧ (b = false → ∀ H0 G H, Ω1 H0 G H → Φ.nx ρ1 H0 G H)) : XW X (.While c body [] pos) ρ Ω Φ :=
  ps_imp (ps_while hp (pt_anyW (e := c)) (pss_anyW (sts := body))) fun Dn σ H ⟨G0, H0, G, t, sl, o, k1, k2, k3⟩ => by
    refine ⟨fun m σ1 H1 => ∃ ρ1 Ω1 G1, I m ρ1 Ω1 ∧ Ω1 H0 G1 H1 ∧ Tr G0 H0 G1 H1 ∧ Sl X.K H0 G1 H1 σ1 ρ1, ⟨m0, ρ, Ω, G, h0, o, t, sl⟩, ?_⟩
    rintro m σ1 H1 ⟨ρ1, Ω1, G1, hI, o1, t1, sl1⟩
    obtain ⟨b, hst, hb, hT, hF⟩ := hs m ρ1 Ω1 hI
    refine ⟨ρ1, Ω1, _, hb, G1, H0, t1.ok, sl1, o1, fun G2 H2 z t2 e => ?_⟩
    subst e
    have o2 := hst _ _ _ _ _ o1 t2
    cases z with
    | true =>
      refine iteT ⟨fun σ' H' => ∃ m', m' < m ∧ ∃ ρ1 Ω1 G1, I m' ρ1 Ω1 ∧ Ω1 H0 G1 H' ∧ Tr G0 H0 G1 H' ∧ Sl X.K H0 G1 H' σ' ρ1, fun σ' H' h => h, ?_⟩
      exact ⟨ρ1, Ω1, _, hT rfl, G0, H0, G2, t1.trans t2, sl1.mono t2, o2, fun G4 H4 σ4 ρ4 t4 sl4 ⟨m', Ω', hm, hI', h4⟩ => ⟨m', hm, ρ4, Ω', G4, hI', h4, t4, sl4⟩, fun _ _ _ _ _ _ z => z.elim, k3⟩
    | false => exact iteF (k1 G2 H2 σ1 ρ1 (t1.trans t2) (sl1.mono t2) (hF rfl _ _ _ o2))
/-- return e -/
theorem xw_ret {e : Expr} {S : D → Prop} (h : XE X e ρ S) (hst : Still Ω) (w : ∀ d H0 G H, S d → Ω H0 G H → Φ.rt d H0 G H) : XW X (.Return (some e) pos) ρ Ω Φ :=
  ps_imp (ps_ret h) fun Dn σ H ⟨G0, H0, G, t, sl, o, _, _, k3⟩ => ⟨G, H0, t.ok, sl, fun G' H' v d t' i s => k3 G' H' v d (t.trans t') i (w d _ _ _ s (hst _ _ _ _ _ o t'))⟩
/-- (a, b), whatever they are -/
theorem xew_tup2 {a b : Expr} {Sa Sb : D → Prop} {x1} (hst : Still Ω) (ha : XEW X a ρ Ω Sa) (hb : XEW X b ρ Ω Sb) (na : ∀ z, Sa z → noOl z = true) (nb : ∀ z, Sb z → noOl z = true) (he : starEach [a, b] X.env = (false, eval a X.env) :: starEach [b] X.env := by rfl) (he2 : starEach [b] X.env = (false, eval b X.env) :: starEach [] X.env := by rfl) : XEW X (.Tuple [a, b] x1 pos) ρ Ω (fun z => noOl z = true) :=
  pe_imp (pe_tup (xaw_cons hst (S := fun z => ∃ x y, z = [x, y] ∧ Sa x ∧ Sb y) ha (xaw_cons hst (S := fun z => ∃ y, z = [y] ∧ Sb y) hb xaw_nil (fun d ds s e => ⟨d, by rw [e], s⟩) he2) (fun d ds s ⟨y, e, sy⟩ => ⟨d, y, by rw [e], s, sy⟩) he)) fun σ H Q ⟨G, H0, l, sl, o, k⟩ => ⟨G, H0, l, sl, o, fun G1 H1 vs ds t1 ii ⟨x, y, e, sx, sy⟩ => by
    subst e
    obtain ⟨v, u, rfl, i1, i2⟩ := isl2 ii
    refine ⟨by rw [sizeLine_eq]; simp, fun p hp => ?_⟩
    have t2 := Tr.new t1.ok hp (o := .tup [v, u]) pot_tup
    exact k _ _ _ (.tup [x, y]) (t1.trans t2) (Is.of (.tup' upd_same ((DaL.cons (i1.da (na _ sx)) (DaL.cons (i2.da (nb _ sy)) DaL.nil)).mono t2.gg))) rfl⟩
end
theorem shade_opt {o : Option Nat} {z : D} (h : Shade (optD o) z) : z = optD o := by
  cases o with
  | some p => exact h.int _ rfl
  | none =>
    have := h.non
    cases z <;> first | rfl | cases this
/-! ### the walk's law -/
def sqF : Nat → Mat → List Nat → Bool
  | 0, m, left => decide (fw m left (-1) = none) && !besideB m left
  | f + 1, m, left => decide (fw m left (-1) = none) && match fw m left 1 with
    | none => !besideB m left
    | some p => sqF f (takeS m p (left.filter (· ≠ p))) (left.filter (· ≠ p))
def sqOf (m : Mat) : Bool := sqF m.length m (List.range m.length)
def bnd : Nat → Nat
  | 0 => 900
  | k + 1 => 5 * bnd k + 3
theorem bnd_pos : ∀ k, 0 < bnd k
  | 0 => by decide
  | k + 1 => by unfold bnd; omega
theorem bnd_le {k : Nat} (h : k ≤ 5) : bnd k ≤ 6000000 := by
  match k, h with
  | 0, _ => decide
  | 1, _ => decide
  | 2, _ => decide
  | 3, _ => decide
  | 4, _ => decide
  | 5, _ => decide
theorem takeS_ok {m : Mat} {left : List Nat} {n B p : Nat} (o : TakeOk m left n B p) : Sq n (takeS m p (left.filter (· ≠ p))) ∧ MBd (5 * B + 3) (takeS m p (left.filter (· ≠ p))) := by
  have hm := o.sq.rows
  have hp := o.lt p o.mem
  refine ⟨⟨by rw [takeS_len]; exact hm, fun r hr => ?_⟩, fun r hr => ?_⟩
  · obtain ⟨j, hj, rfl⟩ := List.mem_map.mp hr
    have hj : j < n := by have := List.mem_range.mp hj; omega
    split
    · unfold takeRow lessRow
      rw [List.length_zipWith, row_len o.sq hj, row_len o.sq hp, Nat.min_self]
    · exact row_len o.sq hj
  · obtain ⟨j, hj, rfl⟩ := List.mem_map.mp hr
    have hj : j < n := by have := List.mem_range.mp hj; omega
    have bj : RBd B (m.getD j []) := o.bm _ (getD_mem (by omega))
    have bp : RBd B (m.getD p []) := o.bm _ (getD_mem (by omega))
    split
    · intro x hx
      refine (lessRow_bd bj bp ((Bd.div (mget_bd o.sq o.bm hj hp) (mget_bd o.sq o.bm hp hp) o.ne)) x hx).mono ?_
      omega
    · intro x hx
      exact (bj x hx).mono (by omega)
theorem fw_mem {m : Mat} {left : List Nat} {s : Int} {p : Nat} (h : fw m left s = some p) : p ∈ left ∧ sgn (mGet m p p).re = s := ⟨List.mem_of_find?_eq_some h, by simpa using List.find?_some h⟩
theorem pos_ne {x : GQ} (h : sgn x.re = 1) : x ≠ GQ.ofInt 0 := fun e => by
  rw [e] at h
  exact absurd h (by decide)
variable {P : Program} {w : World} {K : PySem.W.Frag} {mg : Str → Option Value} {base : Heap}
/-- at q a list, ours, of whatever -/
def FoundAt (q : Addr) (k : Nat) : HW := fun H0 G H => H0 q = none ∧ G q = none ∧ ∃ vs, H q = some (.lst vs) ∧ vs.length ≤ k
theorem FoundAt.still {q : Addr} {k : Nat} : Still (FoundAt q k) := fun H0 G H G' H' ⟨a, b, vs, c, d⟩ t => ⟨a, t.pv _ _ c b, vs, t.hh _ _ c (by rw [b]; exact fun z => nomatch z), d⟩
def WF (K : PySem.W.Frag) (p a b q : Addr) (W : Mat → Prop) (m : Mat) (left : List Nat) (k : Nat) : HW := fun H0 G H => WalkAt K p a b W m left H0 G H ∧ FoundAt q k H0 G H ∧ q ≠ p ∧ q ≠ a ∧ q ≠ b
theorem WF.still {p a b q : Addr} {W : Mat → Prop} {m : Mat} {left : List Nat} {k : Nat} : Still (WF K p a b q W m left k) := fun H0 G H G' H' h t => ⟨WalkAt.still _ _ _ _ _ h.1 t, FoundAt.still _ _ _ _ _ h.2.1 t, h.2.2⟩
theorem WalkAt.rebase {G0 H0 G H G' H' : Hp} {p a b : Addr} {W : Mat → Prop} {m : Mat} {left : List Nat} (t : Tr G0 H0 G H) (h : WalkAt K p a b W m left H G' H') : WalkAt K p a b W m left H0 G' H' := by
  obtain ⟨⟨c, ⟨h0, r⟩, dc⟩, ⟨h1, r1⟩, ⟨wt, hw, ⟨h2, r2⟩⟩, x⟩ := h
  exact ⟨⟨c, ⟨t.fresh0 h0, r⟩, dc⟩, ⟨t.fresh0 h1, r1⟩, ⟨wt, hw, ⟨t.fresh0 h2, r2⟩⟩, x⟩
theorem WalkAt.weak {H0 G H : Hp} {p a b : Addr} {W W' : Mat → Prop} {m : Mat} {left : List Nat} (h : WalkAt K p a b W m left H0 G H) (w : ∀ x, W x → W' x) : WalkAt K p a b W' m left H0 G H := by
  obtain ⟨x1, x2, ⟨wt, hw, x3⟩, x4⟩ := h
  exact ⟨x1, x2, ⟨wt, w _ hw, x3⟩, x4⟩
/-- H without p, a, b -/
def less3 (H : Hp) (p a b : Addr) : Hp := fun x => if x = p ∨ x = a ∨ x = b then none else H x
theorem less3_some {H : Hp} {p a b x : Addr} {o : HO} (h : less3 H p a b x = some o) : H x = some o := by
  unfold less3 at h
  split at h
  · cases h
  · exact h
theorem Tr.phantom {G H : Hp} {p a b : Addr} (l : Le G H) : Tr G (less3 H p a b) G H := ⟨Ex.refl G, l, fun x o h _ => less3_some h, fun x o _ n => n⟩
theorem Tr.over {G0 H0 G H G' H' : Hp} {p a b : Addr} (t : Tr G0 H0 G H) (t' : Tr G (less3 H p a b) G' H') (hp : H0 p = none) (ha : H0 a = none) (hb : H0 b = none) : Tr G0 H0 G' H' := by
  have key : ∀ x o, H0 x = some o → H x = some o → less3 H p a b x = some o := fun x o h h' => by
    unfold less3
    rw [if_neg]
    · exact h'
    · rintro (rfl | rfl | rfl)
      · rw [hp] at h; cases h
      · rw [ha] at h; cases h
      · rw [hb] at h; cases h
  refine ⟨t.gg.trans t'.gg, t'.ok, fun x o h n => ?_, fun x o h n => ?_⟩
  · have h1 := t.hh x o h n
    refine t'.hh x o (key x o h h1) fun z => ?_
    cases q : G0 x with
    | none => rw [t.pv x o h q] at z; cases z
    | some u => rw [t.gg.go x u q] at z; cases z; exact n q
  · have nm : G0 x ≠ some potMark := by rw [n]; exact fun z => nomatch z
    exact t'.pv x o (key x o h (t.hh x o h nm)) (t.pv x o h n)
/-- .. and of the rest of H -/
theorem Tr.keeps3 {G H G' H' : Hp} {p a b q : Addr} {vs : List V} (t : Tr G (less3 H p a b) G' H') (hq : H q = some (.lst vs)) (gq : G q = none) (n1 : q ≠ p) (n2 : q ≠ a) (n3 : q ≠ b) : G' q = none ∧ H' q = some (.lst vs) := by
  have e : less3 H p a b q = some (.lst vs) := by
    unfold less3
    rw [if_neg (fun z => z.elim n1 (fun z => z.elim n2 n3))]; exact hq
  exact ⟨t.pv _ _ e gq, t.hh _ _ e (by rw [gq]; exact fun z => nomatch z)⟩
section
variable {X : Cx} {ρ : Env} {pos : Pos} {Φ : OutW} {rest : List Stmt} {W : Mat → Prop} {m : Mat} {left : List Nat} {p a b q : Addr} {k kk : Nat}
/-- found.append(e) -/
theorem xws_push {o e : Expr} {S : D → Prop} {apos cpos : Pos} (hk : knownE ρ = true) (ho : XV X o ρ (.adr q)) (he : XEW X e ρ (WF X.K p a b q W m left kk) S) (hl : kk < 100000) (hr : XWs X rest ρ (WF X.K p a b q W m left (kk + 1)) Φ)
    (hp : ∀ {to : TE} {t : TA}, PE X o to → PA X [e] t → PE X (.Call (.Attribute o "append" apos) [e] [] cpos) (tBM X.K "list" rAppend to t) := by exact fun o a => pe_bm PySem.F.plainAttrs_list PySem.F.slot_list_append PySem.F.type_list_append mt_append o a)
    (hst : starEach [e] X.env = (false, eval e X.env) :: starEach [] X.env := by rfl) (hs : swapsWith (.Call (.Attribute o "append" apos) [e] [] cpos) none pos.line X.env = pure false := by rfl) : XWs X (.Expr (.Call (.Attribute o "append" apos) [e] [] cpos) pos :: rest) ρ (WF X.K p a b q W m left kk) Φ :=
  pss_imp (pss_cons (ps_expr (hp ho (pa_cons he pa_nil hst)) hs) pss_anyW) fun Dn σ H ⟨G0, H0, G, t, sl, o, k⟩ => ⟨G, H0, t.ok, sl, fun G1 H1 v d t1 i1 s1 => by
    subst s1
    cases i1
    have o1 := WF.still _ _ _ _ _ o t1
    obtain ⟨_, ⟨_, _, vs, hv, _⟩, _⟩ := id o1
    refine ⟨.inl ⟨rfl, vs, SqL.of hv⟩, G1, H0, t1.ok, sl.mono t1, o1, fun G2 H2 u d2 t2 i2 s2 => ?_⟩
    have t12 := t1.trans t2
    obtain ⟨⟨⟨c, ob, dc⟩, oa, ⟨wt, hw, ow⟩, hab⟩, ⟨h0, g0, vs, hv, hl2⟩, n1, n2, n3⟩ := WF.still _ _ _ _ _ o1 t2
    refine ⟨q, vs, u, rfl, rfl, hv, Nat.lt_of_le_of_lt hl2 (Nat.lt_of_lt_of_le hl (by rw [sizeLine_eq]; decide)), ?_⟩
    exact ⟨ρ, _, Φ, hr, G0, H0, G2, (t.trans t12).mut h0 g0, sl.known hk t12.gg, ⟨⟨⟨c, ob.upd' (Ne.symm n1), dc⟩, oa.upd' (Ne.symm n2), ⟨wt, hw, ow.upd' (Ne.symm n3)⟩, hab⟩, ⟨h0, g0, _, upd_same, by simp; omega⟩, n1, n2, n3⟩, k⟩⟩
/-- walk.take(e) -/
theorem xws_take {P : Program} {n B j kt : Nat} {o e : Expr} {apos cpos : Pos} {pl : Sem Bool} (T : Tx P X.K X.mg) (M : ∃ fd, FnOk X.prog X.w X.K X.mg X.base CX0 kt (d_Walk_take.ad X.K) fd ["self", "place"] (spTake X.K) ∧ Binds X.K fd ["self", "place"] []) (hrm : Room kt X.A) (hk : knownE ρ = true) (ho : XV X o ρ (.adr p)) (he : XV X e ρ (.int (j : Int))) (ok : TakeOk m left n B j)
    (hr : XWs X rest ρ (WF X.K p a b q (WB n (5 * B + 3)) (takeS m j (left.filter (· ≠ j))) (left.filter (· ≠ j)) kk) Φ)
    (hst : starEach [e] X.env = (false, eval e X.env) :: starEach [] X.env := by rfl) (hpl : (backTo cpos (starEach [] X.env)).any (·.1) = false := by rfl)
    (ht : eval (.Call (.Attribute o "take" apos) [e] [] cpos) X.env = (do
      let ov ← eval o X.env
      standAt apos.atName
      let (f, first) ← holding [ov] (getMethod ov "take" pl)
      callWith cpos f first (backTo cpos (starEach [e] X.env)) (backToKw cpos (keywordEach [] X.env))) := by rfl) (hs : swapsWith (.Call (.Attribute o "take" apos) [e] [] cpos) none pos.line X.env = pure false := by rfl) : XWs X (.Expr (.Call (.Attribute o "take" apos) [e] [] cpos) pos :: rest) ρ (WF X.K p a b q (WB n B) m left kk) Φ := by
  obtain ⟨fd, F, hb⟩ := M
  refine pss_imp (pss_cons (ps_expr (pe_meth ho T.cl_Walk T.m_Walk_take F hrm hb .nil pass0 (pa_cons he pa_nil hst) hst hpl ht) hs) pss_anyW) fun Dn σ H ⟨G0, H0, G, t, sl, o, k⟩ => ⟨G, H0, t.ok, sl, fun G1 H1 v d t1 i1 s1 => ?_⟩
  subst s1
  cases i1
  have o1 := WF.still _ _ _ _ _ o t1
  obtain ⟨dx, c, vs, _, _, _, hp, _⟩ := walk_known t1.ok o1.1
  refine ⟨p, dx, _, rfl, hp, fWalk_no _ _ _ (by decide +kernel) (by decide +kernel) (by decide +kernel), G1, H0, t1.ok, sl.mono t1, fun G2 H2 u d2 t2 i2 s2 => ?_⟩
  subst s2
  cases i2
  have t12 := t.trans (t1.trans t2)
  obtain ⟨⟨⟨c, ⟨h0, rb⟩, dc⟩, ⟨h1, ra⟩, ⟨wt, hw, ⟨h2, rw'⟩⟩, hab⟩, ⟨f0, g0, ws, hv, hl2⟩, n1, n2, n3⟩ := WF.still _ _ _ _ _ o1 t2
  refine ⟨G2, less3 H2 p a b, p, a, b, m, left, n, B, j, rfl, Tr.phantom t2.ok, ⟨⟨c, ⟨if_pos (.inl rfl), rb⟩, dc⟩, ⟨if_pos (.inr (.inl rfl)), ra⟩, ⟨wt, hw, ⟨if_pos (.inr (.inr rfl)), rw'⟩⟩, hab⟩, ok, fun G3 H3 t3 hw3 => ?_⟩
  obtain ⟨k1, k2⟩ := t3.keeps3 hv g0 n1 n2 n3
  obtain ⟨⟨c, ⟨_, rb⟩, dc⟩, ⟨_, ra⟩, ⟨wt, hw, ⟨_, rw'⟩⟩, hab⟩ := hw3
  exact ⟨ρ, _, Φ, hr, G0, H0, G3, t12.over t3 h0 h1 h2, sl.known hk ((t1.trans t2).gg.trans t3.gg), ⟨⟨⟨c, ⟨h0, rb⟩, dc⟩, ⟨h1, ra⟩, ⟨wt, hw, ⟨h2, rw'⟩⟩, hab⟩, ⟨f0, k1, ws, k2, hl2⟩, n1, n2, n3⟩, k⟩
end
end NL

/-! text P17 -/
set_option Elab.async false
set_option linter.all false
set_option maxRecDepth 100000
set_option maxHeartbeats 4000000
/-! squares_of, is_never_below_of: the defs. -/
namespace NL
open PySem PySem.Spec L2
open PyProof.Rows (envOfC)
variable {P : Program} {w : World} {K : PySem.W.Frag} {mg : Str → Option Value} {base : Heap}
/-- the walk while it goes on -/
structure SqInv (r : Bool) (tw : D) (p a b q : Addr) (n f : Nat) (ρ : Env) (m : Mat) (left : List Nat) (k : Nat) : Prop where
  env : ρ = [some tw, some (.adr p), some (.adr q), some (optD (fw m left 1))]
  sq : Sq n m
  bm : MBd (bnd k) m
  lt : ∀ j ∈ left, j < n
  nd : left.Nodup
  len : left.length = f
  kf : k + f ≤ 6
  res : sqF f m left = r
theorem sqF_done {f : Nat} {m : Mat} {left : List Nat} (hl : left.length = f) (h : fw m left 1 = none ∨ fw m left (-1) ≠ none) : sqF f m left = (decide (fw m left (-1) = none) && !besideB m left) := by
  cases f with
  | zero => rfl
  | succ f =>
    unfold sqF
    rcases h with h | h
    · rw [h]
    · rw [decide_eq_false h, Bool.false_and, Bool.false_and]
theorem sqF_go {f : Nat} {m : Mat} {left : List Nat} {p : Nat} (h : fw m left 1 = some p) (h' : fw m left (-1) = none) : sqF (f + 1) m left = sqF f (takeS m p (left.filter (· ≠ p))) (left.filter (· ≠ p)) := by
  show (decide (fw m left (-1) = none) && match fw m left 1 with
    | none => !besideB m left
    | some p => sqF f (takeS m p (left.filter (· ≠ p))) (left.filter (· ≠ p))) = _
  rw [h, h', decide_eq_true rfl, Bool.true_and]
def R_squares : Rel := fun ds T => ∃ (m : Mat) (n : Nat), ds = [matD m] ∧ Sq n m ∧ MBd 900 m ∧ n ≤ 6 ∧ T = fun z => isNon z = !sqOf m ∧ noOl z = true
theorem filter_len {left : List Nat} {p : Nat} (nd : left.Nodup) (hp : p ∈ left) : (left.filter (· ≠ p)).length + 1 = left.length := by
  have e : left.filter (· ≠ p) = left.erase p := by
    rw [nd.erase_eq_filter]
    refine List.filter_congr fun x _ => ?_
    by_cases h : x = p <;> simp [h]
  have := List.length_pos_of_mem hp
  rw [e, List.length_erase_of_mem hp]
  omega
theorem ok_squares_of (T : Tx P K mg) : Fk P w K mg base "squares_of" 43 R_squares := by
  obtain ⟨fd, F⟩ := T.F_squares_of
  refine mkFk F sc_squares_of T.g_squares_of ?_ ?_ (fun _ _ _ _ _ _ us hl => match us, hl with | [_], _ => rfl)
  · rintro ds S ⟨m, n, rfl, _⟩; rfl
  · rintro cdv A outer s H E hr ds S ⟨m0, n, rfl, sq0, bm0, hn, rfl⟩
    have hnd := sc_squares_of.nd
    have tk := ok_Walk_take (P := P) (w := w) (base := base) T
    obtain ⟨fi, FI, BI⟩ := ok_Walk_init (P := P) (w := w) (base := base) T
    have rest : ∀ p a b q, XWs (cxD P w K mg base n_squares_of "squares_of" (defScope s_squares_of) (d_squares_of.ad K) cdv A outer s H E) ((defBody s_squares_of).drop 1) [some (matD m0), some (.adr p), some (.adr q), none] (WF K p a b q (WB n 900) m0 (List.range n) 0) { nx := fun _ _ _ _ => False, rt := fun d _ _ _ => isNon d = !sqOf m0 ∧ noOl d = true } := by
      intro p a b q
      have hlt : ∀ j ∈ List.range n, j < n := fun j hj => List.mem_range.mp hj
      refine xws_setW 3 WF.still (xew_imp (xew_walk T (fun _ _ _ h => h.1) (ok_first_with T) (hr.mono (by decide)) (xv_var 1) (xva_cons xv_int xva_nil) rfl ⟨m0, _, n, 1, rfl, sq0, hlt, rfl⟩) (fun z ⟨d, hd, sh⟩ => by subst hd; exact shade_opt sh)) ?_ hnd (by cases fw m0 (List.range n) 1 <;> rfl)
      refine xws_cons (M := fun ρ H0 G H => ∃ m left f k, SqInv (sqOf m0) (matD m0) p a b q n f ρ m left k ∧ (fw m left 1 = none ∨ fw m left (-1) ≠ none) ∧ WF K p a b q (WB n (bnd k)) m left k H0 G H) (xw_while PassesOwn.never (fun f ρ Ω => ∃ m left k, SqInv (sqOf m0) (matD m0) p a b q n f ρ m left k ∧ Ω = WF K p a b q (WB n (bnd k)) m left k) n ⟨m0, List.range n, 0, ⟨rfl, sq0, bm0, hlt, List.nodup_range, by simp, by omega, by unfold sqOf; rw [sq0.rows]⟩, rfl⟩ ?_) ?_
      · rintro f ρ1 Ω1 ⟨m, left, k, iv, rfl⟩
        have env := iv.env
        subst env
        have hb1 := bnd_pos k
        refine ⟨!isNon (optD (fw m left 1)) && isNon (optD (fw m left (-1))), WF.still, xtw_and WF.still (xtw_notN (xew_of (xe_imp (xv_var 3) (fun z e => by rw [e])))) (xtw_isN (xew_imp (xew_walk T (fun _ _ _ h => h.1) (ok_first_with T) (hr.mono (by decide)) (xv_var 1) (xva_cons (xv_neg xv_int) xva_nil) rfl ⟨m, left, n, -1, rfl, iv.sq, iv.lt, rfl⟩) (fun z ⟨d, hd, sh⟩ => by subst hd; rw [shade_opt sh]))), fun hb => ?_, fun hb H0 G H hw => ?_⟩
        · rw [Bool.and_eq_true] at hb
          obtain ⟨h1, h2⟩ := hb
          cases hp1 : fw m left 1 with
          | none => rw [hp1] at h1; cases h1
          | some pl =>
            have hm1 : fw m left (-1) = none := by
              cases q1 : fw m left (-1) with
              | none => rfl
              | some x => rw [q1] at h2; cases h2
            obtain ⟨pm, ps⟩ := fw_mem hp1
            have fpos : 0 < f := by rw [← iv.len]; exact List.length_pos_of_mem pm
            obtain ⟨f', rfl⟩ : ∃ f', f = f' + 1 := ⟨f - 1, by omega⟩
            have kf := iv.kf
            have ok : TakeOk m left n (bnd k) pl := ⟨iv.sq, iv.bm, iv.lt, iv.nd, pm, pos_ne ps, hb1, bnd_le (by omega), by omega⟩
            obtain ⟨ts1, ts2⟩ := takeS_ok ok
            have hpl := iv.lt pl pm
            refine xws_push rfl (xv_var 2) (xew_tup2 WF.still (xew_walk T (fun _ _ _ h => h.1) (ok_middle T) (hr.mono (by decide)) (xv_var 1) (xva_cons (xv_var 3) xva_nil) rfl ⟨m, left, n, pl, rfl, iv.sq, hpl, rfl⟩) (xew_walk T (fun _ _ _ h => h.1) (ok_column T) (hr.mono (by decide)) (xv_var 1) (xva_cons (xv_var 3) xva_nil) rfl ⟨m, left, n, pl, bnd k, rfl, iv.sq, hpl, by omega, iv.bm, hb1, Nat.le_trans (bnd_le (by omega)) (by decide), ok.ne, rfl⟩) (fun z ⟨d, hd, sh⟩ => sh.no) (fun z ⟨d, hd, sh⟩ => sh.no)) (by omega) ?_
            refine xws_take T tk (hr.mono (by decide)) rfl (xv_var 1) (xv_var 3) ok ?_
            have hlt' : ∀ j ∈ left.filter (· ≠ pl), j < n := fun j hj => iv.lt j ((List.mem_filter.mp hj).1)
            refine xws_setW 3 WF.still (xew_imp (xew_walk T (fun _ _ _ h => h.1) (ok_first_with T) (hr.mono (by decide)) (xv_var 1) (xva_cons xv_int xva_nil) rfl ⟨takeS m pl (left.filter (· ≠ pl)), left.filter (· ≠ pl), n, 1, rfl, ts1, hlt', rfl⟩) (fun z ⟨d, hd, sh⟩ => by subst hd; exact shade_opt sh)) ?_ hnd (by cases fw (takeS m pl (left.filter (· ≠ pl))) (left.filter (· ≠ pl)) 1 <;> rfl)
            refine xws_nil fun H0 G H hw => ⟨f', _, Nat.lt_succ_self f', ⟨takeS m pl (left.filter (· ≠ pl)), left.filter (· ≠ pl), k + 1, ⟨rfl, ts1, ts2, hlt', iv.nd.filter _, ?_, by omega, ?_⟩, rfl⟩, hw⟩
            · have := filter_len iv.nd pm
              have := iv.len
              omega
            · rw [← sqF_go hp1 hm1]; exact iv.res
        · refine ⟨m, left, f, k, iv, ?_, hw⟩
          cases hp1 : fw m left 1 with
          | none => exact .inl rfl
          | some pl =>
            rw [hp1] at hb
            refine .inr fun q1 => ?_
            rw [q1] at hb
            cases hb
      · intro ρ1
        refine pss_imp (pss_anyW (X := cxD P w K mg base n_squares_of "squares_of" (defScope s_squares_of) (d_squares_of.ad K) cdv A outer s H E)) ?_
        rintro Dn σ H1 ⟨G0, H0, G, t, sl, ⟨m, left, f, k, iv, hex, hw⟩, kk⟩
        have env := iv.env
        subst env
        have hb1 := bnd_pos k
        refine ⟨_, WF K p a b q (WB n (bnd k)) m left k, { nx := fun _ _ _ _ => False, rt := fun d _ _ _ => isNon d = !sqOf m0 ∧ noOl d = true }, ?_, G0, H0, G, t, sl, hw, kk⟩
        have res := sqF_done iv.len hex
        rw [iv.res] at res
        refine xws_cons (M := fun z H0 G H => (z = [some (matD m0), some (.adr p), some (.adr q), some (optD (fw m left 1))] ∧ sqOf m0 = true) ∧ True) (xw_ifW WF.still (xtw_or WF.still (xtw_notN (xew_imp (xew_walk T (fun _ _ _ h => h.1) (ok_first_with T) (hr.mono (by decide)) (xv_var 1) (xva_cons (xv_neg xv_int) xva_nil) rfl ⟨m, left, n, -1, rfl, iv.sq, iv.lt, rfl⟩) (fun z ⟨d, hd, sh⟩ => by subst hd; rw [shade_opt sh]))) (xtw_notN (xew_imp (xew_walk0 T (fun _ _ _ h => h.1) (ok_first_beside T) (hr.mono (by decide)) (xv_var 1) ⟨m, left, n, rfl, iv.sq, iv.lt, rfl⟩) (fun z ⟨d, hd, sh⟩ => by rw [sh.non, hd.1])))) (fun hb => ?_) fun hb => ?_) ?_
        · refine xws_one (xw_ret xv_non WF.still fun d _ _ _ e _ => ?_)
          subst e
          refine ⟨?_, rfl⟩
          show true = !sqOf m0
          rw [res]
          cases q1 : fw m left (-1) with
          | some x => rw [decide_eq_false (fun z => nomatch z)]; rfl
          | none =>
            rw [q1] at hb
            have : besideB m left = true := by simpa [optD, isNon] using hb
            rw [this]; rfl
        · refine xws_nil fun _ _ _ _ => ⟨⟨rfl, ?_⟩, trivial⟩
          rw [res]
          cases q1 : fw m left (-1) with
          | some x => rw [q1] at hb; simp [optD, isNon] at hb
          | none =>
            rw [q1] at hb
            have : besideB m left = false := by simpa [optD, isNon] using hb
            rw [this]; rfl
        · intro ρ2
          refine pss_imp (pss_anyW (X := cxD P w K mg base n_squares_of "squares_of" (defScope s_squares_of) (d_squares_of.ad K) cdv A outer s H E)) ?_
          rintro Dn σ H1 ⟨G0, H0, G, t, sl, ⟨⟨e, hq⟩, _⟩, kk⟩
          subst e
          refine ⟨_, fun _ _ _ => True, { nx := fun _ _ _ _ => False, rt := fun d _ _ _ => isNon d = !sqOf m0 ∧ noOl d = true }, ?_, G0, H0, G, t, sl, trivial, kk⟩
          refine xws_one (xw_ret (xv_var 2) (fun _ _ _ _ _ _ _ => trivial) fun d _ _ _ e _ => ?_)
          subst e
          exact ⟨by rw [hq]; rfl, rfl⟩
    refine xss_of_w ?_
    refine pss_imp (pss_cons (ps_par rfl hnd (i := 1) (j := 2) rfl rfl (by decide) rfl rfl (pa_cons (pe_make T.mk_Walk FI (hr.mono (by decide)) rfl T.g_Walk BI .nil pass0 (pa_cons (xv_var 0 : XV _ _ [some (matD m0), none, none, none] (matD m0)) pa_nil rfl)) (pa_cons (pe_lst pa_nil) pa_nil rfl) rfl) rfl rfl) pss_anyW) ?_
    rintro Dn σ H1 ⟨G0, H0, G, t, sl, _, kk⟩
    refine ⟨G, H0, t.ok, sl, fun G1 H2 v d t1 i1 s1 y dx hy hdx hne => ?_⟩
    subst s1
    have tA : Tr G1 H2 G1 (upd H2 dx (.own y)) := Tr.own t1.ok hdx
    have hy2 : upd H2 dx (.own y) y = none := by rw [upd_ne (Ne.symm hne)]; exact hy
    have tB : Tr G1 H2 G1 (upd (upd H2 dx (.own y)) y (.ins (He.ga K "Walk") dx [])) := tA.trans (Tr.own tA.ok hy2)
    refine ⟨G1, H2, y, dx, v, m0, n, rfl, tB, hy, t1.ok.none hy, upd_same, i1, sq0, by omega, fun G' H' a b t' hw => ⟨rfl, ?_⟩⟩
    have tt := t.trans (t1.trans t')
    have hw0 := WalkAt.rebase (t.trans t1) hw
    refine ⟨Nat.zero_le _, fun q hq => ⟨_, _, rfl, ?_⟩⟩
    have tq := Tr.own tt.ok hq (o := .lst [])
    have hw1 := WalkAt.still _ _ _ _ _ hw0 tq
    obtain ⟨⟨c, ⟨_, _, dxx, e1⟩, _⟩, ⟨_, _, vs, e2, _⟩, ⟨wt, _, ⟨_, _, ws, e3, _⟩⟩, _⟩ := id hw0
    have n1 : q ≠ y := fun z => by rw [z, e1] at hq; cases hq
    have n2 : q ≠ a := fun z => by rw [z, e2] at hq; cases hq
    have n3 : q ≠ b := fun z => by rw [z, e3] at hq; cases hq
    refine ⟨_, WF K y a b q (WB n 900) m0 (List.range n) 0, _, rest y a b q, G0, H0, G', tt.trans tq, ?_, ⟨hw1.weak fun x hx => ⟨hx.1, fun r hr' z hz => (hx.2 r hr' z hz).mono (by decide)⟩, ⟨tt.fresh0 hq, tt.ok.none hq, [], upd_same, Nat.le_refl _⟩, n1, n2, n3⟩, fun _ _ _ _ _ _ z => z.elim, fun _ _ _ _ _ _ z => z.elim, fun G2 H3 v2 d2 t2 i2 r2 => kk.2.2 G2 H3 v2 d2 t2 i2 ⟨⟨by rw [frz_of r2.2]; exact r2.1, by rw [frz_of r2.2]; exact r2.2⟩, by rw [frz_of r2.2]; exact r2.2⟩⟩
    have s1 := (((sl.mono (t1.trans t')).mono tq).set (i := 1) (Da.adr y)).set (i := 2) (Da.adr q)
    exact s1
def R_never : Rel := fun ds T => ∃ (m : Mat) (n : Nat), ds = [matD m] ∧ Sq n m ∧ MBd 900 m ∧ n ≤ 6 ∧ T = fun z => z = .bl (sqOf m)
theorem ok_is_never (T : Tx P K mg) : Fk P w K mg base "is_never_below_of" 44 R_never := by
  obtain ⟨fd, F⟩ := T.F_is_never_below_of
  refine mkFk F sc_is_never_below_of T.g_is_never_below_of ?_ ?_ (fun _ _ _ _ _ _ us hl => match us, hl with | [_], _ => rfl)
  · rintro ds S ⟨m, n, rfl, _⟩; rfl
  · rintro cdv A outer s H E hr ds S ⟨m0, n, rfl, sq0, bm0, hn, rfl⟩
    have h : XE (cxD P w K mg base n_is_never_below_of "is_never_below_of" (defScope s_is_never_below_of) (d_is_never_below_of.ad K) cdv A outer s H E) (.Call (.Name "squares_of" default) [.Name "twins" default] [] default) (startE n_is_never_below_of [matD m0]) (fun z => isNon z = !sqOf m0) := xe_call (ok_squares_of T) hr (xva_cons (xv_var 0) xva_nil) (fun ds e => by subst e; exact ⟨rfl, _, ⟨m0, n, rfl, sq0, bm0, hn, rfl⟩, fun d h => h.1⟩)
    exact xss_one (xs_ret (S := fun z => z = .bl (sqOf m0)) (pe_imp (pe_cmp (pc_notN (xe_call (S := fun z => isNon z = !sqOf m0) (ok_squares_of T) hr (xva_cons (xv_var 0) xva_nil) (fun ds e => by subst e; exact ⟨rfl, _, ⟨m0, n, rfl, sq0, bm0, hn, rfl⟩, fun d h => h.1⟩))) rfl) fun σ H Q ⟨G, H0, l, sl, k⟩ => ⟨G, H0, l, sl, fun G' H' v d t i s => k G' H' _ _ t (Is.of (.bl _)) (by rw [isN_of i, s, Bool.not_not])⟩) fun d e => by subst e; exact ⟨rfl, rfl⟩)
end NL

/-! text DL16 -/
set_option Elab.async false
set_option linter.all false
set_option maxRecDepth 100000
set_option maxHeartbeats 4000000
/-! enumerate over a tuple. -/
namespace NL
open PySem PySem.Spec L2
open PyProof.Rows (envOfC Call_ boot_enumerate)
set_option maxHeartbeats 1000000 in
theorem meets_enum_T (t : Addr) (items : Array Value) :
    Meets (Builtin.«enumerate.__new__» ⟨[.type "enumerate", .ref t], []⟩) (fun _ R s => s.heap.IsTuple t items ∧
      R (.ok (.ret (.ref (s.heap.push { cls := .type "tuple_iterator", data := .fields #[.ref t, .int 0 0] }).objs.size))) { s with heap := (s.heap.push { cls := .type "tuple_iterator", data := .fields #[.ref t, .int 0 0] }).push { cls := .type "enumerate", data := .fields #[.none, .bool false, .ref s.heap.objs.size, rawInt 0, .none, .none] } }) :=
  .of_wp fun prog w A R s h => by
    obtain ⟨hp, g, d, tk, os⟩ := s; obtain ⟨h1, h⟩ := h
    have hsub := sub_enumerate
    have q1 : ∀ {A' : Around} {E : Value → Shared → Prop} {Q : Value → Shared → Prop}, Q (.ref hp.objs.size) ⟨hp.push { cls := .type "tuple_iterator", data := .fields #[.ref t, .int 0 0] }, g, d, tk, os⟩ → wpAny (model prog w) A' (pyIter (.ref t)) Q E ⟨hp, g, d, tk, os⟩ :=
      fun q => wpAny_pyIter_tuple h1 q
    wp_walk using q1
    refine wpAny_stack_any fun st => wpAny_pure ?_
    split
    · rename_i c _ _ _ _ _
      cases (c == Value.type "enumerate")
      · wp_walk using q1
        exact ⟨_, rfl, h⟩
      · wp_walk using q1
        exact ⟨_, rfl, h⟩
    · wp_walk using q1
      exact ⟨_, rfl, h⟩
theorem call_enumT {prog : Program} {w : World} {A : Around} {E : Value → Shared → Prop} {s : Shared} {t : Addr} {items : Array Value} {Q : Value → Shared → Prop} (h1 : s.heap.IsTuple t items)
    (h : ∀ h', IsEnum h' (s.heap.objs.size + 1) s.heap.objs.size 0 .none → h'.IsTupleIter s.heap.objs.size t 0 → h'.objs.size = s.heap.objs.size + 2 →
      (∀ b o, s.heap.get? b = some o → h'.get? b = some o) → Q (.ref (s.heap.objs.size + 1)) { s with heap := h' }) :
    wpAny (model prog w) A (call (.type "enumerate") [.ref t]) Q E s := by
  refine callType_new F.called_enumerate (by decide) (F.typeCall_enumerate_1 _) (F.newCall_enumerate_1 _) (fun obj => F.args_object_init_2 obj _) F.entry_enumerate_new
    (meets_enum_T t items) ⟨h1, ?_⟩
  have hz : (s.heap.push { cls := .type "tuple_iterator", data := .fields #[.ref t, .int 0 0] }).objs.size = s.heap.objs.size + 1 := Heap.size_push ..
  show _ ∧ _
  rw [hz]
  have he : IsEnum ((s.heap.push { cls := .type "tuple_iterator", data := .fields #[.ref t, .int 0 0] }).push { cls := .type "enumerate", data := .fields #[.none, .bool false, .ref s.heap.objs.size, rawInt 0, .none, .none] }) (s.heap.objs.size + 1) s.heap.objs.size 0 .none := by
    have := Heap.get?_push_size (s.heap.push { cls := .type "tuple_iterator", data := .fields #[.ref t, .int 0 0] }) (o := { cls := .type "enumerate", data := .fields #[.none, .bool false, .ref s.heap.objs.size, rawInt 0, .none, .none] }) rfl
    rw [hz] at this; exact this
  exact ⟨⟨_, he, rfl⟩, h _ he ⟨_, Heap.get?_push_of_some _ (Heap.get?_push_size _ rfl), rfl, rfl⟩ (by rw [Heap.size_push, hz]) fun b o x => Heap.get?_push_of_some _ (Heap.get?_push_of_some _ x)⟩
/-- the tuple at a, each item in a new pair -/
def IteT (K : PySem.W.Frag) (a : Addr) : It :=
  ⟨fun i H => ∃ (xs : List V) (x : V), SqT K H a xs ∧ xs[i]? = some x, fun i H v H' => ∃ T x, v = .ref T ∧ H T = none ∧ H' = upd H T (.tup [.int (i : Nat), x]) ∧ ∀ xs, SqT K H a xs → xs[i]? = some x, fun i H => ∃ xs : List V, SqT K H a xs ∧ xs.length ≤ i⟩
theorem tup_inj {h : Heap} {a : Addr} {xs ys : Array Value} (p : h.IsTuple a xs) (q : h.IsTuple a ys) : xs = ys := by
  obtain ⟨o, e, _, n, d⟩ := p
  obtain ⟨o', e', _, n', d'⟩ := q
  rw [e] at e'; cases e'
  rw [d] at d'; cases d'; rfl
theorem turn_enumT {P : Program} {w : World} {K : PySem.W.Frag} {elts : List Expr} {kk : Nat} {tpos : Pos} (a e it : Addr) (ha : a ≠ it) (hae : a ≠ e) :
    Turn P w K (.Tuple elts kk tpos) (IteT K a) [e, it] e (fun i h => (∃ old, IsEnum h e it ((i : Nat) : Int) old) ∧ h.IsTupleIter it a i ∧ e ≠ it) where
  mem := by simp
  obj := fun i h st b hb => by
    obtain ⟨⟨old, he⟩, ⟨o, ho, hc, hd⟩, _⟩ := st
    have e' : b = e ∨ b = it := by simpa using hb
    rcases e' with z | z
    · rw [z]; exact ⟨_, he, fun v q => nomatch q⟩
    · rw [z]; exact ⟨o, ho, fun v q => by rw [hd] at q; cases q⟩
  keep := fun i h h' st k => let ⟨⟨old, he⟩, hi, hne⟩ := st; ⟨⟨old, k e (by simp) _ he⟩, hi.at fun o q => k it (by simp) o q, hne⟩
  item := by
    intro X hP hw hK hc i pins s σ H E I hf st hg
    subst hP hw hK
    obtain ⟨⟨old, he⟩, hit, hne⟩ := st
    obtain ⟨xs, x, hq, hx⟩ := hg
    obtain ⟨its, rv, p, hz⟩ := I.tuple hq
    obtain ⟨u, hu, ru⟩ := rv.get hx
    have hel : e < s.heap.objs.size := Heap.lt_size he
    have hil : it < s.heap.objs.size := by obtain ⟨_, q, _⟩ := hit; exact Heap.lt_size q
    have hlt : i < its.toArray.size := by
      have := (List.getElem?_eq_some_iff.mp hu).1
      simpa using this
    refine wpAny_pyNext_enum_itemD (Draws.tuple (A := X.A.in1) (prog := X.prog) (w := X.w) (I.ok.hd hc) it a ha its.toArray) he ⟨hit, p⟩ hlt hne (by simp [hne, Ne.symm hae]) fun y h' tk hy ho hit' hT hsz hk => ?_
    have ey : y = u := by
      have h1 : its.toArray[i]? = some u := by simpa using hu
      rw [h1] at hy; exact (Option.some.inj hy).symm
    subst ey
    refine ⟨_, rfl, wpAny_letOwnedTupleGo_enum (s := { s with heap := h', toks := tk + 1 }) ho fun h'' he' sb => ?_⟩
    have hT2 : h''.get? s.heap.objs.size = some { cls := .type "tuple", data := .seq #[.int i tk, y] } := (sb.2 _ (Nat.ne_of_gt hel)).trans hT
    have new : ObjOk X.prog X.w (upd H s.heap.objs.size (.tup [.int (i : Nat), x])) h'' s.heap.objs.size (.tup [.int (i : Nat), x]) :=
      ⟨by show 2 ≤ sizeLine; decide, [.int i tk, y], .cons ⟨_, rfl⟩ (.cons ru .nil), ⟨_, hT2, rfl, _, rfl⟩⟩
    have I1 : Inv X pins σ (upd H s.heap.objs.size (.tup [.int (i : Nat), x])) { s with heap := h'', toks := tk + 1 } :=
      I.turnedNew (ch := [e, it]) (fun b ob hb q => (sb.2 b (fun z => hb (by simp [z]))).trans (hk b ob (fun z => hb (by simp [z])) (fun z => hb (by simp [z])) q)) hf (Nat.le_refl _) new
    refine ⟨.ref s.heap.objs.size, _, I1, rfl, ⟨_, x, rfl, I.hok.fresh (Nat.le_refl _), rfl, fun ys hy => ?_⟩, ⟨⟨y, ?_⟩, hit'.1.at fun o q => (sb.2 it (Ne.symm hne)).trans q, hne⟩, fun b hb => ?_⟩
    · rw [I.tuple_inj hy hq]; exact hx
    · have e1 : ((i + 1 : Nat) : Int) = (i : Int) + 1 := by omega
      rw [e1]; exact he'
    · have hb' : b < s.heap.objs.size := by
        have e' : b = e ∨ b = it := by simpa using hb
        rcases e' with z | z
        · rw [z]; exact hel
        · rw [z]; exact hil
      rw [upd_ne (Nat.ne_of_lt hb')]
      exact (hf b hb).1
  done := by
    intro X hP hw hK hc i pins s σ H E I hf st hg
    subst hP hw hK
    obtain ⟨⟨old, he⟩, hit, hne⟩ := st
    obtain ⟨xs, hq, hx⟩ := hg
    obtain ⟨its, rv, p, hz⟩ := I.tuple hq
    obtain ⟨f0, f1, f2, f3, f4, f5⟩ := hf it (by simp)
    have hl := rv.length
    have hx2 : its.toArray[i]? = none := by simp; omega
    have hT : s.TypeIs (.ref e) "enumerate" := ⟨_, he, rfl⟩
    unfold pyNext
    refine wpAny_bind (wpAny_attempt (wpAny_callSpecial?_slot (name := Str.ofString "__next__") hT F.slot_enumerate_next
      (wpAny_call_entry F.slot_enumerate_next hT F.entry_enumerate_next ?_ (F.args_enumerate_next_1 _))))
    show wpAny _ _ (field (.ref e) 2 >>= _) _ _ _
    refine wpAny_bind (wpAny_field he rfl (x := .ref it) rfl ?_)
    refine wpAny_bind (wpAny_nextOf_tuple_end (A := X.A.in1) (I.ok.hd hc) hit p hx2 fun h' x he' hx' => ?_)
    obtain ⟨o, ho, hc'⟩ := hx'
    refine wpAny_bind (wpAny_isInstance (T := "StopIteration") (b := true) ⟨o, ho, hc'⟩ isSubtype_stop ?_)
    exact wpAny_pure ⟨rfl, I.turned (t' := s.toks) (fun b o hb q => he' b o hb q) f0 f1 f3 f4 f5⟩
  self := fun A i s Q E st h => let ⟨⟨_, he⟩, _⟩ := st; wpAny_pyIter_enum he h
def iEnumT (K : PySem.W.Frag) (ta : TA) : TI := fun σ H R => ta σ H fun vs H1 => ∃ a xs, vs = [.ref a] ∧ SqT K H1 a xs ∧ R (IteT K a) H1
theorem pi_enumT {X : Cx} {e : Expr} {ta : TA} {p pos tpos : Pos} {elts : List Expr} {kk : Nat} (hg : Gl X "enumerate") (hm : X.mg "enumerate" = none) (ha : PA X [e] ta) (hs : starEach [e] X.env = [(false, eval e X.env)] := by rfl) :
    PI X (.Tuple elts kk tpos) (.Call (.Name "enumerate" p) [e] [] pos) (iEnumT X.K ta) := by
  refine ⟨fun pins s σ H R I h => ?_⟩
  refine Call_ (ld_blt I hg hm boot_enumerate (PyProof.Rows.callWith_type1 (thn (ha.run pos pins s σ H _ I h) fun us s1 ⟨vs, H1, I1, r1, q1⟩ => ?_) hs rfl))
  obtain ⟨a, xs, ex, hq, q⟩ := q1
  subst ex
  cases r1 with
  | cons r rr =>
    cases rr
    cases r
    obtain ⟨its, rv, p', hz⟩ := I1.tuple hq
    have hal : a < s1.heap.objs.size := by obtain ⟨_, e, _⟩ := p'; exact Heap.lt_size e
    refine call_enumT p' fun h' he hit hsz hk => wpAny_pyIter_enum he ?_
    have I2 : Inv X pins σ H1 { s1 with heap := h' } := I1.kept (t' := s1.toks) hk
    refine ⟨s1.heap.objs.size + 1, [s1.heap.objs.size + 1, s1.heap.objs.size], _, _, H1, rfl, I2, turn_enumT a (s1.heap.objs.size + 1) s1.heap.objs.size (Nat.ne_of_lt hal) (Nat.ne_of_lt (Nat.lt_succ_of_lt hal)), ⟨⟨.none, he⟩, hit, Nat.succ_ne_self _⟩, fun b hb => ?_, q⟩
    have e' : b = s1.heap.objs.size + 1 ∨ b = s1.heap.objs.size := by simpa using hb
    have hle : s1.heap.objs.size ≤ b := by
      rcases e' with z | z
      · rw [z]; exact Nat.le_add_right _ _
      · rw [z]; exact Nat.le_refl _
    exact I1.fpOk hle (I1.hok.fresh hle)
theorem wk_enumT {K : PySem.W.Frag} {G : Hp} {a : Addr} {vs : List V} {ds : List D} (h : G a = some (.tup vs)) (hd : DaL K G vs ds) : Wk K G (IteT K a) (enm ds) := fun G1 H1 i e l => by
  have q : SqT K H1 a vs := SqT.of (l.at_ _ _ (e.go _ _ h) pot_tup)
  refine ⟨fun d hi => ?_, fun hi => ⟨vs, q, by rw [hd.1]; unfold enm at hi; simpa using hi⟩⟩
  unfold enm at hi
  rw [List.getElem?_mapIdx] at hi
  cases e1 : ds[i]? with
  | none => rw [e1] at hi; cases hi
  | some x =>
    rw [e1] at hi
    cases hi
    obtain ⟨v, hv, dv⟩ := hd.at_ e1
    refine ⟨⟨vs, v, q, hv⟩, fun z H2 ⟨T, x', ez, hT, eH, f1⟩ => ?_⟩
    subst ez eH
    have g1 := f1 vs q
    rw [hv] at g1; cases g1
    have t := Tr.new l hT (o := .tup [.int (i : Nat), v]) pot_tup
    exact ⟨_, t, .tup' (by rw [upd_same]) (DaL.cons (.int _) (DaL.cons (dv.mono (e.trans t.gg)) DaL.nil))⟩
section
variable {X : Cx} {ρ : Env}
theorem xi_enumT {a : Expr} {p pos tpos : Pos} {elts : List Expr} {kk : Nat} {ds : List D} (hm : X.mg "enumerate" = none) (h : XV X a ρ (.tup ds)) (hg : Gl X "enumerate" := by rfl) (hs : starEach [a] X.env = [(false, eval a X.env)] := by rfl) :
    XI X (.Tuple elts kk tpos) (.Call (.Name "enumerate" p) [a] [] pos) ρ (enm ds) :=
  pi_imp (pi_enumT hg hm (pa_cons h pa_nil hs) hs) fun σ H R ⟨G, H0, l, sl, k⟩ => ⟨G, H0, l, sl, fun G' H' v d t i s => by
    subst s
    cases i with
    | @tup p vs _ a b c => exact ⟨p, vs, rfl, SqT.of (t.ok.at_ _ _ a pot_tup), k G' H' _ t (wk_enumT a ⟨b, c⟩)⟩⟩
/-- a <= b <= c, of ints -/
theorem xv_le2 {a b c : Expr} {pos : Pos} {i j k : Int} (ha : XV X a ρ (.int i)) (hb : XV X b ρ (.int j)) (hc : XV X c ρ (.int k)) (hm : lastMarks [.LtE, .LtE] [b, c] = false := by with_unfolding_all rfl) : XV X (.Compare a [.LtE, .LtE] [b, c] pos) ρ (.bl (decide (i ≤ j) && decide (j ≤ k))) :=
  pe_imp (pe_chain op_le op_le ha hb hc hm) fun σ H Q ⟨G, H0, l, sl, kk⟩ => ⟨G, H0, l, sl, fun G1 H1 v d t1 i1 s1 => ⟨G1, H0, t1.ok, sl.mono t1, fun G2 H2 u e t2 i2 s2 => by
    subst s1 s2
    cases i1; cases i2
    refine ⟨i, j, rfl, rfl, _, rfl, ?_⟩
    by_cases h : i ≤ j
    · rw [if_pos (by simpa using h)]
      refine ⟨G2, H0, t2.ok, (sl.mono t1).mono t2, fun G3 H3 w f t3 i3 s3 => ?_⟩
      subst s3
      cases i3
      refine ⟨j, k, rfl, rfl, kk G3 H3 _ _ ((t1.trans t2).trans t3) (Is.of (.bl _)) ?_⟩
      rw [decide_eq_true h, Bool.true_and]
    · rw [if_neg (by simpa using h)]
      exact kk G2 H2 _ _ (t1.trans t2) (Is.of (.bl _)) (by rw [decide_eq_false h, Bool.false_and])⟩⟩
end
end NL

/-! text P18 -/
set_option Elab.async false
set_option linter.all false
set_option maxRecDepth 100000
set_option maxHeartbeats 4000000
/-! is_told, told_telling, made_table, is_doable. -/
namespace NL
open PySem PySem.Spec L2
open PyProof.Rows (envOfC)
section
variable {X : Cx} {ρ : Env} {pos : Pos}
/-- a test reckoned with an own list known for the while -/
theorem xt_snapO {e : Expr} {b : Bool} {ds : List D} (i : Nat) (hi : ρ[i]? = some (some (.ol ds))) (h : XT X e (ρ.set i (some (.lst ds))) (fun z => z = b)) : XT X e ρ (fun z => z = b) := by
  refine pt_imp h fun σ H Q ⟨G, H0, le, sl, k⟩ => ?_
  obtain ⟨v, hv, p, vs, rfl, h0, hg, hp, hd⟩ := sl.at_ i _ hi
  have e2 : Ex G (upd G p (.lst vs)) := Ex.upd hg
  have d2 : Da X.K (upd G p (.lst vs)) (.ref p) (.lst ds) := .lst' (by rw [upd_same]) (hd.mono e2)
  have le2 : Le (upd G p (.lst vs)) H := ⟨fun a u q n => by
    by_cases e : a = p
    · subst e; rw [upd_same] at q; rw [hp]; exact q
    · rw [upd_ne e] at q; exact le.at_ a u q n, fun a q => by
    by_cases e : a = p
    · subst e; rw [upd_same] at q; exact absurd (Option.some.inj q) pot_lst
    · rw [upd_ne e] at q; exact le.pot a q⟩
  have sl2 : Sl X.K H0 (upd G p (.lst vs)) H σ (ρ.set i (some (.lst ds))) := by
    refine ⟨by simp [sl.len], fun j e he => ?_, fun j k d1 e1 q hjk h1 h2 n1 n2 h3 h4 => ?_⟩
    · rw [List.getElem?_set] at he
      by_cases hij : i = j
      · rw [if_pos hij] at he
        by_cases hl : i < ρ.length
        · rw [if_pos hl] at he; cases he
          exact ⟨_, hij ▸ hv, Is.of d2⟩
        · rw [if_neg hl] at he; cases he
      · rw [if_neg hij] at he
        obtain ⟨u, hu, iu⟩ := sl.at_ j e he
        refine ⟨u, hu, ?_⟩
        cases e with
        | ol es =>
          obtain ⟨q, ws, rfl, a, b, c, d⟩ := iu
          have hpq : q ≠ p := fun z => by
            subst z
            exact sl.sep i j _ _ q hij hi he rfl rfl hv hu
          exact ⟨q, ws, rfl, a, by rw [upd_ne hpq]; exact b, c, d.mono e2⟩
        | ob q C fs =>
          obtain ⟨rfl, a, b, ws, c⟩ := iu
          have hpq : q ≠ p := fun z => by subst z; rw [hp] at c; cases c
          exact ⟨rfl, a, by rw [upd_ne hpq]; exact b, ws, c⟩
        | _ => exact Is.of (Da.mono e2 iu)
    · rw [List.getElem?_set] at h1 h2
      by_cases a : i = j
      · rw [if_pos a] at h1
        by_cases hl : i < ρ.length
        · rw [if_pos hl] at h1; cases h1; cases n1
        · rw [if_neg hl] at h1; cases h1
      · rw [if_neg a] at h1
        by_cases b : i = k
        · rw [if_pos b] at h2
          by_cases hl : i < ρ.length
          · rw [if_pos hl] at h2; cases h2; cases n2
          · rw [if_neg hl] at h2; cases h2
        · rw [if_neg b] at h2
          exact sl.sep j k d1 e1 q hjk h1 h2 n1 n2 h3 h4
  refine ⟨_, H0, le2, sl2, fun G3 H3 z t3 s3 => ?_⟩
  have t3' : Tr (upd (upd G p (.lst vs)) p (.lst vs)) H G3 H3 := by
    have e : upd (upd G p (.lst vs)) p (.lst vs) = upd G p (.lst vs) := by
      funext x
      by_cases h : x = p
      · subst h; rw [upd_same, upd_same]
      · rw [upd_ne h]
    rw [e]; exact t3
  exact k _ H3 z (Tr.minus hg hg t3' pot_lst pot_lst) s3
end
variable {P : Program} {w : World} {K : PySem.W.Frag} {mg : Str → Option Value} {base : Heap}
def R_is_told : Rel := fun ds T => ∃ t : Told, ds = [toldD t] ∧ PtOk t.1 ∧ 1 ≤ t.2.length ∧ t.2.length ≤ 2 ∧ T = fun z => z = .bl true
theorem ok_is_told (T : Tx P K mg) : Fk P w K mg base "is_told" 38 R_is_told := by
  obtain ⟨fd, F⟩ := T.F_is_told
  refine mkFk F sc_is_told T.g_is_told ?_ ?_ (fun _ _ _ _ _ _ us hl => match us, hl with | [_], _ => rfl)
  · rintro ds S ⟨t, rfl, _⟩; rfl
  · rintro cdv A outer s H E hr ds S ⟨t, rfl, hp, h1, h2, rfl⟩
    have hnd := sc_is_told.nd
    refine xss_no (xt_to (xt_or (c := false) (xt_to (xt_not (xt_val (xv_isi (u := .b "tuple") T (xv_var 0) (xv_ty (n := "tuple") T.b_tuple) rfl rfl))) rfl) fun _ => xt_or (c := false) (xt_to (xt_ne (xv_len T.b_len (xv_var 0) rfl) xv_int) rfl) fun _ => xt_or (c := false) (xt_to (xt_not (xt_val (xv_call (ok_is_point T) hr (xva_cons (xv_ixT (xv_var 0) xv_int rfl) xva_nil) ⟨t.1, 3, rfl, by decide, by decide, hp.bd, rfl⟩))) (by rw [decide_eq_true hp.lt]; rfl)) fun _ => pw_or1 (xt_to (xt_not (xt_val (xv_call (ok_is_list T) (hr.mono (by decide)) (xva_cons (xv_ixT (xv_var 0) xv_int rfl) xva_nil) ⟨_, rfl, rfl, rfl⟩))) (show _ = false from rfl))).pt rfl) ?_
    have e1 : (decide ((1 : Int) ≤ ((t.2.map D.num).length : Nat)) && decide ((((t.2.map D.num).length : Nat) : Int) ≤ 4)) = true := by
      rw [List.length_map, decide_eq_true (by omega), decide_eq_true (by omega)]; rfl
    refine xss_one (xs_retv (xv_to (xe_and (c := true) (d := true) (xv_to (xv_le2 xv_int (xv_len T.b_len (xv_ixT (xv_var 0) xv_int rfl) rfl) (xv_globI T.MOST_TOLD)) (congrArg D.bl e1)) fun _ => xe_one (xv_to (xv_all (bs := (t.2.map D.num).map fun _ => true) rfl T.b_all (xv_of_xf (xf_imp (xf_map (own := [("number", 1)]) (τ := tName 1) (ds := t.2.map D.num) (fun _ => .bl true) rfl hnd (xi_list (xv_ixT (xv_var 0) xv_int rfl)) (blk_ok rfl (by rfl)) (fun _ _ _ _ _ => xg_name 1 hnd) (by rw [List.length_map]; omega) ?_) fun z e => e.trans (by simp only [List.map_map]; rfl)))) (congrArg D.bl ?_))) rfl) ⟨rfl, rfl⟩)
    · intro d hd
      obtain ⟨x, _, rfl⟩ := List.mem_map.mp hd
      exact ⟨_, rfl, rfl, fun _ _ _ _ _ => xv_call (ok_is_value T) (hr.mono (by decide)) (xva_cons (xv_var 1) xva_nil) ⟨_, rfl, rfl, rfl⟩⟩
    · rw [List.all_map]; exact List.all_eq_true.mpr fun _ _ => rfl
/-! ### told_telling -/
def R_told_telling : Rel := fun ds T => ∃ (ts : List Told) (d : D), ds = [d] ∧ (d = .lst (ts.map toldD) ∨ d = .tup (ts.map toldD)) ∧ TsOk ts ∧ ts ≠ [] ∧ (ts.map (·.1)).Nodup ∧ T = fun z => z = toldsD ts
theorem told_at {ts : List Told} {i : Nat} {d : D} (h : (ts.map toldD)[i]? = some d) : ∃ t, ts[i]? = some t ∧ d = toldD t := by
  rw [List.getElem?_map] at h
  obtain ⟨n, h1, h2⟩ := Option.map_eq_some_iff.mp h
  exact ⟨n, h1, h2.symm⟩
theorem ok_told_telling (T : Tx P K mg) : Fk P w K mg base "told_telling" 39 R_told_telling := by
  obtain ⟨fd, F⟩ := T.F_told_telling
  refine mkFk F sc_told_telling T.g_told_telling ?_ ?_ (fun _ _ _ _ _ _ us hl => match us, hl with | [_], _ => rfl)
  · rintro ds S ⟨ts, d, rfl, _⟩; rfl
  · rintro cdv A outer s H E hr ds S ⟨ts, d, rfl, hd, ok, hne, nd, rfl⟩
    have hnd := sc_told_telling.nd
    have hlen := ok.len
    have hpos : 0 < ts.length := List.length_pos_iff.mpr hne
    have okd : okD d = true := by rcases hd with rfl | rfl <;> rfl
    have nod : noOl d = true := by rcases hd with rfl | rfl <;> rfl
    have isl : isLst d = true := by rcases hd with rfl | rfl <;> rfl
    have itm : itemsOf d = some (ts.map toldD) := by rcases hd with rfl | rfl <;> rfl
    refine xss_no (xt_to (xt_or (c := false) (d := false) (xt_to (xt_not (xt_val (xv_call (ok_is_list T) (hr.mono (by decide)) (xva_cons (xv_var 0) xva_nil) ⟨d, rfl, okd, rfl⟩ (by rw [List.all_cons, nod]; rfl)))) (by rw [isl]; rfl)) fun _ => pw_or1 (xt_to (xt_eq (xv_len T.b_len (xv_var 0) itm) xv_int) (decide_eq_false (by rw [List.length_map]; omega)))).pt rfl) ?_
    refine xss_setF 1 hnd (xf_lst xva_nil) ?_
    refine xss_cons (M := fun ρ => ∃ o2 o3 o4 o5 o6 o7, ρ = [some d, some (.ol (ts.map toldD)), o2, o3, o4, o5, o6, o7]) (xs_for (L := [2, 3]) PassesOwn.never rfl (ds := enm (ts.map toldD)) ?xi (xg_pair 2 3 rfl hnd) (fun i ρ => ∃ o2 o3 o4 o5 o6 o7, ρ = [some d, some (.ol ((ts.take i).map toldD)), o2, o3, o4, o5, o6, o7]) ⟨none, none, none, none, none, none, rfl⟩ ?_ ?_) ?_
    case xi =>
      rcases hd with rfl | rfl
      · exact xi_enum T.b_enumerate (xv_var 0)
      · exact xi_enumT T.b_enumerate (xv_var 0)
    · rintro i z ρ1 hz ⟨o2, o3, o4, o5, o6, o7, rfl⟩
      obtain ⟨e, he, rfl⟩ := enm_at hz
      obtain ⟨t, ht, rfl⟩ := told_at he
      have tm := List.mem_of_getElem? ht
      have hf := ok.few t tm
      refine ⟨_, ⟨_, _, rfl, rfl⟩, ?_⟩
      refine xss_no (xt_to (xt_not (xt_val (xv_call (ok_is_told T) hr (xva_cons (xv_var 3) xva_nil) ⟨t, rfl, ok.pt t tm, hf.1, hf.2, rfl⟩))) rfl) ?_
      refine xss_set 4 hnd (d := .num t.1) (xv_call (ok_twin_of T) (hr.mono (by decide)) (xva_cons (xv_ixT (xv_var 3) xv_int rfl) xva_nil) ⟨_, rfl, rfl⟩) ?_
      have hno : (((ts.take i).map toldD).map fun d => match d with | .tup [.num x, _] => decide (t.1 = x) | _ => false).any _root_.id = false := by
        rw [List.map_map, List.any_map]
        refine List.any_eq_false.mpr fun u hu => ?_
        show ¬ (decide (t.1 = u.1) = true)
        intro h
        have h := of_decide_eq_true h
        obtain ⟨j, hj⟩ := List.getElem?_of_mem hu
        rw [List.getElem?_take] at hj
        split at hj
        · rename_i hji
          have a1 : (ts.map (·.1))[i]? = some t.1 := by rw [List.getElem?_map, ht]; rfl
          have a2 : (ts.map (·.1))[j]? = some t.1 := by rw [List.getElem?_map, hj, h]; rfl
          have := nodup_at nd a1 a2
          omega
        · cases hj
      refine xss_no (xt_snapO 1 rfl (xt_to (xt_val (xv_any (bs := ((ts.take i).map toldD).map fun d => match d with | .tup [.num x, _] => decide (t.1 = x) | _ => false) rfl T.b_any (xv_of_xf (xf_imp (xf_map (own := [("other", 5), ("numbers", 6)]) (τ := tPair 5 6) (ds := (ts.take i).map toldD) (fun d => .bl (match d with | .tup [.num x, _] => decide (t.1 = x) | _ => false)) rfl hnd (xi_list (xv_var 1)) (blk_ok rfl (by rfl)) (fun _ _ _ _ _ => xg_pair 5 6 rfl hnd) (by simp; omega) ?_) fun z e => e.trans (by simp only [List.map_map]; rfl))))) hno)) ?_
      · intro d hd
        obtain ⟨u, hu, rfl⟩ := List.mem_map.mp hd
        exact ⟨_, ⟨_, _, rfl, rfl⟩, rfl, fun _ _ _ _ _ => xv_teq (ok_twin_eq T) (hr.mono (by decide)) (xv_var 4) (xv_var 5)⟩
      refine xss_one (xs_append 1 rfl (S := fun z => z = toldD t) (xv_tup (xva_cons (xv_var 4) (xva_cons (xv_to (xv_of_xf (xf_map (own := [("number", 7)]) (τ := tName 7) (ds := t.2.map D.num) (fun d => d) rfl hnd (xi_list (xv_ixT (xv_var 3) xv_int rfl)) (blk_ok rfl (by rfl)) (fun _ _ _ _ _ => xg_name 7 hnd) (by rw [List.length_map]; omega) ?_)) (congrArg D.lst (List.map_id' _))) xva_nil))) (fun _ e => ⟨by rw [e]; rfl, ?_⟩) ?_)
      · intro d hd
        obtain ⟨x, _, rfl⟩ := List.mem_map.mp hd
        exact ⟨_, rfl, rfl, fun _ _ _ _ _ => xv_call (ok_twin_of T) (hr.mono (by decide)) (xva_cons (xv_var 7) xva_nil) ⟨_, rfl, rfl⟩⟩
      · subst e
        refine ⟨some (.int (i : Nat)), some (toldD t), some (.num t.1), o5, o6, o7, ?_⟩
        rw [List.take_add_one, ht, List.map_append]; rfl
      · rw [List.length_map, List.length_take]; omega
    · rintro ρ1 ⟨o2, o3, o4, o5, o6, o7, rfl⟩
      refine ⟨o2, o3, o4, o5, o6, o7, ?_⟩
      rw [enm_len, List.length_map, List.take_length]
    · rintro ρ1 ⟨o2, o3, o4, o5, o6, o7, rfl⟩
      refine xss_frz 1 rfl ?_
      have htot := ok.tot
      refine xss_seq (xs_expr (xv_call (ok_want_at_most T) (hr.mono (by decide)) (xva_cons xv_str (xva_cons (xv_globI T.MOST_ANSWERS) (xva_cons (xv_len T.b_len (xv_call (ok_spots_of T) (hr.mono (by decide)) (xva_cons (xv_var 1) xva_nil) ⟨ts, rfl, ok, rfl⟩) rfl) xva_nil))) ⟨_, _, _, rfl, by rw [List.length_map]; omega, rfl⟩) rfl) ?_
      exact xss_one (xs_retv (xv_var 1) ⟨rfl, rfl⟩)
def TelOk (ts : List Told) (d : D) : Prop := (d = .lst (ts.map toldD) ∨ d = .tup (ts.map toldD)) ∧ TsOk ts ∧ ts ≠ [] ∧ (ts.map (·.1)).Nodup
theorem TelOk.no {ts : List Told} {d : D} (h : TelOk ts d) : noOl d = true := by rcases h.1 with rfl | rfl <;> rfl
def R_made_table : Rel := fun ds T => ∃ (ts : List Told) (d : D), ds = [d] ∧ TelOk ts d ∧ T = fun z => z = matD (tableM ts)
theorem ok_made_table (T : Tx P K mg) : Fk P w K mg base "made_table" 43 R_made_table := by
  obtain ⟨fd, F⟩ := T.F_made_table
  refine mkFk F sc_made_table T.g_made_table ?_ ?_ (fun _ _ _ _ _ _ us hl => match us, hl with | [_], _ => rfl)
  · rintro ds S ⟨ts, d, rfl, _⟩; rfl
  · rintro cdv A outer s H E hr ds S ⟨ts, d, rfl, hd, rfl⟩
    obtain ⟨h1, h2, h3, h4⟩ := id hd
    exact xss_one (xs_retv (xv_call (ok_table_of T) hr (xva_cons (xv_call (ok_told_telling T) (hr.mono (by decide)) (xva_cons (xv_var 0) xva_nil) ⟨ts, d, rfl, h1, h2, h3, h4, rfl⟩ (by rw [List.all_cons, hd.no]; rfl)) xva_nil) ⟨ts, rfl, h2, rfl⟩) ⟨rfl, rfl⟩)
def R_is_doable : Rel := fun ds T => ∃ (ts : List Told) (d : D), ds = [d] ∧ TelOk ts d ∧ T = fun z => z = .bl (sqOf (tableM ts))
theorem ok_is_doable (T : Tx P K mg) : Fk P w K mg base "is_doable" 45 R_is_doable := by
  obtain ⟨fd, F⟩ := T.F_is_doable
  refine mkFk F sc_is_doable T.g_is_doable ?_ ?_ (fun _ _ _ _ _ _ us hl => match us, hl with | [_], _ => rfl)
  · rintro ds S ⟨ts, d, rfl, _⟩; rfl
  · rintro cdv A outer s H E hr ds S ⟨ts, d, rfl, hd, rfl⟩
    obtain ⟨h1, h2, h3, h4⟩ := id hd
    obtain ⟨s1, b1⟩ := tableM_ok h2
    exact xss_one (xs_retv (xv_call (ok_is_never T) hr (xva_cons (xv_call (ok_made_table T) (hr.mono (by decide)) (xva_cons (xv_var 0) xva_nil) ⟨ts, d, rfl, hd, rfl⟩ (by rw [List.all_cons, hd.no]; rfl)) xva_nil) ⟨_, _, rfl, s1, b1, h2.tot, rfl⟩) ⟨rfl, rfl⟩)
end NL

/-! text DL17 -/
set_option Elab.async false
set_option linter.all false
set_option maxRecDepth 100000
set_option maxHeartbeats 4000000
/-! The D-layer: lists and tuples alike. -/
namespace NL
open PySem PySem.Spec L2
section
variable {X : Cx} {ρ : Env} {pos p : Pos} {a b : Expr}
/-- over a list or a tuple -/
theorem xi_items {tg e : Expr} {d : D} {ds : List D} (n : noOl d = true) (it : itemsOf d = some ds) (h : XV X e ρ d) : XI X tg e ρ ds := by
  cases d with
  | lst es => cases it; exact xi_list h
  | tup es => cases it; exact xi_tup h
  | ol es => cases n
  | _ => cases it
/-- d with other items -/
def likeD : D → List D → D
  | .tup _, es => .tup es
  | _, es => .lst es
theorem like_items (d : D) (es : List D) : itemsOf (likeD d es) = some es := by cases d <;> rfl
theorem like_no (d : D) (es : List D) : noOl (likeD d es) = true := by cases d <;> rfl
/-- d[lo:hi], of a list or a tuple -/
theorem xv_slA {lo hi : Option Expr} {l h : Option Int} {p2 : Pos} {d : D} {ds : List D} (n : noOl d = true) (it : itemsOf d = some ds) (ha : XV X a ρ d) (hl : XO X lo ρ l) (hh : XO X hi ρ h) : XV X (.Subscript a (.Slice lo hi none p2) pos) ρ (likeD d (cutD ds l h)) := by
  cases d with
  | lst es => cases it; exact xe_of_xf (xf_sl ha hl hh rfl) fun _ e => by rw [e]; rfl
  | ol es => cases n
  | tup es =>
    cases it
    refine pe_imp (pe_slice sl_tupA ha hl hh) fun σ H Q ⟨G, H0, le, sl, k⟩ => ⟨G, H0, le, sl, fun G1 H1 v d t1 i1 s1 => ⟨G1, H0, t1.ok, sl.mono t1, fun G2 H2 t2 => ⟨G2, H0, t2.ok, sl.mono (t1.trans t2), fun G3 H3 t3 => ?_⟩⟩⟩
    subst s1
    have da := Da.mono (t2.trans t3).gg (show Da X.K G1 v (.tup ds) from i1)
    cases id da with
    | @tup q1 vs _ e1 e2 e3 =>
      have t := (t1.trans t2).trans t3
      refine ⟨q1, vs, rfl, SqT.of (t3.ok.at_ _ _ e1 pot_tup), fun hw => ?_, fun hw p hp => ?_⟩
      · rw [e2] at hw
        have e : cutD ds l h = ds := by
          unfold cutD
          rw [hw.1, hw.2]; simp
        exact k G3 _ _ _ t (Is.of (show Da X.K G3 (.ref q1) (likeD (.tup ds) (cutD ds l h)) by rw [e]; exact da)) rfl
      · have tn := Tr.new t3.ok hp (o := .tup (cutV vs l h)) pot_tup
        exact k _ _ _ _ (t.trans tn) (Is.of (.tup' upd_same ((cut_dal ⟨e2, e3⟩ l h).mono tn.gg))) rfl
  | _ => cases it
theorem wk_zipT {K : PySem.W.Frag} {G : Hp} {a b : Addr} {vs ws : List V} {ds es : List D} (h : G a = some (.tup vs)) (hd : DaL K G vs ds) (h' : G b = some (.tup ws)) (hd' : DaL K G ws es) : Wk K G (RZ.ItzT K a b) (ds.zipWith (fun x y => .tup [x, y]) es) := fun G1 H1 i e l => by
  have q : SqT K H1 a vs := SqT.of (l.at_ _ _ (e.go _ _ h) pot_tup)
  have q' : SqT K H1 b ws := SqT.of (l.at_ _ _ (e.go _ _ h') pot_tup)
  refine ⟨fun d hi => ?_, fun hi => ⟨vs, ws, q, q', by rw [hd.1, hd'.1]; rw [List.length_zipWith] at hi; omega⟩⟩
  rw [List.getElem?_zipWith] at hi
  cases e1 : ds[i]? with
  | none => rw [e1] at hi; cases hi
  | some x =>
    cases e2 : es[i]? with
    | none => rw [e1, e2] at hi; cases hi
    | some y =>
      rw [e1, e2] at hi
      cases hi
      obtain ⟨v, hv, dv⟩ := hd.at_ e1
      obtain ⟨u, hu, du⟩ := hd'.at_ e2
      refine ⟨⟨vs, ws, v, u, q, q', hv, hu⟩, fun z H2 ⟨T, x', y', ez, hT, eH, f1, f2⟩ => ?_⟩
      subst ez eH
      have g1 := f1 vs q
      have g2 := f2 ws q'
      rw [hv] at g1; rw [hu] at g2; cases g1; cases g2
      have t := Tr.new l hT (o := .tup [v, u]) pot_tup
      exact ⟨_, t, .tup' (by rw [upd_same]) (DaL.cons (dv.mono (e.trans t.gg)) (DaL.cons (du.mono (e.trans t.gg)) DaL.nil))⟩
/-- zip(d, e), both lists or both tuples -/
theorem xi_zipA {tpos : Pos} {elts : List Expr} {kk : Nat} {d : D} {ds es : List D} (n : noOl d = true) (it : itemsOf d = some ds) (hm : X.mg "zip" = none) (h : XV X a ρ d) (h' : XV X b ρ (likeD d es)) (hg : Gl X "zip" := by rfl)
    (hs : starEach [a, b] X.env = (false, eval a X.env) :: starEach [b] X.env := by rfl) (hs2 : starEach [b] X.env = (false, eval b X.env) :: starEach [] X.env := by rfl) (hpl : (backTo pos (starEach [b] X.env)).any (·.1) = false := by rfl) :
    XI X (.Tuple elts kk tpos) (.Call (.Name "zip" p) [a, b] [] pos) ρ (ds.zipWith (fun x y => .tup [x, y]) es) := by
  refine pi_imp (RZ.pi_zipA hg hm (pa_cons h (pa_cons h' pa_nil hs2) hs) hs hpl) fun σ H R ⟨G, H0, l, sl, k⟩ => ⟨G, H0, l, sl, fun G' H' v d t i s => ⟨G', H0, t.ok, sl.mono t, fun G2 H2 u e t2 i2 s2 => ?_⟩⟩
  subst s s2
  have i1 := (i.da n).mono t2.gg
  have j2 := i2.da (like_no _ _)
  cases d with
  | lst xs =>
    cases it
    cases i1 with
    | @lst p vs _ a b c =>
      cases j2 with
      | @lst q ws _ a' b' c' => exact ⟨p, q, vs, ws, rfl, .inl ⟨SqL.of (t2.ok.at_ _ _ a pot_lst), SqL.of (t2.ok.at_ _ _ a' pot_lst), k G2 H2 _ (t.trans t2) (wk_zip a ⟨b, c⟩ a' ⟨b', c'⟩)⟩⟩
  | tup xs =>
    cases it
    cases i1 with
    | @tup p vs _ a b c =>
      cases j2 with
      | @tup q ws _ a' b' c' => exact ⟨p, q, vs, ws, rfl, .inr ⟨SqT.of (t2.ok.at_ _ _ a pot_tup), SqT.of (t2.ok.at_ _ _ a' pot_tup), k G2 H2 _ (t.trans t2) (wk_zipT a ⟨b, c⟩ a' ⟨b', c'⟩)⟩⟩
  | ol xs => cases n
  | _ => cases it
/-- tuple(xs) -/
theorem xv_tupleOf {d : D} {ds : List D} (hm : X.mg "tuple" = none) (ha : XV X a ρ d) (n : noOl d = true) (e : itemsOf d = some ds) (hg : Gl X "tuple" := by rfl) (he : starEach [a] X.env = (false, eval a X.env) :: starEach [] X.env := by rfl) (hpl : (backTo pos (starEach [] X.env)).any (·.1) = false := by rfl) : XV X (.Call (.Name "tuple" p) [a] [] pos) ρ (.tup ds) :=
  pe_imp (pe_callTy call_tuple_of hg hm (by decide +kernel) (pa_cons ha pa_nil he) (by decide) (by decide) he hpl) fun σ H Q ⟨G, H0, l, sl, k⟩ => ⟨G, H0, l, sl, fun G1 H1 v z t1 i1 s1 => by
    subst s1
    have da := i1.da n
    cases z with
    | lst xs =>
      cases e
      cases da with
      | @lst q vs _ e1 e2 e3 =>
        refine ⟨q, vs, rfl, .inl ⟨SqL.of (t1.ok.at_ _ _ e1 pot_lst), fun p hp => ?_⟩⟩
        have tn := Tr.new t1.ok hp (o := .tup vs) pot_tup
        exact k _ _ _ _ (t1.trans tn) (Is.of (.tup' upd_same (DaL.mono tn.gg ⟨e2, e3⟩))) rfl
    | tup xs =>
      cases e
      cases id da with
      | @tup q vs _ e1 e2 e3 => exact ⟨q, vs, rfl, .inr ⟨SqT.of (t1.ok.at_ _ _ e1 pot_tup), k G1 H1 _ _ t1 (Is.of da) rfl⟩⟩
    | ol xs => cases n
    | _ => cases e⟩
end
end NL

/-! text P19 -/
set_option Elab.async false
set_option linter.all false
set_option maxRecDepth 100000
set_option maxHeartbeats 4000000
/-! Lots: is_lot, is_let, is_doable_lot, is_part. -/
namespace NL
open PySem PySem.Spec L2
open PyProof.Rows (envOfC)
/-! ### sub-tellings -/
structure LotOk (n : Nat) (lot : List Nat) : Prop where
  inc : lot.Pairwise (· < ·)
  lt : ∀ p ∈ lot, p < n
theorem sub_range' : ∀ (n a : Nat) (lot : List Nat), lot.Pairwise (· < ·) → (∀ p ∈ lot, a ≤ p ∧ p < a + n) → lot.Sublist (List.range' a n)
  | 0, a, lot, _, h => by
    cases lot with
    | nil => exact List.Sublist.slnil
    | cons p l => have := h p (List.mem_cons_self ..); omega
  | n + 1, a, lot, hp, h => by
    rw [List.range'_succ]
    cases lot with
    | nil => exact List.nil_sublist _
    | cons p l =>
      obtain ⟨h1, h2⟩ := List.pairwise_cons.mp hp
      have hpa := h p (List.mem_cons_self ..)
      by_cases e : p = a
      · subst e
        refine List.Sublist.cons_cons _ (sub_range' n (p + 1) l h2 fun q hq => ?_)
        have a1 := h1 q hq
        have a2 := h q (List.mem_cons_of_mem _ hq)
        omega
      · refine List.Sublist.cons _ (sub_range' n (a + 1) (p :: l) hp fun q hq => ?_)
        have a2 := h q hq
        rcases List.mem_cons.mp hq with rfl | hq
        · omega
        · have a1 := h1 q hq
          omega
theorem LotOk.sub {n : Nat} {lot : List Nat} (h : LotOk n lot) : lot.Sublist (List.range n) := by
  rw [List.range_eq_range']
  exact sub_range' n 0 lot h.inc fun p hp => ⟨Nat.zero_le _, by have := h.lt p hp; omega⟩
theorem tAt_range (ts : List Told) : (List.range ts.length).map (tAt ts) = ts := by
  apply List.ext_getElem?
  intro i
  rw [List.getElem?_map]
  by_cases h : i < ts.length
  · rw [List.getElem?_range h, List.getElem?_eq_getElem h]
    show some _ = _
    rw [tAt_get h]
  · rw [List.getElem?_eq_none (by simpa using h), List.getElem?_eq_none (by omega)]; rfl
def subT (ts : List Told) (lot : List Nat) : List Told := lot.map (tAt ts)
theorem subT_sub {ts : List Told} {lot : List Nat} (h : LotOk ts.length lot) : (subT ts lot).Sublist ts := by
  have := h.sub.map (tAt ts)
  rw [tAt_range] at this
  exact this
theorem spots_len (ts : List Told) : (spots ts).length = (ts.map fun t => t.2.length).sum := by
  unfold spots
  rw [List.length_flatMap]
  congr 1
  have : (List.range ts.length).map (fun p => ((List.range (tAt ts p).2.length).map fun k => (p, k)).length) = ((List.range ts.length).map (tAt ts)).map fun t => t.2.length := by
    rw [List.map_map]
    refine List.map_congr_left fun p _ => ?_
    simp
  rw [this, tAt_range]
theorem sum_sub {f : Told → Nat} {a b : List Told} (h : a.Sublist b) : (a.map f).sum ≤ (b.map f).sum := by
  induction h with
  | slnil => exact Nat.le_refl _
  | cons x _ ih => rw [List.map_cons, List.sum_cons]; omega
  | cons_cons x _ ih => rw [List.map_cons, List.map_cons, List.sum_cons, List.sum_cons]; omega
theorem TsOk.sub {a b : List Told} (h : a.Sublist b) (ok : TsOk b) : TsOk a where
  len := Nat.le_trans h.length_le ok.len
  pt := fun t ht => ok.pt t (h.subset ht)
  few := fun t ht => ok.few t (h.subset ht)
  bd := fun t ht => ok.bd t (h.subset ht)
  tot := by
    have := ok.tot
    rw [spots_len] at this ⊢
    exact Nat.le_trans (sum_sub h) this
variable {P : Program} {w : World} {K : PySem.W.Frag} {mg : Str → Option Value} {base : Heap}
/-! ### is_let -/
def natL (lot : List Nat) : List D := lot.map fun (n : Nat) => D.int (n : Int)
def letP (ts : List Told) (lot : List Nat) : Bool := lot.isEmpty || sqOf (tableM (subT ts lot))
def R_is_let : Rel := fun ds T => ∃ (ts : List Told) (d : D) (lot : List Nat), ds = [toldsD ts, d] ∧ noOl d = true ∧ itemsOf d = some (natL lot) ∧ LotOk ts.length lot ∧ TsOk ts ∧ T = fun z => z = .bl (letP ts lot)
theorem ok_is_let (T : Tx P K mg) : Fk P w K mg base "is_let" 45 R_is_let := by
  obtain ⟨fd, F⟩ := T.F_is_let
  refine mkFk F sc_is_let T.g_is_let ?_ ?_ (fun _ _ _ _ _ _ us hl => match us, hl with | [_, _], _ => rfl)
  · rintro ds S ⟨ts, d, lot, rfl, _⟩; rfl
  · rintro cdv A outer s H E hr ds S ⟨ts, d, lot, rfl, hno, hit, hl, ok, rfl⟩
    have hnd := sc_is_let.nd
    have ok' := TsOk.sub (subT_sub hl) ok
    obtain ⟨s1, b1⟩ := tableM_ok ok'
    have e0 : decide ((((natL lot).length : Nat) : Int) = 0) = lot.isEmpty := by
      unfold natL
      cases lot <;> simp
      omega
    have hlen : (natL lot).length ≤ 10000 := by
      have := hl.sub.length_le
      have := ok.len
      simp [natL] at *
      omega
    refine xss_one (xs_retv (xv_to (xe_or (xv_eq (xv_len T.b_len (xv_var 1) hit) xv_int) fun _ => xe_one (xv_call (ok_is_never T) hr (xva_cons (xv_call (ok_table_of T) (hr.mono (by decide)) (xva_cons (xv_to (d' := toldsD (subT ts lot)) (xv_of_xf (xf_map (own := [("position", 2)]) (τ := tName 2) (ds := natL lot) (fun d => match d with | .int i => toldD (tAt ts i.toNat) | _ => .non) rfl hnd (xi_items hno hit (xv_var 1)) (blk_ok rfl (by rfl)) (fun _ _ _ _ _ => xg_name 2 hnd) hlen ?_)) (congrArg D.lst ?_)) xva_nil) ⟨_, rfl, ok', rfl⟩) xva_nil) ⟨_, _, rfl, s1, b1, ok'.tot, rfl⟩)) (congrArg D.bl (by rw [e0]; rfl))) ⟨rfl, rfl⟩)
    · intro d hd
      obtain ⟨p, hp, rfl⟩ := List.mem_map.mp hd
      exact ⟨_, rfl, rfl, fun _ _ _ _ _ => xv_ixL (xv_var 0) (xv_var 2) rfl (toldsD_at (hl.lt p hp))⟩
    · unfold natL subT
      rw [List.map_map, List.map_map]; rfl
/-! ### is_lot -/
def cntB (many : Nat) : D → Bool
  | .int i => decide (0 ≤ i) && decide (i < (many : Int))
  | _ => false
def toI : D → Int
  | .int i => i
  | _ => 0
def incB (ns : List Int) : Bool := (ns.zipWith (fun a b => decide (a < b)) (ns.drop 1)).all id
def lotB (v : D) (many : Nat) : Bool := isLst v && match itemsOf v with
  | some ds => ds.all (cntB many) && incB (ds.map toI)
  | none => false
theorem isLst_items {v : D} (h : isLst v = true) : ∃ ds, itemsOf v = some ds := by cases v <;> first | exact ⟨_, rfl⟩ | cases h
def R_is_lot : Rel := fun ds T => ∃ (v : D) (many : Nat), ds = [v, .int (many : Int)] ∧ okD v = true ∧ (∀ es, itemsOf v = some es → es.length ≤ 100 ∧ ∀ d ∈ es, okD d = true) ∧ T = fun z => z = .bl (lotB v many)
theorem cut_one (ds : List D) : cutD ds (some 1) none = ds.drop 1 := by
  cases ds with
  | nil => simp [cutD, HT.sIx]
  | cons d ds =>
    have h1 : HT.sIx (d :: ds).length 0 (some 1) = 1 := by simp [HT.sIx]
    have h2 : HT.sIx (d :: ds).length (d :: ds).length none = (d :: ds).length := by simp [HT.sIx]
    unfold cutD
    rw [h1, h2]
    simp
theorem zipI : ∀ (a b : List Int), ((a.map D.int).zipWith (fun x y => D.tup [x, y]) (b.map D.int)).map (fun d => match d with | .tup [.int a, .int b] => .bl (decide (a < b)) | _ => .non) = (a.zipWith (fun a b => decide (a < b)) b).map D.bl
  | [], _ => rfl
  | _ :: _, [] => rfl
  | x :: a, y :: b => by
    simp only [List.map_cons, List.zipWith_cons_cons]
    rw [zipI a b]
theorem mem_zipI {a b : List Int} {d : D} (h : d ∈ (a.map D.int).zipWith (fun x y => D.tup [x, y]) (b.map D.int)) : ∃ x y, d = .tup [.int x, .int y] := by
  induction a generalizing b with
  | nil => cases h
  | cons x a ih =>
    cases b with
    | nil => cases h
    | cons y b =>
      simp only [List.map_cons, List.zipWith_cons_cons, List.mem_cons] at h
      rcases h with rfl | h
      · exact ⟨x, y, rfl⟩
      · exact ih h
theorem ok_is_lot (T : Tx P K mg) : Fk P w K mg base "is_lot" 3 R_is_lot := by
  obtain ⟨fd, F⟩ := T.F_is_lot
  refine mkFk F sc_is_lot T.g_is_lot ?_ ?_ (fun _ _ _ _ _ _ us hl => match us, hl with | [_, _], _ => rfl)
  · rintro ds S ⟨v, many, rfl, _⟩; rfl
  · rintro cdv A outer s H E hr ds S ⟨v, many, rfl, hv, hi, rfl⟩
    have hnd := sc_is_lot.nd
    have nov := okD_no hv
    cases hL : isLst v with
    | false =>
      have e : lotB v many = false := by unfold lotB; rw [hL]; rfl
      rw [e]
      refine xss_yes (xt_to (xt_or (c := true) (d := true) (xt_to (xt_not (xt_val (xv_call (ok_is_list T) (hr.mono (by decide)) (xva_cons (xv_var 0) xva_nil) ⟨v, rfl, hv, rfl⟩ (by rw [List.all_cons, nov]; rfl)))) (by rw [hL]; rfl)) (fun z => nomatch z)).pt rfl) (xss_one (xs_retv xv_bl ⟨rfl, rfl⟩))
    | true =>
      obtain ⟨es, he⟩ := isLst_items hL
      obtain ⟨hlen, hok⟩ := hi es he
      have eb : lotB v many = (es.all (cntB many) && incB (es.map toI)) := by unfold lotB; rw [hL, he]; rfl
      rw [eb]
      cases hA : es.all (cntB many) with
      | false =>
        refine xss_yes (xt_to (xt_or (c := false) (d := true) (xt_to (xt_not (xt_val (xv_call (ok_is_list T) (hr.mono (by decide)) (xva_cons (xv_var 0) xva_nil) ⟨v, rfl, hv, rfl⟩ (by rw [List.all_cons, nov]; rfl)))) (by rw [hL]; rfl)) fun _ => pw_or1 (xt_to (xt_not (xt_val (xv_all (bs := es.map (cntB many)) rfl T.b_all (xv_of_xf (xf_imp (xf_map (own := [("position", 2)]) (τ := tName 2) (ds := es) (fun d => .bl (cntB many d)) rfl hnd (xi_items nov he (xv_var 0)) (blk_ok rfl (by rfl)) (fun _ _ _ _ _ => xg_name 2 hnd) (by omega) ?_) fun z e => e.trans (by simp only [List.map_map]; rfl)))))) (by rw [List.all_map]; show (!es.all (cntB many)) = true; rw [hA]; rfl))).pt rfl) (xss_one (xs_retv xv_bl ⟨rfl, rfl⟩))
        intro d hd
        have od := hok d hd
        refine ⟨_, rfl, rfl, fun _ _ _ _ _ => ?_⟩
        cases hc : isCnt d with
        | false =>
          have e : cntB many d = false := by cases d <;> first | rfl | (simp [isCnt] at hc; simp [cntB]; omega)
          rw [e]
          exact xv_to (xe_and (c := false) (d := false) (xv_to (xv_call (ok_is_count T) hr (xva_cons (xv_var 2) xva_nil) ⟨d, rfl, od, rfl⟩ (by rw [List.all_cons, okD_no od]; rfl)) (congrArg D.bl hc)) (fun z => nomatch z)) rfl
        | true =>
          obtain ⟨i, rfl⟩ : ∃ i, d = .int i := by cases d <;> first | exact ⟨_, rfl⟩ | cases hc
          exact xv_to (xe_and (xv_call (ok_is_count T) hr (xva_cons (xv_var 2) xva_nil) ⟨_, rfl, od, rfl⟩) fun _ => xe_one (xv_lt (xv_var 2) (xv_var 1))) rfl
      | true =>
        refine xss_no (xt_to (xt_or (c := false) (d := false) (xt_to (xt_not (xt_val (xv_call (ok_is_list T) (hr.mono (by decide)) (xva_cons (xv_var 0) xva_nil) ⟨v, rfl, hv, rfl⟩ (by rw [List.all_cons, nov]; rfl)))) (by rw [hL]; rfl)) fun _ => pw_or1 (xt_to (xt_not (xt_val (xv_all (bs := es.map (cntB many)) rfl T.b_all (xv_of_xf (xf_imp (xf_map (own := [("position", 2)]) (τ := tName 2) (ds := es) (fun d => .bl (cntB many d)) rfl hnd (xi_items nov he (xv_var 0)) (blk_ok rfl (by rfl)) (fun _ _ _ _ _ => xg_name 2 hnd) (by omega) ?_) fun z e => e.trans (by simp only [List.map_map]; rfl)))))) (by rw [List.all_map]; show (!es.all (cntB many)) = false; rw [hA]; rfl))).pt rfl) ?_
        · intro d hd
          have od := hok d hd
          have cd := List.all_eq_true.mp hA d hd
          obtain ⟨i, rfl⟩ : ∃ i, d = .int i := by cases d <;> first | exact ⟨_, rfl⟩ | cases cd
          exact ⟨_, rfl, rfl, fun _ _ _ _ _ => xv_to (xe_and (xv_call (ok_is_count T) hr (xva_cons (xv_var 2) xva_nil) ⟨_, rfl, od, rfl⟩) fun _ => xe_one (xv_lt (xv_var 2) (xv_var 1))) rfl⟩
        · have ei : es = (es.map toI).map D.int := by
            rw [List.map_map]
            conv => lhs; rw [← List.map_id es]
            refine List.map_congr_left fun d hd => ?_
            have cd := List.all_eq_true.mp hA d hd
            cases d <;> first | rfl | cases cd
          refine xss_one (xs_retv (xv_to (xv_all (bs := (es.map toI).zipWith (fun a b => decide (a < b)) ((es.map toI).drop 1)) rfl T.b_all (xv_of_xf (xf_imp (xf_map (own := [("one", 3), ("other", 4)]) (τ := tPair 3 4) (ds := es.zipWith (fun x y => D.tup [x, y]) (es.drop 1)) (fun d => match d with | .tup [.int a, .int b] => .bl (decide (a < b)) | _ => .non) rfl hnd (xi_zipA nov he T.b_zip (xv_var 0) (xv_to (xv_slA nov he (xv_var 0) (xo_some xv_int) xo_none) (by rw [cut_one]))) (blk_ok rfl (by rfl)) (fun _ _ _ _ _ => xg_pair 3 4 rfl hnd) (by simp; omega) ?_) fun z e => e.trans ?_))) (congrArg D.bl (by rw [Bool.true_and]; rfl))) ⟨rfl, rfl⟩)
          · intro d hd
            rw [ei, ← List.map_drop] at hd
            obtain ⟨a, b, rfl⟩ := mem_zipI hd
            exact ⟨_, ⟨_, _, rfl, rfl⟩, rfl, fun _ _ _ _ _ => xv_lt (xv_var 3) (xv_var 4)⟩
          · conv => lhs; rw [ei, ← List.map_drop]
            exact zipI _ _
end NL

/-! text P20 -/
set_option Elab.async false
set_option linter.all false
set_option maxRecDepth 100000
set_option maxHeartbeats 4000000
/-! is_doable_lot, is_part, longer. -/
namespace NL
open PySem PySem.Spec L2
open PyProof.Rows (envOfC)
variable {P : Program} {w : World} {K : PySem.W.Frag} {mg : Str → Option Value} {base : Heap}
theorem incB_pair : ∀ ns : List Int, incB ns = true → ns.Pairwise (· < ·)
  | [], _ => List.Pairwise.nil
  | [a], _ => List.pairwise_singleton _ _
  | a :: b :: ns, h => by
    have h1 : (decide (a < b) && incB (b :: ns)) = true := h
    rw [Bool.and_eq_true] at h1
    have ih := incB_pair (b :: ns) h1.2
    have hab := of_decide_eq_true h1.1
    refine List.pairwise_cons.mpr ⟨fun c hc => ?_, ih⟩
    rcases List.mem_cons.mp hc with rfl | hc
    · exact hab
    · exact Int.lt_trans hab ((List.pairwise_cons.mp ih).1 c hc)
def lotOf (v : D) : List Nat := match itemsOf v with
  | some ds => ds.map fun d => (toI d).toNat
  | none => []
theorem lot_of_B {v : D} {many : Nat} (h : lotB v many = true) : itemsOf v = some (natL (lotOf v)) ∧ LotOk many (lotOf v) := by
  unfold lotB at h
  obtain ⟨h1, h2⟩ := Bool.and_eq_true_iff.mp h
  obtain ⟨es, he⟩ := isLst_items h1
  rw [he] at h2
  obtain ⟨h3, h4⟩ := Bool.and_eq_true_iff.mp h2
  have cnt := List.all_eq_true.mp h3
  have el : lotOf v = es.map fun d => (toI d).toNat := by unfold lotOf; rw [he]
  have key : ∀ d ∈ es, d = .int ((toI d).toNat : Int) ∧ (toI d).toNat < many ∧ toI d = ((toI d).toNat : Int) := fun d hd => by
    have c := cnt d hd
    cases d <;> first | (cases c; done) | skip
    rename_i i
    unfold cntB at c
    rw [Bool.and_eq_true] at c
    have c1 := of_decide_eq_true c.1
    have c2 := of_decide_eq_true c.2
    show D.int i = D.int (i.toNat : Int) ∧ i.toNat < many ∧ i = (i.toNat : Int)
    have e : (i.toNat : Int) = i := by omega
    exact ⟨by rw [e], by omega, by omega⟩
  refine ⟨?_, ?_, ?_⟩
  · rw [he, el]
    unfold natL
    rw [List.map_map]
    congr 1
    conv => lhs; rw [← List.map_id es]
    exact List.map_congr_left fun d hd => (key d hd).1
  · rw [el]
    have p := incB_pair _ h4
    rw [List.pairwise_map] at p ⊢
    refine List.Pairwise.imp_of_mem (fun {a b} ha hb hab => ?_) p
    have a1 := (key a ha).2.2
    have b1 := (key b hb).2.2
    omega
  · rw [el]
    intro p hp
    obtain ⟨d, hd, rfl⟩ := List.mem_map.mp hp
    exact (key d hd).2.1
def R_is_doable_lot : Rel := fun ds T => ∃ (ts : List Told) (tel v : D), ds = [tel, v] ∧ TelOk ts tel ∧ okD v = true ∧ (∀ es, itemsOf v = some es → es.length ≤ 100 ∧ ∀ d ∈ es, okD d = true) ∧ T = fun z => z = .bl (lotB v ts.length && letP ts (lotOf v))
theorem ok2_is_doable_lot (T : Tx P K mg) : Fk P w K mg base "is_doable_lot" 46 R_is_doable_lot ∧ FkK P w K mg base "is_doable_lot" 46 ["value", "telling"] (fun a b => swap2 a b) R_is_doable_lot := by
  obtain ⟨fd, F⟩ := T.F_is_doable_lot
  refine mkFk2 swap2 F sc_is_doable_lot T.g_is_doable_lot ?_ ?_ (fun _ _ _ _ _ _ us hl => match us, hl with | [_, _], _ => rfl) (fun _ _ _ _ _ _ us ws hl => match us, ws, hl with | [], [_, _], _ => rfl) swap2_rel
  · rintro ds S ⟨ts, tel, v, rfl, _⟩; rfl
  · rintro cdv A outer s H E hr ds S ⟨ts, tel, v, rfl, ht, hv, hi, rfl⟩
    have hnd := sc_is_doable_lot.nd
    obtain ⟨h1, h2, h3, h4⟩ := id ht
    have nv := okD_no hv
    refine xss_set 2 hnd (xv_call (ok_told_telling T) (hr.mono (by decide)) (xva_cons (xv_var 0) xva_nil) ⟨ts, tel, rfl, h1, h2, h3, h4, rfl⟩ (by rw [List.all_cons, ht.no]; rfl)) ?_
    refine xss_one (xs_retv (xe_and (xv_call (ok_is_lot T) (hr.mono (by decide)) (xva_cons (xv_var 1) (xva_cons (xv_len T.b_len (xv_var 2) rfl) xva_nil)) ⟨v, ts.length, by rw [List.length_map], hv, hi, rfl⟩ (by rw [List.all_cons, nv]; rfl)) fun hb => ?_) ⟨rfl, rfl⟩)
    obtain ⟨b1, b2⟩ := lot_of_B hb
    exact xe_one (xv_call (ok_is_let T) hr (xva_cons (xv_var 2) (xva_cons (xv_var 1) xva_nil)) ⟨ts, v, lotOf v, rfl, nv, b1, b2, h2, rfl⟩ (by rw [List.all_cons, List.all_cons, nv]; rfl))
theorem ok_is_doable_lot (T : Tx P K mg) : Fk P w K mg base "is_doable_lot" 46 R_is_doable_lot := (ok2_is_doable_lot T).1
theorem okK_is_doable_lot (T : Tx P K mg) : FkK P w K mg base "is_doable_lot" 46 ["value", "telling"] (fun a b => swap2 a b) R_is_doable_lot := (ok2_is_doable_lot T).2
/-! ### is_part -/
def partB (a b : List Nat) : Bool := a.all fun p => decide (p ∈ b)
def R_is_part : Rel := fun ds T => ∃ (a b : List Nat), ds = [natsD a, natsD b] ∧ a.length ≤ 100 ∧ T = fun z => z = .bl (partB a b)
theorem ok_is_part (T : Tx P K mg) : Fk P w K mg base "is_part" 1 R_is_part := by
  obtain ⟨fd, F⟩ := T.F_is_part
  refine mkFk F sc_is_part T.g_is_part ?_ ?_ (fun _ _ _ _ _ _ us hl => match us, hl with | [_, _], _ => rfl)
  · rintro ds S ⟨a, b, rfl, _⟩; rfl
  · rintro cdv A outer s H E hr ds S ⟨a, b, rfl, hl, rfl⟩
    have hnd := sc_is_part.nd
    refine xss_one (xs_retv (xv_to (xv_all (bs := a.map fun p => decide (p ∈ b)) rfl T.b_all (xv_of_xf (xf_imp (xf_map (own := [("position", 2)]) (τ := tName 2) (ds := a.map fun (n : Nat) => D.int (n : Int)) (fun d => match d with | .int i => .bl (decide (i.toNat ∈ b)) | _ => .non) rfl hnd (xi_list (xv_var 0)) (blk_ok rfl (by rfl)) (fun _ _ _ _ _ => xg_name 2 hnd) (by rw [List.length_map]; omega) ?_) fun z e => e.trans (by simp only [List.map_map]; rfl)))) (congrArg D.bl (by rw [List.all_map]; rfl))) ⟨rfl, rfl⟩)
    intro d hd
    obtain ⟨p, hp, rfl⟩ := List.mem_map.mp hd
    exact ⟨_, rfl, rfl, fun _ _ _ _ _ => xv_to (xv_inI (xv_var 2) (xv_var 1) (natsD_items b)) (congrArg D.bl in_nats)⟩
/-! ### longer -/
def lotsD (l : List (List Nat)) : D := .lst (l.map natsD)
def startP (lot : List Nat) : Nat := match lot.getLast? with
  | some q => q + 1
  | none => 0
def subsIn (lots : List (List Nat)) (later : List Nat) : Bool := (List.range later.length).all fun i => decide (later.eraseIdx i ∈ lots)
def longer1 (lots : List (List Nat)) (many : Nat) (lot : List Nat) : List (List Nat) := ((List.range' (startP lot) (many - startP lot)).map fun p => lot ++ [p]).filter (subsIn lots)
def longerP (lots : List (List Nat)) (many : Nat) : List (List Nat) := lots.flatMap (longer1 lots many)
def R_longer : Rel := fun ds T => ∃ (lots : List (List Nat)) (many : Nat), ds = [lotsD lots, .int (many : Int)] ∧ many ≤ 4 ∧ lots.length ≤ 300 ∧ (∀ l ∈ lots, LotOk many l) ∧ T = fun z => z = lotsD (longerP lots many)
theorem pdD_nats (l : List Nat) : pdD 1 (natsD l) = true := by
  show (l.map fun (n : Nat) => D.int (n : Int)).all (pdD 0) = true
  rw [List.all_map]
  exact List.all_eq_true.mpr fun _ _ => rfl
theorem natsD_inj {a b : List Nat} (h0 : natsD a = natsD b) : a = b := by
  have h : a.map (fun (n : Nat) => D.int (n : Int)) = b.map (fun (n : Nat) => D.int (n : Int)) := D.lst.inj h0
  clear h0
  induction a generalizing b with
  | nil => cases b <;> first | rfl | cases h
  | cons x a ih =>
    cases b with
    | nil => cases h
    | cons y b =>
      rw [List.map_cons, List.map_cons] at h
      obtain ⟨h1, h2⟩ := List.cons.inj h
      have : x = y := by have := D.int.inj h1; omega
      rw [this, ih h2]
theorem mem_lots {l : List Nat} {lots : List (List Nat)} : decide (natsD l ∈ lots.map natsD) = decide (l ∈ lots) := by
  apply decide_eq_decide.mpr
  rw [List.mem_map]
  constructor
  · rintro ⟨a, ha, e⟩
    exact natsD_inj e ▸ ha
  · intro h; exact ⟨l, h, rfl⟩
theorem cut_take (ds : List D) (i : Nat) (h : i ≤ ds.length) : cutD ds none (some (i : Int)) = ds.take i := by
  unfold cutD
  rw [HT.sIx_none, HT.sIx_nat, Nat.min_eq_left h]
  simp
theorem cut_drop (ds : List D) (i : Nat) (h : i ≤ ds.length) : cutD ds (some (i : Int)) none = ds.drop i := by
  unfold cutD
  rw [HT.sIx_none, HT.sIx_nat, Nat.min_eq_left h]
  rw [List.take_of_length_le (by simp)]
theorem fwk (lot : List Nat) (p : Nat) : natsD (lot ++ [p]) = .lst ((lot.map fun (n : Nat) => D.int (n : Int)) ++ [.int (p : Int)]) := by
  unfold natsD; rw [List.map_append]; rfl
theorem LotOk.len {n : Nat} {l : List Nat} (h : LotOk n l) : l.length ≤ n := by
  have := h.sub.length_le
  simpa using this
theorem ok_longer (T : Tx P K mg) : Fk P w K mg base "longer" 1 R_longer := by
  obtain ⟨fd, F⟩ := T.F_longer
  refine mkFk F sc_longer T.g_longer ?_ ?_ (fun _ _ _ _ _ _ us hl => match us, hl with | [_, _], _ => rfl)
  · rintro ds S ⟨lots, many, rfl, _⟩; rfl
  · rintro cdv A outer s H E hr ds S ⟨lots, many, rfl, hm, hl16, hlo, rfl⟩
    have hnd := sc_longer.nd
    have tot : ∀ i, ((lots.take i).flatMap (longer1 lots many)).length ≤ 10 * i := fun i => by
      induction i with
      | zero => simp
      | succ i ih =>
        rw [List.take_add_one, List.flatMap_append, List.length_append]
        have : ((lots[i]?.toList).flatMap (longer1 lots many)).length ≤ 10 := by
          cases lots[i]? with
          | none => simp
          | some l =>
            simp only [Option.toList, List.flatMap_cons, List.flatMap_nil, List.append_nil]
            unfold longer1
            refine Nat.le_trans (List.length_filter_le _ _) ?_
            simp; omega
        omega
    refine xss_setF 2 hnd (xf_lst xva_nil) ?_
    refine xss_cons (M := fun ρ => ∃ o3 o4 o5 o6, ρ = [some (lotsD lots), some (.int (many : Int)), some (.ol ((longerP lots many).map natsD)), o3, o4, o5, o6]) (xs_for (L := [3]) PassesOwn.never rfl (xi_list (xv_var 0)) (xg_name 3 hnd) (fun i ρ => ∃ o3 o4 o5 o6, ρ = [some (lotsD lots), some (.int (many : Int)), some (.ol (((lots.take i).flatMap (longer1 lots many)).map natsD)), o3, o4, o5, o6]) ⟨none, none, none, none, rfl⟩ ?_ ?_) ?_
    · rintro i d ρ1 hd ⟨o3, o4, o5, o6, rfl⟩
      rw [List.getElem?_map] at hd
      obtain ⟨lot, hlot, rfl⟩ := Option.map_eq_some_iff.mp hd
      have ok := hlo lot (List.mem_of_getElem? hlot)
      have llen := ok.len
      refine ⟨_, rfl, ?_⟩
      have pre := tot i
      have startE : XV (cxD P w K mg base n_longer "longer" (defScope s_longer) (d_longer.ad K) cdv A outer s H E) (.Constant (.int 0) 0 default) [] (.int 0) := xv_int
      have spl : startP lot ≤ 4 := by
        unfold startP
        split
        · rename_i q e
          have := ok.lt q (List.mem_of_getLast? e)
          omega
        · omega
      have eTake : ∀ j, ((List.range' (startP lot) (many - startP lot)).take j).length ≤ 4 := fun j => by rw [List.length_take, List.length_range']; omega
      refine xss_one (xs_for (L := [4]) (ds := (List.range' (startP lot) (many - startP lot)).map fun (p : Nat) => D.int (p : Int)) PassesOwn.never rfl ?xi (xg_name 4 hnd) (fun j ρ => ∃ o4 o5 o6, ρ = [some (lotsD lots), some (.int (many : Int)), some (.ol ((((lots.take i).flatMap (longer1 lots many)) ++ ((((List.range' (startP lot) (many - startP lot)).take j).map fun p => lot ++ [p]).filter (subsIn lots))).map natsD)), some (natsD lot), o4, o5, o6]) ⟨o4, o5, o6, by simp⟩ ?_ ?_)
      case xi =>
        have e : rng (startP lot : Nat) (many - startP lot) = (List.range' (startP lot) (many - startP lot)).map fun (p : Nat) => D.int (p : Int) := by
          unfold rng
          rw [List.range'_eq_map_range, List.map_map]
          refine List.map_congr_left fun k _ => ?_
          show D.int _ = D.int _
          congr 1
        rw [← e]
        refine xi_range2 (lo := (startP lot : Nat)) (hi := (many : Int)) T.b_range (xe_if (k := decide (0 < lot.length)) (xt_to (xt_gt (xv_len T.b_len (xv_var 3) rfl) xv_int) (decide_eq_decide.mpr (by rw [List.length_map]; omega))) (fun hz => ?_) fun hz => ?_) (xv_var 1) (by omega) (by omega)
        · have hpos := of_decide_eq_true hz
          obtain ⟨q, hq⟩ : ∃ q, lot.getLast? = some q := by
            cases lot with
            | nil => simp at hpos
            | cons a l => exact ⟨_, List.getLast?_cons⟩
          refine xv_to (xv_add (xv_ixL (i := -1) (d := .int (q : Int)) (xv_var 3) (xv_neg xv_int) rfl ?_ (by intro _ _; rfl)) xv_int) (by unfold startP; rw [hq]; rfl)
          unfold atI ixN
          rw [if_neg (by decide), List.length_map, if_pos (by omega)]
          show (lot.map fun (n : Nat) => D.int (n : Int))[((-1 : Int) + (lot.length : Nat)).toNat]? = _
          rw [List.getElem?_map, show ((-1 : Int) + (lot.length : Nat)).toNat = lot.length - 1 by omega, ← List.getLast?_eq_getElem?, hq]; rfl
        · have h0 : lot = [] := by
            have := of_decide_eq_false hz
            cases lot with
            | nil => rfl
            | cons a l => simp at this
          subst h0
          exact xv_int
      · rintro j d ρ2 hd ⟨o4, o5, o6, rfl⟩
        rw [List.getElem?_map] at hd
        obtain ⟨p, hp, rfl⟩ := Option.map_eq_some_iff.mp hd
        refine ⟨_, rfl, ?_⟩
        refine xss_set 5 hnd (d := natsD (lot ++ [p])) (xv_to (xv_of_xf (xf_cat (xv_var 3) (xv_lst (xva_cons (xv_var 4) xva_nil)) rfl rfl (by simp; omega))) (fwk lot p).symm) ?_
        have elen : (lot ++ [p]).length = lot.length + 1 := by simp
        have ne : ((((lots.take i).flatMap (longer1 lots many)) ++ ((((List.range' (startP lot) (many - startP lot)).take (j + 1)).map fun p => lot ++ [p]).filter (subsIn lots))).map natsD) = (((((lots.take i).flatMap (longer1 lots many)) ++ ((((List.range' (startP lot) (many - startP lot)).take j).map fun p => lot ++ [p]).filter (subsIn lots))).map natsD) ++ (if subsIn lots (lot ++ [p]) = true then [natsD (lot ++ [p])] else [])) := by
          rw [List.take_add_one, hp]
          rw [show (some p).toList = [p] from rfl, List.map_append (f := fun p => lot ++ [p]), List.filter_append, ← List.append_assoc, List.map_append (f := natsD)]
          congr 1
          by_cases h : subsIn lots (lot ++ [p]) = true
          · rw [if_pos h]; simp [h]
          · rw [if_neg h]; simp [h]
        refine xss_one (xs_if (k := subsIn lots (lot ++ [p])) (xt_to (xt_val (xv_all (bs := (List.range (lot ++ [p]).length).map fun i => decide ((lot ++ [p]).eraseIdx i ∈ lots)) rfl T.b_all (xv_of_xf (xf_imp (xf_map (own := [("at", 6)]) (τ := tName 6) (ds := rng 0 (lot ++ [p]).length) (fun d => match d with | .int k => .bl (decide ((lot ++ [p]).eraseIdx k.toNat ∈ lots)) | _ => .non) rfl hnd (xi_range1 T.b_range (xv_len T.b_len (xv_var 5) rfl) (by simp) (by simp; omega)) (blk_ok rfl (by rfl)) (fun _ _ _ _ _ => xg_name 6 hnd) (by rw [rng_len]; omega) ?_) fun z e => e.trans ?_)))) (by unfold subsIn; rw [List.all_map]; rfl)) (fun hz => ?_) fun hz => ?_)
        · intro d hd
          obtain ⟨k, hk, rfl⟩ := mem_rng hd
          rw [show (0 : Int) + (k : Nat) = (k : Int) by omega]
          refine ⟨_, rfl, rfl, fun _ _ _ _ _ => ?_⟩
          refine xv_to (xv_inD 1 (x := natsD ((lot ++ [p]).eraseIdx k)) hr (xv_to (xv_of_xf (xf_cat (xv_of_xf (xf_sl (xv_var 5) xo_none (xo_some (xv_var 6)) rfl)) (xv_of_xf (xf_sl (xv_var 5) (xo_some (xv_add (xv_var 6) xv_int)) xo_none rfl)) rfl rfl ?_)) ?_) (xv_var 0) (pdD_nats _) ?_) (congrArg D.bl mem_lots)
          · have a1 : ∀ l h, (cutD ((lot ++ [p]).map fun (n : Nat) => D.int (n : Int)) l h).length ≤ 10 := fun l h => by
              unfold cutD
              rw [List.length_take, List.length_drop, List.length_map]
              omega
            have := a1 none (some (k : Int))
            have := a1 (some ((k : Int) + 1)) none
            omega
          · rw [cut_take _ _ (by rw [List.length_map]; omega), show (k : Int) + 1 = ((k + 1 : Nat) : Int) by omega, cut_drop _ _ (by rw [List.length_map]; omega), List.eraseIdx_eq_take_drop_succ]
            unfold natsD
            rw [List.map_append (l₁ := (lot ++ [p]).take k), List.map_take, List.map_drop]
          · rw [List.all_map]
            exact List.all_eq_true.mpr fun l _ => pdD_nats l
        · unfold rng
          rw [List.map_map, List.map_map]
          refine List.map_congr_left fun k _ => ?_
          simp only [Function.comp_def]
          rw [show ((0 : Int) + (k : Nat)).toNat = k by omega]
        · refine xss_one (xs_append 2 rfl (xv_var 5) (fun _ e => ⟨by rw [e]; rfl, ?_⟩) ?_)
          · subst e
            refine ⟨some (.int (p : Int)), some (natsD (lot ++ [p])), o6, ?_⟩
            rw [ne, if_pos hz]; rfl
          · have e4 := eTake j
            have e5 := List.length_filter_le (subsIn lots) (((List.range' (startP lot) (many - startP lot)).take j).map fun p => lot ++ [p])
            rw [List.length_map] at e5
            have e6 : i < lots.length := (List.getElem?_eq_some_iff.mp hlot).1
            rw [List.length_map, List.length_append]
            omega
        · refine xss_nil ⟨some (.int (p : Int)), some (natsD (lot ++ [p])), o6, ?_⟩
          rw [ne, if_neg (by rw [hz]; decide), List.append_nil]; rfl
      · rintro ρ2 ⟨o4, o5, o6, rfl⟩
        refine ⟨some (natsD lot), o4, o5, o6, ?_⟩
        rw [List.length_map, List.take_length, List.take_add_one, hlot]
        rw [show (some lot).toList = [lot] from rfl, List.flatMap_append]
        simp [longer1]
    · rintro ρ1 ⟨o3, o4, o5, o6, rfl⟩
      refine ⟨o3, o4, o5, o6, ?_⟩
      rw [List.length_map, List.take_length]; rfl
    · rintro ρ1 ⟨o3, o4, o5, o6, rfl⟩
      exact xss_one (xs_retv (xv_var 2) ⟨rfl, rfl⟩)
end NL

/-! text P21 -/
set_option Elab.async false
set_option linter.all false
set_option maxRecDepth 100000
set_option maxHeartbeats 4000000
/-! doable_lots. -/
namespace NL
open PySem PySem.Spec L2
open PyProof.Rows (envOfC)
variable {P : Program} {w : World} {K : PySem.W.Frag} {mg : Str → Option Value} {base : Heap}
/-- the doable lots of k tolds -/
def lev (ts : List Told) : Nat → List (List Nat)
  | 0 => [[]]
  | k + 1 => (longerP (lev ts k) ts.length).filter (letP ts)
theorem getLast_le {n : Nat} {l : List Nat} (h : LotOk n l) {q p : Nat} (hq : l.getLast? = some q) (hp : p ∈ l) : p ≤ q := by
  obtain ⟨l', rfl⟩ : ∃ l', l = l' ++ [q] := by
    refine ⟨l.dropLast, ?_⟩
    have hne : l ≠ [] := fun z => by rw [z] at hq; cases hq
    have := List.dropLast_concat_getLast hne
    rw [List.getLast?_eq_some_getLast hne] at hq
    rw [Option.some.inj hq] at this
    exact this.symm
  rcases List.mem_append.mp hp with h1 | h1
  · exact Nat.le_of_lt ((List.pairwise_append.mp h.inc).2.2 p h1 q (List.mem_singleton.mpr rfl))
  · exact Nat.le_of_eq (List.mem_singleton.mp h1)
theorem longer1_ok {lots : List (List Nat)} {n : Nat} {lot later : List Nat} (h : LotOk n lot) (hm : later ∈ longer1 lots n lot) : LotOk n later ∧ later.length = lot.length + 1 := by
  unfold longer1 at hm
  obtain ⟨p, hp, rfl⟩ := List.mem_map.mp (List.mem_filter.mp hm).1
  have hp := List.mem_range'_1.mp hp
  refine ⟨⟨List.pairwise_append.mpr ⟨h.inc, List.pairwise_singleton _ _, fun a ha b hb => ?_⟩, fun a ha => ?_⟩, by simp⟩
  · rw [List.mem_singleton.mp hb]
    cases q : lot.getLast? with
    | none =>
      have : lot = [] := List.getLast?_eq_none_iff.mp q
      rw [this] at ha; cases ha
    | some x =>
      have h1 := getLast_le h q ha
      have h2 : startP lot = x + 1 := by unfold startP; rw [q]
      omega
  · rcases List.mem_append.mp ha with h1 | h1
    · exact h.lt a h1
    · rw [List.mem_singleton.mp h1]; omega
theorem lev_ok (ts : List Told) : ∀ k, ∀ l ∈ lev ts k, LotOk ts.length l ∧ l.length = k
  | 0, l, h => by
    rw [List.mem_singleton.mp h]
    exact ⟨⟨List.Pairwise.nil, fun _ h => nomatch h⟩, rfl⟩
  | k + 1, l, h => by
    have h1 := (List.mem_filter.mp h).1
    obtain ⟨lot, hl, hm⟩ := List.mem_flatMap.mp h1
    obtain ⟨a, b⟩ := lev_ok ts k lot hl
    obtain ⟨c, d⟩ := longer1_ok a hm
    exact ⟨c, by omega⟩
theorem lev_end (ts : List Told) : lev ts (ts.length + 1) = [] := by
  cases q : lev ts (ts.length + 1) with
  | nil => rfl
  | cons l r =>
    obtain ⟨a, b⟩ := lev_ok ts _ l (by rw [q]; exact List.mem_cons_self ..)
    have := a.len
    omega
theorem lev_len {ts : List Told} (h4 : ts.length ≤ 4) : ∀ k, (lev ts k).length ≤ 4 ^ k
  | 0 => by simp [lev]
  | k + 1 => by
    have ih := lev_len h4 k
    have h1 : ∀ (l : List (List Nat)), (l.flatMap (longer1 (lev ts k) ts.length)).length ≤ 4 * l.length := fun l => by
      induction l with
      | nil => simp
      | cons x l ih =>
        rw [List.flatMap_cons, List.length_append, List.length_cons]
        have : (longer1 (lev ts k) ts.length x).length ≤ 4 := by
          unfold longer1
          refine Nat.le_trans (List.length_filter_le _ _) ?_
          simp; omega
        omega
    have h2 := h1 (lev ts k)
    show ((longerP (lev ts k) ts.length).filter (letP ts)).length ≤ _
    refine Nat.le_trans (List.length_filter_le _ _) ?_
    unfold longerP
    rw [Nat.pow_succ]
    omega
/-- how many levels hold lots -/
structure LevK (ts : List Told) (k : Nat) : Prop where
  at_ : lev ts k = []
  lt : ∀ i, i < k → lev ts i ≠ []
theorem levK_ex (ts : List Told) : ∃ k, LevK ts k ∧ 0 < k ∧ k ≤ ts.length + 1 := by
  have key : ∀ n, (∃ k, k ≤ n ∧ lev ts k = []) → ∃ k, LevK ts k ∧ k ≤ n := by
    intro n
    induction n with
    | zero =>
      rintro ⟨k, hk, e⟩
      exact ⟨k, ⟨e, fun i hi => by omega⟩, hk⟩
    | succ n ih =>
      rintro ⟨k, hk, e⟩
      by_cases h : ∃ k, k ≤ n ∧ lev ts k = []
      · obtain ⟨k, a, b⟩ := ih h
        exact ⟨k, a, by omega⟩
      · refine ⟨k, ⟨e, fun i hi z => h ⟨i, by omega, z⟩⟩, hk⟩
  obtain ⟨k, a, b⟩ := key _ ⟨ts.length + 1, Nat.le_refl _, lev_end ts⟩
  refine ⟨k, a, ?_, b⟩
  cases k with
  | zero => have := a.at_; cases this
  | succ k => omega
def levsD (ts : List Told) (k : Nat) : List D := (List.range k).map fun i => lotsD (lev ts i)
def R_doable_lots : Rel := fun ds T => ∃ (ts : List Told) (k : Nat), ds = [toldsD ts] ∧ TsOk ts ∧ LevK ts k ∧ T = fun z => z = .lst (levsD ts k)
theorem levsD_last (ts : List Told) (k : Nat) : atI (levsD ts (k + 1)) (-1) = some (lotsD (lev ts k)) := by
  unfold atI ixN levsD
  rw [if_neg (by decide), List.length_map, List.length_range, if_pos (by omega)]
  show ((List.range (k + 1)).map fun i => lotsD (lev ts i))[((-1 : Int) + ((k + 1 : Nat) : Int)).toNat]? = _
  rw [show ((-1 : Int) + ((k + 1 : Nat) : Int)).toNat = k by omega, List.getElem?_map, List.getElem?_range (by omega)]; rfl
theorem cut_init (ds : List D) : cutD ds none (some (-1)) = ds.dropLast := by
  unfold cutD
  rw [HT.sIx_none]
  have : HT.sIx ds.length ds.length (some (-1)) = ds.length - 1 := by
    show (if (-1 : Int) < 0 then ((-1 : Int) + (ds.length : Int)).toNat else min (-1 : Int).toNat ds.length) = _
    rw [if_pos (by decide)]; omega
  rw [this, List.dropLast_eq_take]
  simp
theorem ok_doable_lots (T : Tx P K mg) : Fk P w K mg base "doable_lots" 46 R_doable_lots := by
  obtain ⟨fd, F⟩ := T.F_doable_lots
  refine mkFk F sc_doable_lots T.g_doable_lots ?_ ?_ (fun _ _ _ _ _ _ us hl => match us, hl with | [_], _ => rfl)
  · rintro ds S ⟨ts, k, rfl, _⟩; rfl
  · rintro cdv A outer s H E hr ds S ⟨ts, kk, rfl, ok, hK, rfl⟩
    have hnd := sc_doable_lots.nd
    have h4 := ok.len
    have hKpos : 0 < kk := by
      cases kk with
      | zero => have := hK.at_; cases this
      | succ k => omega
    refine xss_setF 1 hnd (xf_lst (xva_cons (xv_lst (xva_cons (xv_lst xva_nil) xva_nil)) xva_nil)) ?_
    refine xss_cons (M := fun ρ => ∃ o, ρ = [some (toldsD ts), some (.ol (levsD ts (kk + 1))), o]) (xs_while PassesOwn.never (fun m ρ => ∃ k o, m + k = kk ∧ ρ = [some (toldsD ts), some (.ol (levsD ts (k + 1))), o]) kk ⟨0, none, rfl, rfl⟩ ?_) ?_
    · rintro m ρ1 ⟨k, o, hmk, rfl⟩
      refine ⟨decide (0 < (lev ts k).length), xt_to (xt_gt (xv_len T.b_len (xv_ixL (xv_var 1) (xv_neg xv_int) rfl (levsD_last ts k) (by intro _ _; rfl)) rfl) xv_int) (decide_eq_decide.mpr (by rw [List.length_map]; omega)), fun hb => ?_, fun hb => ?_⟩
      · have hb := of_decide_eq_true hb
        have hne : lev ts k ≠ [] := fun z => by rw [z] at hb; simp at hb
        have hkK : k ≠ kk := fun z => hne (z ▸ hK.at_)
        have hlv := lev_ok ts k
        have hkn : k ≤ 4 := by
          cases q : lev ts k with
          | nil => exact absurd q hne
          | cons l r =>
            obtain ⟨a, b⟩ := hlv l (by rw [q]; exact List.mem_cons_self ..)
            have := a.len
            omega
        have hlen := lev_len h4 k
        have h256 : 4 ^ k ≤ 256 := Nat.le_trans (Nat.pow_le_pow_right (by decide) hkn) (by decide)
        have hl5 := lev_len h4 (k + 1)
        have hlong : ((longerP (lev ts k) ts.length).map natsD).length ≤ 10000 := by
          rw [List.length_map]
          have h1 : ∀ (l : List (List Nat)), (l.flatMap (longer1 (lev ts k) ts.length)).length ≤ 4 * l.length := fun l => by
            induction l with
            | nil => simp
            | cons x l ih =>
              rw [List.flatMap_cons, List.length_append, List.length_cons]
              have : (longer1 (lev ts k) ts.length x).length ≤ 4 := by
                unfold longer1
                refine Nat.le_trans (List.length_filter_le _ _) ?_
                simp; omega
              omega
          have := h1 (lev ts k)
          unfold longerP
          omega
        have elev : ((longerP (lev ts k) ts.length).map natsD).filter (fun d => match d with | .lst ds => letP ts (ds.map fun d => (toI d).toNat) | _ => false) = (lev ts (k + 1)).map natsD := by
          rw [List.filter_map]
          show _ = ((longerP (lev ts k) ts.length).filter (letP ts)).map natsD
          congr 1
          refine List.filter_congr fun l _ => ?_
          show letP ts ((l.map fun (n : Nat) => D.int (n : Int)).map fun d => (toI d).toNat) = letP ts l
          congr 1
          rw [List.map_map]
          conv => rhs; rw [← List.map_id l]
          rfl
        refine xss_one (xs_append 1 rfl (S := fun z => z = lotsD (lev ts (k + 1))) (xe_of_xf (xf_fm (own := [("lot", 2)]) (τ := tName 2) (ds := (longerP (lev ts k) ts.length).map natsD) (fun d => match d with | .lst ds => letP ts (ds.map fun d => (toI d).toNat) | _ => false) (fun d => d) rfl hnd (xi_list (xv_call (ok_longer T) (hr.mono (by decide)) (xva_cons (xv_ixL (xv_var 1) (xv_neg xv_int) rfl (levsD_last ts k) (by intro _ _; rfl)) (xva_cons (xv_len T.b_len (xv_var 0) rfl) xva_nil)) ⟨lev ts k, ts.length, by rw [List.length_map], h4, by omega, fun l hl => (hlv l hl).1, rfl⟩)) (blk_ok rfl (by rfl)) (fun _ _ _ _ _ => xg_name 2 hnd) hlong ?_) fun z e => by rw [e, List.map_id', elev]; rfl) (fun _ e => ⟨by rw [e]; rfl, ?_⟩) ?_)
        · intro d hd
          obtain ⟨l, hl, rfl⟩ := List.mem_map.mp hd
          obtain ⟨lot, hlot, hm⟩ := List.mem_flatMap.mp hl
          have lok := (longer1_ok (hlv lot hlot).1 hm).1
          have e : (match natsD l with | .lst ds => letP ts (ds.map fun d => (toI d).toNat) | _ => false) = letP ts l := by
            show letP ts ((l.map fun (n : Nat) => D.int (n : Int)).map fun d => (toI d).toNat) = letP ts l
            congr 1
            rw [List.map_map]
            conv => rhs; rw [← List.map_id l]
            rfl
          exact ⟨_, rfl, fun _ _ _ _ _ => xt_val (xv_to (xv_call (ok_is_let T) hr (xva_cons (xv_var 0) (xva_cons (xv_var 2) xva_nil)) ⟨ts, natsD l, l, rfl, rfl, rfl, lok, ok, rfl⟩) (congrArg D.bl e.symm)), fun _ => ⟨rfl, fun _ _ _ _ _ => xv_var 2⟩⟩
        · subst e
          refine ⟨m - 1, by omega, k + 1, o, by omega, ?_⟩
          unfold levsD
          rw [List.range_succ (n := k + 1), List.map_append]; rfl
        · unfold levsD
          rw [List.length_map, List.length_range]; omega
      · have hb := of_decide_eq_false hb
        have h0 : lev ts k = [] := List.length_eq_zero_iff.mp (by omega)
        have hk2 : k = kk := by
          rcases Nat.lt_or_ge k kk with h | h
          · exact absurd h0 (hK.lt k h)
          · omega
        exact ⟨o, by rw [hk2]⟩
    · rintro ρ1 ⟨o, rfl⟩
      refine xss_one (xs_ret (S := fun z => z = .lst (levsD ts kk)) (xe_of_xf (xf_sl (xv_var 1) xo_none (xo_some (xv_neg xv_int)) rfl) fun z e => ?_) fun d e => by subst e; exact ⟨rfl, rfl⟩)
      rw [e, cut_init]
      unfold levsD
      rw [List.range_succ, List.map_append, List.map_singleton, List.dropLast_concat]
end NL

/-! text DL18 -/
set_option Elab.async false
set_option linter.all false
set_option maxRecDepth 100000
set_option maxHeartbeats 4000000
/-! sorted of lists of places. -/
namespace NL
open PySem PySem.Spec L2 PySem.W
open PyProof.Rows (envOfC itemOrd lex_trans lex_negTrans lex_irrefl)
theorem dataLt_swo : SrtO.Swo dataLt := by
  refine ⟨fun x y h => ?_, fun x y z h1 h2 => ?_⟩
  · unfold dataLt at h ⊢
    cases q : PyProof.Rows.lexLt itemOrd (keyToks y) (keyToks x) with
    | false => rfl
    | true =>
      have := lex_trans _ _ _ h q
      rw [lex_irrefl] at this; cases this
  · unfold dataLt at h1 h2 ⊢
    cases q : PyProof.Rows.lexLt itemOrd (keyToks z) (keyToks x) with
    | false => rfl
    | true =>
      rcases lex_negTrans _ (keyToks y) _ q with h | h
      · rw [h2] at h; cases h
      · rw [h1] at h; cases h
def pdN (l : List Nat) : PyData := pd 1 (natsD l)
theorem pdN_eq (l : List Nat) : pdN l = .list (l.map fun (n : Nat) => .int (n : Int)) := by
  unfold pdN natsD
  show PyData.list _ = _
  rw [List.map_map]; rfl
/-- a before b, as lists -/
def ltN (a b : List Nat) : Bool := dataLt (pdN a) (pdN b)
def decI : PyData → Nat
  | .int i => i.toNat
  | _ => 0
def decN : PyData → List Nat
  | .list xs => xs.map decI
  | _ => []
theorem decN_pdN (l : List Nat) : decN (pdN l) = l := by
  rw [pdN_eq]
  show (l.map fun (n : Nat) => PyData.int (n : Int)).map decI = l
  rw [List.map_map]
  conv => rhs; rw [← List.map_id l]
  exact List.map_congr_left fun n _ => by simp [decI]
theorem alike_nats : ∀ a b : List Nat, alikeAll (a.map fun (n : Nat) => PyData.int (n : Int)) (b.map fun (n : Nat) => PyData.int (n : Int)) = true
  | [], _ => by simp [alikeAll]
  | _ :: _, [] => by simp [alikeAll]
  | x :: a, y :: b => by
    simp only [List.map_cons, alikeAll]
    rw [alike_nats a b]
    simp [alike]
theorem alike_pdN (a b : List Nat) : alike (pdN a) (pdN b) = true := by
  rw [pdN_eq, pdN_eq]
  simp only [alike]
  exact alike_nats a b
theorem pdN_ne (a : List Nat) : pdN a ≠ .none := by rw [pdN_eq]; exact fun z => nomatch z
section
variable {X : Cx}
/-- sorted(xs), xs a list of lists of places -/
def rSortN (K : PySem.W.Frag) : List V → Hp → VK → Prop := fun vs H Q => ∃ (G : Hp) (a : Addr) (xs : List V) (ls : List (List Nat)), vs = [V.ref a] ∧ Le G H ∧ SqL K H a xs ∧ DaL K G xs (ls.map natsD) ∧
  ∀ (ys : List V) (p : Addr) (ls' : List (List Nat)), ls'.Perm ls → ls'.Pairwise (fun x y => ltN y x = false) → DaL K G ys (ls'.map natsD) → H p = none → Q (.ref p) (upd H p (.lst ys))
theorem cr_sortN (hu : X.A.units + 70 < cLine) : CallR X (.builtin "sorted") (rSortN X.K) := by
  intro pins s σ H vs us Q I r h
  obtain ⟨G, a, xs, ls, rfl, le, hs, hd, q⟩ := h
  obtain ⟨its, rv, hl, hz⟩ := I.list hs
  obtain ⟨u, rfl, ru⟩ := vals1 r
  obtain rfl : u = Value.ref a := ru
  have lenx : xs.length = ls.length := by rw [hd.1, List.length_map]
  -- each item
  have item : ∀ (i : Nat) (v : Value), its[i]? = some v → ∃ p l as, ls[i]? = some l ∧ xs[i]? = some (.ref p) ∧ v = .ref p ∧ Da X.K G (.ref p) (natsD l) ∧ Reads s.heap v (pdN l) as := fun i v hv => by
    have hi : i < xs.length := by rw [rv.length]; exact (List.getElem?_eq_some_iff.mp hv).1
    have hxi : xs[i]? = some xs[i] := List.getElem?_eq_getElem hi
    have hli : ls[i]? = some ls[i] := List.getElem?_eq_getElem (by omega)
    obtain ⟨u', hu', ru'⟩ := rv.get hxi
    rw [hv] at hu'
    cases hu'
    have da := hd.2 i _ (natsD ls[i]) hxi (by rw [List.getElem?_map, hli]; rfl)
    obtain ⟨as, rr⟩ := Dp.reads I _ _ _ (pd_dp le 1 (pdD_nats ls[i]) da) ru'
    cases q0 : xs[i] with
    | ref p =>
      rw [q0] at ru' da hxi
      obtain rfl : v = .ref p := ru'
      exact ⟨p, ls[i], as, hli, hxi, rfl, da, rr⟩
    | _ =>
      rw [q0] at da
      cases da
  have mem : ∀ v ∈ its, ∃ p l as, v = .ref p ∧ Da X.K G (.ref p) (natsD l) ∧ Reads s.heap v (pdN l) as := fun v hv => by
    obtain ⟨i, hi⟩ := List.getElem?_of_mem hv
    obtain ⟨p, l, as, _, _, e, d, rr⟩ := item i v hi
    exact ⟨p, l, as, e, d, rr⟩
  have rd : ∀ {v : Value} {l : List Nat} {as : List Addr}, Reads s.heap v (pdN l) as → SeqAt.readOf s.heap v = pdN l := fun rr => SeqAt.readOf_eq (pd_lay 1 _).1 rr
  let ltv : Value → Value → Bool := fun v u => dataLt (SeqAt.readOf s.heap v) (SeqAt.readOf s.heap u)
  have O : SrtO.Swo ltv := ⟨fun x y h => dataLt_swo.asym _ _ h, fun x y z h1 h2 => dataLt_swo.tr _ _ _ h1 h2⟩
  refine SrtO.sorted_ord O hl.isList (by rw [← rv.length]; exact hz) (fun h2 h₁ a' ha' kk => ?_) fun out ho1 ho2 => ?_
  · intro h' keep
    have kp : ∀ b o, s.heap.get? b = some o → h'.get? b = some o := fun b o e => keep b o (kk b o e).1 (kk b o e).2
    refine ⟨PyProof.Rows.oneType', fun Q E hq => ?_, fun p q hp hq => ?_⟩
    · refine kas_kind (s := { s with heap := h' }) (T := .type "list") h2 (fun v hv => ?_) (by first | rfl | decide +kernel) (by simp) hq
      obtain ⟨p, l, as, rfl, da, rr⟩ := mem v hv
      have rr' := PyProof.Rows.Reads.keeps kp rr
      rw [pdN_eq] at rr'
      cases rr' with
      | list g1 g2 g3 g4 => exact (Looks.ld g1).andThen (by rw [g2]; exact .now)
    · obtain ⟨p1, l1, as1, e1, _, r1⟩ := mem p.1 hp
      obtain ⟨p2, l2, as2, e2, _, r2⟩ := mem q.1 hq
      show wpAny (model X.prog X.w) X.A.in1.in1 (PyProof.Rows.keyLt' PyProof.Rows.oneType' p.1 q.1) (fun r s' => s' = { s with heap := h' } ∧ r = ltv p.1 q.1) (fun _ _ => False) { s with heap := h' }
      rw [PyProof.Rows.keyLt'_oneType]
      refine oneLt_alike (fun _ xs => ?_) (PyProof.Rows.Reads.keeps kp r1) (PyProof.Rows.Reads.keeps kp r2) (alike_pdN l1 l2) (pdN_ne l1) ?_ ?_
      · rw [pdN_eq]; exact fun z => nomatch z
      · have d1 := (pd_lay 1 (natsD l1)).2
        show X.A.units + 1 + 1 + min (pd 1 (natsD l1)).depth _ < cLine
        omega
      · refine ⟨rfl, ?_⟩
        show dataLt (pdN l1) (pdN l2) = dataLt (SeqAt.readOf s.heap p.1) (SeqAt.readOf s.heap q.1)
        rw [rd r1, rd r2]
  · have hm : ∀ v ∈ out, v ∈ its := fun v hv => ho2.perm.mem_iff.mp hv
    have h3 : ∀ u ∈ out, ∃ a, u = Value.ref a := fun u hu => by
      obtain ⟨p, l, as, e, _⟩ := mem u (hm u hu)
      exact ⟨p, e⟩
    let f : Value → List Nat := fun v => decN (SeqAt.readOf s.heap v)
    have els : its.map f = ls := by
      apply List.ext_getElem?
      intro i
      rw [List.getElem?_map]
      cases q1 : its[i]? with
      | none =>
        have : its.length ≤ i := List.getElem?_eq_none_iff.mp q1
        have := rv.length
        rw [List.getElem?_eq_none (by omega)]; rfl
      | some v =>
        obtain ⟨p, l, as, h1, _, _, _, rr⟩ := item i v q1
        rw [h1]
        show some (decN (SeqAt.readOf s.heap v)) = some l
        rw [rd rr, decN_pdN]
    obtain ⟨ep, hep⟩ := PyProof.Rows.sortedAll_at s.heap its out.toArray
    have hlen : (out.map backV).length ≤ sizeLine := by
      rw [List.length_map, ho2.perm.length_eq, ← rv.length]; exact hz
    refine ⟨.ref (s.heap.objs.size + 1), upd H (s.heap.objs.size + 1) (.lst (out.map backV)), I.laid (t' := s.toks) (fun b o e => PyProof.Rows.sortedAll_old e) (Nat.le_succ _) ⟨hlen, out, ep, vals_back h3, hep⟩, rfl, q (out.map backV) _ (out.map f) ?_ ?_ ?_ (I.hok.fresh (Nat.le_succ _))⟩
    · rw [← els]; exact ho2.perm.map f
    · rw [List.pairwise_map]
      refine List.Pairwise.imp_of_mem (fun {x y} hx hy hxy => ?_) ho1
      obtain ⟨p1, l1, as1, e1, _, r1⟩ := mem x (hm x hx)
      obtain ⟨p2, l2, as2, e2, _, r2⟩ := mem y (hm y hy)
      show dataLt (pdN (decN (SeqAt.readOf s.heap y))) (pdN (decN (SeqAt.readOf s.heap x))) = false
      rw [rd r1, rd r2, decN_pdN, decN_pdN]
      have hxy : dataLt (SeqAt.readOf s.heap y) (SeqAt.readOf s.heap x) = false := hxy
      rw [rd r1, rd r2] at hxy
      exact hxy
    · refine ⟨by simp, fun i v d h1 h2 => ?_⟩
      rw [List.getElem?_map] at h1
      obtain ⟨u, hu, rfl⟩ := Option.map_eq_some_iff.mp h1
      rw [List.getElem?_map, List.getElem?_map, hu] at h2
      cases h2
      obtain ⟨p, l, as, rfl, da, rr⟩ := mem u (hm u (List.mem_of_getElem? hu))
      show Da X.K G (.ref p) (natsD (decN (SeqAt.readOf s.heap (.ref p))))
      rw [rd rr, decN_pdN]
      exact da
end
end NL

/-! text P22 -/
set_option Elab.async false
set_option linter.all false
set_option maxRecDepth 100000
set_option maxHeartbeats 4000000
/-! greatest_lots, fewest_out. -/
namespace NL
open PySem PySem.Spec L2 PySem.W
open PyProof.Rows (envOfC)
/-! ### min of lists of places -/
theorem minD_mem : ∀ (xs : List PyData) (x : PyData), minD x xs ∈ x :: xs
  | [], x => List.mem_cons_self ..
  | y :: r, x => by
    have e : minD x (y :: r) = minD (if dataLt y x then y else x) r := rfl
    rw [e]
    have := minD_mem r (if dataLt y x then y else x)
    rcases List.mem_cons.mp this with h | h
    · rw [h]
      split
      · exact List.mem_cons_of_mem _ (List.mem_cons_self ..)
      · exact List.mem_cons_self ..
    · exact List.mem_cons_of_mem _ (List.mem_cons_of_mem _ h)
theorem minD_le : ∀ (xs : List PyData) (x : PyData), ∀ y ∈ x :: xs, dataLt y (minD x xs) = false
  | [], x, y, h => by
    rw [List.mem_singleton.mp h]
    exact dataLt_swo.refl x
  | z :: r, x, y, h => by
    have e : minD x (z :: r) = minD (if dataLt z x then z else x) r := rfl
    rw [e]
    have ih := minD_le r (if dataLt z x then z else x)
    have i0 := ih _ (List.mem_cons_self ..)
    rcases List.mem_cons.mp h with rfl | h
    · by_cases c : dataLt z y = true
      · rw [if_pos c] at ih i0 ⊢
        exact dataLt_swo.tr _ z _ i0 (dataLt_swo.asym _ _ c)
      · rw [if_neg c] at ih i0 ⊢; exact i0
    · rcases List.mem_cons.mp h with rfl | h
      · by_cases c : dataLt y x = true
        · rw [if_pos c] at ih i0 ⊢; exact i0
        · rw [if_neg c] at ih i0 ⊢
          have c' : dataLt y x = false := by simpa using c
          exact dataLt_swo.tr _ x _ i0 c'
      · exact ih y (List.mem_cons_of_mem _ h)
section
variable {X : Cx}
def rMinN (K : PySem.W.Frag) : List V → Hp → VK → Prop := fun vs H Q => ∃ (G : Hp) (a : Addr) (xs : List V) (ls : List (List Nat)), vs = [V.ref a] ∧ Le G H ∧ SqL K H a xs ∧ DaL K G xs (ls.map natsD) ∧ ls ≠ [] ∧
  ∀ (p : Addr) (l : List Nat), l ∈ ls → (∀ y ∈ ls, ltN y l = false) → Da K G (.ref p) (natsD l) → Q (.ref p) H
theorem cr_minN (hc : X.calm = true) (hu : X.A.units + 70 < cLine) : CallR X (.builtin "min") (rMinN X.K) := by
  intro pins s σ H vs us Q I r h
  obtain ⟨G, a, xs, ls, rfl, le, hs, hd, hne, q⟩ := h
  obtain ⟨its, rv, hl, hz⟩ := I.list hs
  obtain ⟨u, rfl, ru⟩ := vals1 r
  obtain rfl : u = Value.ref a := ru
  have dp : DpAll X.K H xs (ls.map pdN) := by
    have key : ∀ (ls : List (List Nat)) (xs : List V), DaL X.K G xs (ls.map natsD) → DpAll X.K H xs (ls.map pdN) := fun ls => by
      induction ls with
      | nil => intro xs d; rw [d.cases_nil]; exact .nil
      | cons l ls ih =>
        intro xs d
        obtain ⟨v, vs', rfl, h1, h2⟩ := DaL.cases_cons d
        exact .cons (pd_dp le 1 (pdD_nats l) h1) (ih vs' h2)
    exact key ls xs hd
  obtain ⟨as, rall⟩ := Dp.readsAll I _ _ _ dp rv
  obtain ⟨l0, lr, rfl⟩ : ∃ l0 lr, ls = l0 :: lr := by
    cases ls with
    | nil => exact absurd rfl hne
    | cons a b => exact ⟨a, b, rfl⟩
  have hdep : PyData.depthAll ((l0 :: lr).map pdN) ≤ 1 := by
    have key : ∀ ls : List (List Nat), PyData.depthAll (ls.map pdN) ≤ 1 := fun ls => by
      induction ls with
      | nil => simp [PyData.depthAll]
      | cons l ls ih =>
        have := (pd_lay 1 (natsD l)).2
        simp only [List.map_cons, PyData.depthAll]
        have e : (pdN l).depth = (pd 1 (natsD l)).depth := rfl
        omega
    exact key _
  refine min_list_data (x := pdN l0) (xs := lr.map pdN) (I.ok.hd hc) hl.isList (show ReadsAll s.heap its.toArray.toList (pdN l0 :: lr.map pdN) as from rall) ⟨fun x hx y hy => ?_, fun x hx => ?_⟩ ?_ fun i v h' tk bs hv rr kp => ?_
  · obtain ⟨l1, _, rfl⟩ := List.mem_map.mp (show x ∈ (l0 :: lr).map pdN from hx)
    obtain ⟨l2, _, rfl⟩ := List.mem_map.mp (show y ∈ (l0 :: lr).map pdN from hy)
    exact alike_pdN l1 l2
  · obtain ⟨l1, _, rfl⟩ := List.mem_map.mp (show x ∈ (l0 :: lr).map pdN from hx)
    exact pdN_ne l1
  · have : PyData.depthAll (pdN l0 :: lr.map pdN) ≤ 1 := hdep
    omega
  · have hv : its[i]? = some v := by simpa using hv
    have hi : i < xs.length := by rw [rv.length]; exact (List.getElem?_eq_some_iff.mp hv).1
    have hli : i < (l0 :: lr).length := by have := hd.1; rw [List.length_map] at this; omega
    have hxi : xs[i]? = some xs[i] := List.getElem?_eq_getElem hi
    have hl2 : (l0 :: lr)[i]? = some (l0 :: lr)[i] := List.getElem?_eq_getElem hli
    obtain ⟨u', hu', ru'⟩ := rv.get hxi
    rw [hv] at hu'
    cases hu'
    have da := hd.2 i _ (natsD (l0 :: lr)[i]) hxi (by rw [List.getElem?_map, hl2]; rfl)
    obtain ⟨as2, rr2⟩ := Dp.reads I _ _ _ (pd_dp le 1 (pdD_nats (l0 :: lr)[i]) da) ru'
    have rr3 := PyProof.Rows.Reads.keeps kp rr2
    have e1 := SeqAt.readOf_eq (pd_lay 1 _).1 rr3
    obtain ⟨lm, hlm, em⟩ := List.mem_map.mp (show minD (pdN l0) (lr.map pdN) ∈ (l0 :: lr).map pdN from minD_mem _ _)
    rw [← em] at rr
    have e2 := SeqAt.readOf_eq (pd_lay 1 _).1 rr
    have e3 : (l0 :: lr)[i] = lm := by
      have : pdN (l0 :: lr)[i] = pdN lm := e1.symm.trans e2
      rw [← decN_pdN (l0 :: lr)[i], this, decN_pdN]
    have I2 : Inv X pins σ H { s with heap := h', toks := tk } := I.kept kp
    cases q0 : xs[i] with
    | ref p =>
      rw [q0] at ru' da
      obtain rfl : v = .ref p := ru'
      refine ⟨.ref p, H, I2, rfl, q p _ (List.getElem_mem hli) (fun y hy => ?_) da⟩
      have := minD_le (lr.map pdN) (pdN l0) (pdN y) (show pdN y ∈ (l0 :: lr).map pdN from List.mem_map.mpr ⟨y, hy, rfl⟩)
      rw [← em] at this
      rw [e3]; exact this
    | _ =>
      rw [q0] at da
      cases da
end
section
variable {X : Cx} {ρ : Env} {pos p : Pos} {a : Expr} {k : Nat}
theorem xe_minN {ls : List (List Nat)} {x : D} (hr : Room k X.A) (hc : X.calm = true) (hm : X.mg "min" = none) (ha : XV X a ρ x) (e : lstOf x = some (ls.map natsD)) (hne : ls ≠ []) (hg : Gl X "min" := by rfl) (he : starEach [a] X.env = (false, eval a X.env) :: starEach [] X.env := by rfl) (hpl : (backTo pos (starEach [] X.env)).any (·.1) = false := by rfl) :
    XE X (.Call (.Name "min" p) [a] [] pos) ρ (fun z => ∃ l : List Nat, z = natsD l ∧ l ∈ ls ∧ ∀ y ∈ ls, ltN y l = false) :=
  xe_blt (cr_minN hc (by have := hr.un; omega)) hm (xva_cons ha xva_nil he) (fun H0 G H vs l ii Q q => by
    obtain ⟨v, rfl, i1⟩ := isl1 ii
    obtain ⟨q1, ws, rfl, s, hd⟩ := lst_of l i1 e
    exact ⟨G, q1, ws, ls, rfl, l, SqL.of s, hd, hne, fun p l' h1 h2 da => q G H _ _ (Tr.refl l) (Is.of da) ⟨l', rfl, h1, h2⟩⟩) (by decide +kernel) hg (by decide) (by decide) he hpl
theorem xf_sortN {ls : List (List Nat)} {x : D} (hr : Room k X.A) (hm : X.mg "sorted" = none) (ha : XV X a ρ x) (e : lstOf x = some (ls.map natsD)) (hg : Gl X "sorted" := by rfl) (he : starEach [a] X.env = (false, eval a X.env) :: starEach [] X.env := by rfl) (hpl : (backTo pos (starEach [] X.env)).any (·.1) = false := by rfl) :
    XF X (.Call (.Name "sorted" p) [a] [] pos) ρ (fun z => ∃ ls' : List (List Nat), z = ls'.map natsD ∧ ls'.Perm ls ∧ ls'.Pairwise (fun x y => ltN y x = false)) :=
  pe_imp (pe_callB (cr_sortN (by have := hr.un; omega)) hg hm (by decide +kernel) (pa_cons ha pa_nil he) (by decide) (by decide) he hpl) fun σ H Q ⟨G, H0, l, sl, k⟩ => ⟨G, H0, l, sl, fun G1 H1 v z t1 i1 s1 => by
    subst s1
    obtain ⟨q1, ws, rfl, s, hd⟩ := lst_of t1.ok i1 e
    exact ⟨G1, q1, ws, ls, rfl, t1.ok, SqL.of s, hd, fun ys p ls' h1 h2 da hp => k G1 _ p ys _ (t1.trans (Tr.own t1.ok hp)) (t1.fresh0 hp) (t1.ok.none hp) upd_same da ⟨ls', rfl, h1, h2⟩⟩⟩
end
end NL

/-! text P23 -/
set_option Elab.async false
set_option linter.all false
set_option maxRecDepth 100000
set_option maxHeartbeats 4000000
/-! greatest_lots, fewest_out: the defs. -/
namespace NL
open PySem PySem.Spec L2
open PyProof.Rows (envOfC)
variable {P : Program} {w : World} {K : PySem.W.Frag} {mg : Str → Option Value} {base : Heap}
/-! ### fewest_out -/
def compl (n : Nat) (lot : List Nat) : List Nat := (List.range n).filter fun p => !decide (p ∈ lot)
def R_fewest : Rel := fun ds T => ∃ (ts : List Told) (tel : D) (k : Nat), ds = [tel] ∧ TelOk ts tel ∧ LevK ts (k + 1) ∧ T = fun z => ∃ l : List Nat, z = natsD l ∧ l ∈ (lev ts k).map (compl ts.length) ∧ ∀ y ∈ (lev ts k).map (compl ts.length), ltN y l = false
theorem levK_le {ts : List Told} {k : Nat} (h : LevK ts k) : k ≤ ts.length + 1 := by
  rcases Nat.lt_or_ge (ts.length + 1) k with a | a
  · exact absurd (lev_end ts) (h.lt _ a)
  · exact a
theorem lev_small {ts : List Told} (h4 : ts.length ≤ 4) {k : Nat} (hk : k ≤ 4) : (lev ts k).length ≤ 256 := Nat.le_trans (lev_len h4 k) (Nat.le_trans (Nat.pow_le_pow_right (by decide) hk) (by decide))
theorem ok2_fewest_out (T : Tx P K mg) : Fk P w K mg base "fewest_out" 47 R_fewest ∧ FkK P w K mg base "fewest_out" 47 ["telling"] (fun a b => one1 a b) R_fewest := by
  obtain ⟨fd, F⟩ := T.F_fewest_out
  refine mkFk2 one1 F sc_fewest_out T.g_fewest_out ?_ ?_ (fun _ _ _ _ _ _ us hl => match us, hl with | [_], _ => rfl) (fun _ _ _ _ _ _ us ws hl => match us, ws, hl with | [], [_], _ => rfl) one1_rel
  · rintro ds S ⟨ts, tel, k, rfl, _⟩; rfl
  · rintro cdv A outer s H E hr ds S ⟨ts, tel, k, rfl, ht, hK, rfl⟩
    have hnd := sc_fewest_out.nd
    obtain ⟨h1, h2, h3, h4⟩ := id ht
    have h5 := h2.len
    have hk := levK_le hK
    have hsm := lev_small h5 (k := k) (by omega)
    have hlk : lev ts k ≠ [] := hK.lt k (Nat.lt_succ_self k)
    refine xss_set 1 hnd (xv_call (ok_told_telling T) (hr.mono (by decide)) (xva_cons (xv_var 0) xva_nil) ⟨ts, tel, rfl, h1, h2, h3, h4, rfl⟩ (by rw [List.all_cons, ht.no]; rfl)) ?_
    refine xss_set 2 hnd (xv_ixL (xv_call (ok_doable_lots T) hr (xva_cons (xv_var 1) xva_nil) ⟨ts, k + 1, rfl, h2, hK, rfl⟩) (xv_neg xv_int) rfl (levsD_last ts k) (by intro _ _; rfl)) ?_
    refine xss_one (xs_ret (xe_minN (ls := (lev ts k).map (compl ts.length)) hr rfl T.b_min (xv_of_xf (xf_imp (xf_map (own := [("lot", 3)]) (τ := tName 3) (ds := (lev ts k).map natsD) (fun d => match d with | .lst es => natsD (compl ts.length (es.map fun d => (toI d).toNat)) | _ => .non) rfl hnd (xi_list (xv_var 2)) (blk_ok rfl (by rfl)) (fun _ _ _ _ _ => xg_name 3 hnd) (by rw [List.length_map]; omega) ?_) fun z e => e.trans ?_)) rfl (fun z => hlk (List.map_eq_nil_iff.mp z))) fun d ⟨l, e, h⟩ => by subst e; exact ⟨⟨l, rfl, h⟩, rfl⟩)
    · intro d hd
      obtain ⟨lot, hl, rfl⟩ := List.mem_map.mp hd
      have el : ((lot.map fun (n : Nat) => D.int (n : Int)).map fun d => (toI d).toNat) = lot := by
        rw [List.map_map]
        conv => rhs; rw [← List.map_id lot]
        rfl
      refine ⟨_, rfl, rfl, fun _ _ _ _ _ => ?_⟩
      show PE _ _ (tD _ _ fun z => z = natsD (compl ts.length ((lot.map fun (n : Nat) => D.int (n : Int)).map fun d => (toI d).toNat)))
      rw [el]
      refine xe_of_xf (xf_fm (own := [("position", 4)]) (τ := tName 4) (ds := rng 0 ts.length) (fun d => match d with | .int i => !decide (i.toNat ∈ lot) | _ => false) (fun d => d) rfl hnd (xi_range1 T.b_range (xv_len T.b_len (xv_var 1) rfl) (by simp) (by simp; omega)) (blk_ok rfl (by rfl)) (fun _ _ _ _ _ => xg_name 4 hnd) (by rw [rng_len]; omega) ?_) fun z e => ?_
      · intro d hd
        obtain ⟨i, hi, rfl⟩ := mem_rng hd
        rw [show (0 : Int) + (i : Nat) = (i : Int) by omega]
        exact ⟨_, rfl, fun _ _ _ _ _ => xt_to (xt_ninI (xv_var 4) (xv_var 3) (natsD_items lot)) (by rw [in_nats]; rfl), fun _ => ⟨rfl, fun _ _ _ _ _ => xv_var 4⟩⟩
      · rw [e, List.map_id', rng_nats]
        unfold natsD compl
        rw [List.filter_map]
        congr 1
    · rw [List.map_map, List.map_map]
      refine List.map_congr_left fun lot _ => ?_
      show natsD (compl ts.length ((lot.map fun (n : Nat) => D.int (n : Int)).map fun d => (toI d).toNat)) = natsD (compl ts.length lot)
      congr 2
      rw [List.map_map]
      conv => rhs; rw [← List.map_id lot]
      rfl
theorem ok_fewest_out (T : Tx P K mg) : Fk P w K mg base "fewest_out" 47 R_fewest := (ok2_fewest_out T).1
theorem okK_fewest_out (T : Tx P K mg) : FkK P w K mg base "fewest_out" 47 ["telling"] (fun a b => one1 a b) R_fewest := (ok2_fewest_out T).2
/-! ### greatest_lots -/
def great1 (ts : List Told) (i : Nat) : List (List Nat) := (lev ts i).filter fun lot => !((lev ts (i + 1)).any fun other => partB lot other)
def great (ts : List Told) (k : Nat) : List (List Nat) := (List.range k).flatMap (great1 ts)
def R_greatest : Rel := fun ds T => ∃ (ts : List Told) (tel : D) (k : Nat), ds = [tel] ∧ TelOk ts tel ∧ LevK ts k ∧ T = fun z => ∃ ls' : List (List Nat), z = lotsD ls' ∧ ls'.Perm (great ts k) ∧ ls'.Pairwise (fun x y => ltN y x = false)
theorem zip_levs (ts : List Told) (k : Nat) (h : lev ts k = []) : (levsD ts k).zipWith (fun x y => D.tup [x, y]) ((levsD ts k).drop 1 ++ [lotsD []]) = (List.range k).map fun i => D.tup [lotsD (lev ts i), lotsD (lev ts (i + 1))] := by
  apply List.ext_getElem?
  intro i
  have e1 : (levsD ts k).length = k := by unfold levsD; simp
  rw [List.getElem?_zipWith, List.getElem?_map]
  by_cases hi : i < k
  · have a1 : (levsD ts k)[i]? = some (lotsD (lev ts i)) := by unfold levsD; rw [List.getElem?_map, List.getElem?_range hi]; rfl
    rw [a1, List.getElem?_range hi]
    by_cases hi2 : i + 1 < k
    · have a2 : (levsD ts k)[i + 1]? = some (lotsD (lev ts (i + 1))) := by unfold levsD; rw [List.getElem?_map, List.getElem?_range hi2]; rfl
      rw [List.getElem?_append_left (by rw [List.length_drop]; omega), List.getElem?_drop, show 1 + i = i + 1 by omega, a2]; rfl
    · have hk : k = i + 1 := by omega
      subst hk
      rw [List.getElem?_append_right (by rw [List.length_drop]; omega), List.length_drop, e1, show i - (i + 1 - 1) = 0 by omega]
      show some (D.tup [lotsD (lev ts i), lotsD []]) = some (D.tup [lotsD (lev ts i), lotsD (lev ts (i + 1))])
      rw [h]
  · have a1 : (levsD ts k)[i]? = none := List.getElem?_eq_none (by omega)
    have a2 : (List.range k)[i]? = none := List.getElem?_eq_none (by rw [List.length_range]; omega)
    rw [a1, a2]; rfl
theorem partN (es fs : List Nat) : partB ((es.map fun (n : Nat) => D.int (n : Int)).map fun d => (toI d).toNat) ((fs.map fun (n : Nat) => D.int (n : Int)).map fun d => (toI d).toNat) = partB es fs := by
  have k : ∀ l : List Nat, ((l.map fun (n : Nat) => D.int (n : Int)).map fun d => (toI d).toNat) = l := fun l => by
    rw [List.map_map]
    conv => rhs; rw [← List.map_id l]
    rfl
  rw [k, k]
def ofN : D → List Nat
  | .lst es => es.map fun d => (toI d).toNat
  | _ => []
theorem ofN_nats (l : List Nat) : ofN (natsD l) = l := by
  show ((l.map fun (n : Nat) => D.int (n : Int)).map fun d => (toI d).toNat) = l
  rw [List.map_map]
  conv => rhs; rw [← List.map_id l]
  rfl
theorem ok2_greatest_lots (T : Tx P K mg) : Fk P w K mg base "greatest_lots" 47 R_greatest ∧ FkK P w K mg base "greatest_lots" 47 ["telling"] (fun a b => one1 a b) R_greatest := by
  obtain ⟨fd, F⟩ := T.F_greatest_lots
  refine mkFk2 one1 F sc_greatest_lots T.g_greatest_lots ?_ ?_ (fun _ _ _ _ _ _ us hl => match us, hl with | [_], _ => rfl) (fun _ _ _ _ _ _ us ws hl => match us, ws, hl with | [], [_], _ => rfl) one1_rel
  · rintro ds S ⟨ts, tel, k, rfl, _⟩; rfl
  · rintro cdv A outer s H E hr ds S ⟨ts, tel, k, rfl, ht, hK, rfl⟩
    have hnd := sc_greatest_lots.nd
    obtain ⟨h1, h2, h3, h4⟩ := id ht
    have h5 := h2.len
    have hk := levK_le hK
    have e1 : (levsD ts k).length = k := by unfold levsD; simp
    refine xss_parF 1 2 hnd (xv_call (ok_doable_lots T) hr (xva_cons (xv_call (ok_told_telling T) (hr.mono (by decide)) (xva_cons (xv_var 0) xva_nil) ⟨ts, tel, rfl, h1, h2, h3, h4, rfl⟩ (by rw [List.all_cons, ht.no]; rfl)) xva_nil) ⟨ts, k, rfl, h2, hK, rfl⟩) (xf_lst xva_nil) ?_
    refine xss_cons (M := fun ρ => ∃ o3 o4 o5 o6, ρ = [some tel, some (.lst (levsD ts k)), some (.ol ((great ts k).map natsD)), o3, o4, o5, o6]) (xs_for (L := [3, 4]) PassesOwn.never rfl (ds := (List.range k).map fun i => D.tup [lotsD (lev ts i), lotsD (lev ts (i + 1))]) ?xi (xg_pair 3 4 rfl hnd) (fun i ρ => ∃ o3 o4 o5 o6, ρ = [some tel, some (.lst (levsD ts k)), some (.ol ((great ts i).map natsD)), o3, o4, o5, o6]) ⟨none, none, none, none, rfl⟩ ?_ ?_) ?_
    case xi =>
      rw [← zip_levs ts k hK.at_]
      exact xi_zip T.b_zip (xv_var 1) (xv_of_xf (xf_cat (xv_to (xv_of_xf (xf_sl (xv_var 1) (xo_some xv_int) xo_none rfl)) (congrArg D.lst (cut_one _))) (xv_lst (xva_cons (xv_lst xva_nil) xva_nil)) rfl rfl (by rw [List.length_drop]; simp; omega)))
    · rintro i d ρ1 hd ⟨o3, o4, o5, o6, rfl⟩
      rw [List.getElem?_map] at hd
      obtain ⟨j, hj, rfl⟩ := Option.map_eq_some_iff.mp hd
      have hik : i < k := by have := (List.getElem?_eq_some_iff.mp hj).1; simpa using this
      rw [List.getElem?_range hik] at hj
      cases hj
      have hs1 := lev_small h5 (k := i) (by omega)
      have hs2 : (lev ts (i + 1)).length ≤ 256 := by
        by_cases h : i + 1 ≤ 4
        · exact lev_small h5 h
        · have : i + 1 = k := by omega
          rw [this, hK.at_]; simp
      have hgl : (great ts i).length ≤ 256 * i := by
        have key : ∀ i, i ≤ 5 → (great ts i).length ≤ 256 * i := fun i => by
          induction i with
          | zero => intro _; simp [great]
          | succ i ih =>
            intro hi
            have := ih (by omega)
            unfold great at this ⊢
            rw [List.range_succ, List.flatMap_append, List.length_append]
            have a1 : (great1 ts i).length ≤ 256 := Nat.le_trans (List.length_filter_le _ _) (lev_small h5 (by omega))
            simp only [List.flatMap_cons, List.flatMap_nil, List.append_nil]
            omega
        exact key i (by omega)
      refine ⟨_, ⟨_, _, rfl, rfl⟩, ?_⟩
      refine xss_one (xs_extend 2 rfl (S := fun es => es = (great1 ts i).map natsD) (xe_of_xf (xf_fm (own := [("lot", 5)]) (τ := tName 5) (ds := (lev ts i).map natsD) (fun d => !((lev ts (i + 1)).any fun other => partB (ofN d) other)) (fun d => d) rfl hnd (xi_list (xv_var 3)) (blk_ok rfl (by rfl)) (fun _ _ _ _ _ => xg_name 5 hnd) (by rw [List.length_map]; omega) ?_) fun z e => ⟨z, rfl, e.trans ?_⟩) (fun es e => ⟨?_, ?_⟩))
      · intro d hd
        obtain ⟨lot, hlot, rfl⟩ := List.mem_map.mp hd
        have lok := (lev_ok ts i lot hlot).1.len
        refine ⟨_, rfl, fun _ _ _ _ _ => ?_, fun _ => ⟨rfl, fun _ _ _ _ _ => xv_var 5⟩⟩
        rw [ofN_nats]
        refine xt_not (xt_to (xt_val (xv_any (bs := (lev ts (i + 1)).map fun other => partB lot other) rfl T.b_any (xv_of_xf (xf_imp (xf_map (own := [("other", 6)]) (τ := tName 6) (ds := (lev ts (i + 1)).map natsD) (fun d => .bl (partB lot (ofN d))) rfl hnd (xi_list (xv_var 4)) (blk_ok rfl (by rfl)) (fun _ _ _ _ _ => xg_name 6 hnd) (by rw [List.length_map]; omega) ?_) fun z e => e.trans ?_)))) (by rw [List.any_map]; rfl))
        · intro d hd
          obtain ⟨other, ho, rfl⟩ := List.mem_map.mp hd
          refine ⟨_, rfl, rfl, fun _ _ _ _ _ => ?_⟩
          rw [ofN_nats]
          exact xv_call (ok_is_part T) (hr.mono (by decide)) (xva_cons (xv_var 5) (xva_cons (xv_var 6) xva_nil)) ⟨lot, other, rfl, by omega, rfl⟩
        · rw [List.map_map, List.map_map]
          refine List.map_congr_left fun other _ => ?_
          show D.bl (partB lot (ofN (natsD other))) = _
          rw [ofN_nats]; rfl
      · rw [List.map_id', List.filter_map]
        unfold great1
        congr 1
        refine List.filter_congr fun lot _ => ?_
        show (!((lev ts (i + 1)).any fun other => partB (ofN (natsD lot)) other)) = _
        rw [ofN_nats]
      · rw [e, List.length_map, List.length_map]
        have a1 : (great1 ts i).length ≤ 256 := Nat.le_trans (List.length_filter_le _ _) hs1
        omega
      · subst e
        refine ⟨some (lotsD (lev ts i)), some (lotsD (lev ts (i + 1))), o5, o6, ?_⟩
        unfold great
        rw [List.range_succ, List.flatMap_append, List.map_append]
        simp only [List.flatMap_cons, List.flatMap_nil, List.append_nil]
        rfl
    · rintro ρ1 ⟨o3, o4, o5, o6, rfl⟩
      refine ⟨o3, o4, o5, o6, ?_⟩
      rw [List.length_map, List.length_range]
    · rintro ρ1 ⟨o3, o4, o5, o6, rfl⟩
      exact xss_one (xs_ret (S := fun z => ∃ ls' : List (List Nat), z = lotsD ls' ∧ ls'.Perm (great ts k) ∧ ls'.Pairwise (fun x y => ltN y x = false)) (xe_of_xf (xf_sortN hr T.b_sorted (xv_var 2) rfl) fun z ⟨ls', e, h⟩ => ⟨ls', by rw [e]; rfl, h⟩) fun d ⟨ls', e, h⟩ => by subst e; exact ⟨⟨ls', rfl, h⟩, rfl⟩)
theorem ok_greatest_lots (T : Tx P K mg) : Fk P w K mg base "greatest_lots" 47 R_greatest := (ok2_greatest_lots T).1
theorem okK_greatest_lots (T : Tx P K mg) : FkK P w K mg base "greatest_lots" 47 ["telling"] (fun a b => one1 a b) R_greatest := (ok2_greatest_lots T).2
end NL

/-! text L1 -/
set_option Elab.async false
set_option linter.all false
set_option maxRecDepth 100000
set_option maxHeartbeats 4000000
/-! The law: power, tones. -/
namespace NL
open PySem PySem.Spec L2
open PyProof.Rows (envOfC)
variable {P : Program} {w : World} {K : PySem.W.Frag} {mg : Str → Option Value} {base : Heap}
section
variable {X : Cx} {ρ : Env}
/-- a tuple (i, 0, 1) written out -/
theorem xv_l101 {a b c : Expr} {i : Int} {pos : Pos} {x1} (ha : XV X a ρ (.int i)) (hb : XV X b ρ (.int 0)) (hc : XV X c ρ (.int 1)) (h1 : starEach [a, b, c] X.env = (false, eval a X.env) :: starEach [b, c] X.env := by rfl) (h2 : starEach [b, c] X.env = (false, eval b X.env) :: starEach [c] X.env := by rfl) (h3 : starEach [c] X.env = (false, eval c X.env) :: starEach [] X.env := by rfl) : XV X (.Tuple [a, b, c] x1 pos) ρ (lnum (GQ.ofInt i)) :=
  xv_to (xv_tup (xva_cons ha (xva_cons hb (xva_cons hc xva_nil h3) h2) h1)) (lnum_int i)
end
theorem lnum_no (x : GQ) : noOl (lnum x) = true := rfl
def R_Lpower : Rel := fun ds T => ∃ (x : GQ) (k n : Nat), ds = [lnum x, .int (k : Int)] ∧ k ≤ 3 ∧ Bd n x ∧ n ≤ 1000 ∧ T = fun z => z = lnum (x.pow k)
theorem ok_Lpower (T : Tx P K mg) : Fk P w K mg base "_law_power" 36 R_Lpower := by
  obtain ⟨fd, F⟩ := T.F_Lpower
  refine mkFk F sc_Lpower T.g_Lpower ?_ ?_ (fun _ _ _ _ _ _ us hl => match us, hl with | [_, _], _ => rfl)
  · rintro ds S ⟨x, k, n, rfl, _⟩; rfl
  · rintro cdv A outer s H E hr ds S ⟨x, k, n, rfl, hk, bx, hn, rfl⟩
    have hnd := sc_Lpower.nd
    refine xss_set 2 hnd (xv_l101 xv_int xv_int xv_int) ?_
    refine xss_cons (M := fun ρ => ∃ o, ρ = [some (lnum x), some (.int (k : Int)), some (lnum (x.pow k)), o]) (xs_for (L := [3]) PassesOwn.never rfl (xi_range1 T.b_range (xv_var 1) (m := k) (by omega) (by omega)) (xg_name 3 hnd) (fun i ρ => ∃ o, ρ = [some (lnum x), some (.int (k : Int)), some (lnum (x.pow i)), o]) ⟨none, rfl⟩ ?_ ?_) ?_
    · rintro i d ρ1 hd ⟨o, rfl⟩
      obtain ⟨h1, rfl⟩ := rng_at hd
      have hb1 : Bd (1 + 3 * (n + 1)) (x.pow i) := (Bd.pow bx i).mono (by
        have := Nat.mul_le_mul_right (n + 1) (show i ≤ 3 by omega)
        omega)
      exact ⟨_, rfl, xss_one (xs_set 2 (xv_call (ok_Ltimes T) hr (xva_cons (xv_var 2) (xva_cons (xv_var 0) xva_nil)) ⟨_, _, 1 + 3 * (n + 1), rfl, by omega, by omega, hb1, bx.mono (by omega), rfl⟩) (fun _ e => by subst e; exact ⟨rfl, _, rfl⟩) hnd)⟩
    · rintro ρ1 ⟨o, rfl⟩
      exact ⟨o, by rw [rng_len]⟩
    · rintro ρ1 ⟨o, rfl⟩
      exact xss_one (xs_retv (xv_var 2) ⟨rfl, rfl⟩)
/-! ### tones -/
theorem sz_zero {x : GQ} (h : x.sz = 0) : x = GQ.ofInt 0 := by
  refine Classical.byContradiction fun e => ?_
  have := GQ.sz_pos e
  grind
theorem sz_ofInt0 : (GQ.ofInt 0).sz = 0 := by
  rw [GQ.sz_eq]
  have z1 : (GQ.ofInt 0).re = 0 := rfl
  have z2 : (GQ.ofInt 0).im = 0 := rfl
  rw [z1, z2]; grind
theorem mul_ne {x y : GQ} (hx : x ≠ GQ.ofInt 0) (hy : y ≠ GQ.ofInt 0) : x * y ≠ GQ.ofInt 0 := fun e => by
  have h := sz_mul x y
  rw [e, sz_ofInt0] at h
  have := Rat.mul_pos (GQ.sz_pos hx) (GQ.sz_pos hy)
  grind
theorem one_ne : GQ.ofInt 1 ≠ GQ.ofInt 0 := fun e => by
  have : (GQ.ofInt 1).re = (GQ.ofInt 0).re := by rw [e]
  exact absurd this (by decide)
theorem pow_ne {x : GQ} (hx : x ≠ GQ.ofInt 0) : ∀ k, x.pow k ≠ GQ.ofInt 0
  | 0 => one_ne
  | k + 1 => mul_ne (pow_ne hx k) hx
def lTerm (z w : GQ) (j l m : Nat) : GQ := GQ.ofInt ((fac (j + l - m) / (fac (j - m) * fac (l - m) * fac m) : Nat) : Int) * ((w.conj.pow (j - m) * z.pow (l - m)) / (nearG z w).pow (j + l - m + 1))
def lSum (z w : GQ) (j l : Nat) : Nat → GQ
  | 0 => GQ.ofInt 0
  | m + 1 => lSum z w j l m + lTerm z w j l m
def toneL (z w : GQ) (j l : Nat) : GQ := lSum z w j l (min j l + 1)
theorem lways_le {j l m : Nat} (hj : j ≤ 1) (hl : l ≤ 1) : fac (j + l - m) / (fac (j - m) * fac (l - m) * fac m) ≤ 24 := Nat.le_trans (Nat.div_le_self _ _) (fac_le (by omega))
theorem bd_lpart {z w : GQ} {j l m : Nat} (hz : PtOk z) (hw : PtOk w) (hj : j ≤ 1) (hl : l ≤ 1) : Bd 74 ((w.conj.pow (j - m) * z.pow (l - m)) / (nearG z w).pow (j + l - m + 1)) :=
  (Bd.div ((bd_pow1 hw.bd.conj (by omega)).mul (bd_pow1 hz.bd (by omega))) (bd_pow3 (bd_near hz.bd hw.bd) (by omega)) (pow_ne (near_ne hz.lt hw.lt) _)).mono (by decide)
theorem bd_lterm {z w : GQ} {j l m : Nat} (hz : PtOk z) (hw : PtOk w) (hj : j ≤ 1) (hl : l ≤ 1) : Bd 80 (lTerm z w j l m) := by
  have h := lways_le (j := j) (l := l) (m := m) hj hl
  have b1 : Bd 5 (GQ.ofInt ((fac (j + l - m) / (fac (j - m) * fac (l - m) * fac m) : Nat) : Int)) := bd_int (by rw [Int.natAbs_natCast]; omega) (by decide)
  exact (b1.mul (bd_lpart hz hw hj hl)).mono (by decide)
theorem bd_lSum {z w : GQ} {j l : Nat} (hz : PtOk z) (hw : PtOk w) (hj : j ≤ 1) (hl : l ≤ 1) : ∀ n, Bd (1 + 81 * n) (lSum z w j l n)
  | 0 => bd_int (n := 0) (by decide) (by decide)
  | n + 1 => ((bd_lSum hz hw hj hl n).add (bd_lterm hz hw hj hl)).mono (by omega)
def R_Ltones : Rel := fun ds T => ∃ (z y : GQ) (j l : Nat), ds = [lnum z, .int (j : Int), lnum y, .int (l : Int)] ∧ PtOk z ∧ PtOk y ∧ j ≤ 1 ∧ l ≤ 1 ∧ T = fun d => d = lnum (toneL z y j l)
theorem ok_Ltones (T : Tx P K mg) : Fk P w K mg base "_law_tones" 37 R_Ltones := by
  obtain ⟨fd, F⟩ := T.F_Ltones
  refine mkFk F sc_Ltones T.g_Ltones ?_ ?_ (fun _ _ _ _ _ _ us hl => match us, hl with | [_, _, _, _], _ => rfl)
  · rintro ds S ⟨z, y, j, l, rfl, _⟩; rfl
  · rintro cdv A outer s H E hr ds S ⟨z, y, j, l, rfl, hz, hy, hj, hl, rfl⟩
    have hnd := sc_Ltones.nd
    have pl := plain_cx (P := P) (w := w) (K := K) (mg := mg) (base := base) (N := n_Ltones) (qual := "_law_tones") (scope := defScope s_Ltones) (f := d_Ltones.ad K) (cdv := cdv) (A := A) (outer := outer) (s := s) (H := H) (E := E) ⟨rfl, rfl⟩
    have b1 : Bd 1 (GQ.ofInt 1) := bd_int (by decide) (by decide)
    refine xss_par 4 5 hnd (d := lnum (GQ.ofInt 0)) (e := lnum (nearG z y)) (xv_l101 xv_int xv_int xv_int) (xv_call (ok_Lless T) hr (xva_cons (xv_l101 xv_int xv_int xv_int) (xva_cons (xv_call (ok_Ltimes T) (hr.mono (by decide)) (xva_cons (xv_var 0) (xva_cons (xv_call (ok_Lmirror T) (hr.mono (by decide)) (xva_cons (xv_var 2) xva_nil) ⟨y, rfl, rfl⟩) xva_nil)) ⟨z, y.conj, 3, rfl, by decide, by decide, hz.bd, hy.bd.conj, rfl⟩) xva_nil)) ⟨_, _, 7, rfl, by decide, by decide, b1.mono (by decide), hz.bd.mul hy.bd.conj, rfl⟩) ?_
    refine xss_cons (M := fun ρ => ∃ o1 o2 o3, ρ = [some (lnum z), some (.int (j : Int)), some (lnum y), some (.int (l : Int)), some (lnum (toneL z y j l)), some (lnum (nearG z y)), o1, o2, o3]) (xs_for (L := [6]) PassesOwn.never rfl (xi_range1 T.b_range (xv_add (xv_min2 rfl T.b_min (xv_var 1) (xv_var 3)) xv_int) (m := min j l + 1) (by rw [min_nat]; omega) (by rw [min_nat]; omega)) (xg_name 6 hnd) (fun i ρ => ∃ o1 o2 o3, ρ = [some (lnum z), some (.int (j : Int)), some (lnum y), some (.int (l : Int)), some (lnum (lSum z y j l i)), some (lnum (nearG z y)), o1, o2, o3]) ⟨none, none, none, rfl⟩ ?_ ?_) ?_
    · rintro i d ρ1 hd ⟨o1, o2, o3, rfl⟩
      obtain ⟨h1, rfl⟩ := rng_at hd
      rw [show (0 : Int) + (i : Nat) = (i : Int) by omega]
      have hij : i ≤ j := by omega
      have hil : i ≤ l := by omega
      have c1 : (j : Int) - (i : Int) = ((j - i : Nat) : Int) := by omega
      have c2 : (l : Int) - (i : Int) = ((l - i : Nat) : Int) := by omega
      have c3 : (j : Int) + (l : Int) - (i : Int) = ((j + l - i : Nat) : Int) := by omega
      have fp1 := fac_pos (j - i)
      have fp2 := fac_pos (l - i)
      have fp3 := fac_pos i
      have fl1 := fac_le (n := j - i) (by omega)
      have fl2 := fac_le (n := l - i) (by omega)
      have fl3 := fac_le (n := i) (by omega)
      have fm : fac (j - i) * fac (l - i) ≤ 24 * 24 := Nat.mul_le_mul fl1 fl2
      have bN := bd_near hz.bd hy.bd
      have nz := near_ne hz.lt hy.lt
      have bA := (bd_pow1 hy.bd.conj (k := j - i) (by omega)).mul (bd_pow1 hz.bd (k := l - i) (by omega))
      have bB := bd_pow3 bN (k := j + l - i + 1) (by omega)
      have hwl := lways_le (j := j) (l := l) (m := i) hj hl
      have bI : Bd 5 (GQ.ofInt ((fac (j + l - i) / (fac (j - i) * fac (l - i) * fac i) : Nat) : Int)) := bd_int (by rw [Int.natAbs_natCast]; omega) (by decide)
      refine ⟨_, rfl, ?_⟩
      refine xss_set 7 hnd (d := .int ((fac (j + l - i) / (fac (j - i) * fac (l - i) * fac i) : Nat) : Int)) (xv_to (xv_fdivL (k := 0) (i := ((fac (j + l - i) : Nat) : Int)) (j := ((fac (j - i) : Nat) : Int) * ((fac (l - i) : Nat) : Int) * ((fac i : Nat) : Int)) (xv_call (ok_Lfactorial T) (hr.mono (by decide)) (xva_cons (xv_to (xv_sub (xv_add (xv_var 1) (xv_var 3)) (xv_var 6)) (congrArg D.int c3)) xva_nil) ⟨_, rfl, by omega, rfl⟩) (xv_mul (xv_mul (xv_call (ok_Lfactorial T) (hr.mono (by decide)) (xva_cons (xv_to (xv_sub (xv_var 1) (xv_var 6)) (congrArg D.int c1)) xva_nil) ⟨_, rfl, by omega, rfl⟩) (xv_call (ok_Lfactorial T) (hr.mono (by decide)) (xva_cons (xv_to (xv_sub (xv_var 3) (xv_var 6)) (congrArg D.int c2)) xva_nil) ⟨_, rfl, by omega, rfl⟩) (mul_ok' (a := 8) (b := 8) (by rw [Int.natAbs_natCast]; omega) (by rw [Int.natAbs_natCast]; omega))) (xv_call (ok_Lfactorial T) (hr.mono (by decide)) (xva_cons (xv_var 6) xva_nil) ⟨_, rfl, by omega, rfl⟩) (mul_ok' (a := 12) (b := 8) (by rw [← Int.natCast_mul, Int.natAbs_natCast]; omega) (by rw [Int.natAbs_natCast]; omega))) (Int.mul_pos (Int.mul_pos (by omega) (by omega)) (by omega)) T.seer T.tree (hr.mono (by decide)) pl) ?_) ?_
      · rw [Int.natCast_ediv, Int.natCast_mul, Int.natCast_mul]
      refine xss_set 8 hnd (xv_call (ok_Ltimes T) (hr.mono (by decide)) (xva_cons (xv_call (ok_Lpower T) hr (xva_cons (xv_call (ok_Lmirror T) (hr.mono (by decide)) (xva_cons (xv_var 2) xva_nil) ⟨y, rfl, rfl⟩) (xva_cons (xv_to (xv_sub (xv_var 1) (xv_var 6)) (congrArg D.int c1)) xva_nil)) ⟨_, _, 3, rfl, by omega, hy.bd.conj, by decide, rfl⟩) (xva_cons (xv_call (ok_Lpower T) hr (xva_cons (xv_var 0) (xva_cons (xv_to (xv_sub (xv_var 3) (xv_var 6)) (congrArg D.int c2)) xva_nil)) ⟨_, _, 3, rfl, by omega, hz.bd, by decide, rfl⟩) xva_nil)) ⟨_, _, 5, rfl, by decide, by decide, bd_pow1 hy.bd.conj (by omega), bd_pow1 hz.bd (by omega), rfl⟩) ?_
      refine xss_set 8 hnd (xv_call (ok_Lover T) hr (xva_cons (xv_var 8) (xva_cons (xv_call (ok_Lpower T) hr (xva_cons (xv_var 5) (xva_cons (xv_to (xv_add (xv_sub (xv_add (xv_var 1) (xv_var 3)) (xv_var 6)) xv_int) (congrArg D.int (show _ = ((j + l - i + 1 : Nat) : Int) by omega))) xva_nil)) ⟨_, _, 9, rfl, by omega, bN, by decide, rfl⟩) xva_nil)) ⟨_, _, 31, rfl, pow_ne nz _, by decide, by decide, bA.mono (by decide), bB.mono (by decide), rfl⟩) ?_
      exact xss_one (xs_set 4 (xv_call (ok_Lplus T) (hr.mono (by decide)) (xva_cons (xv_var 4) (xva_cons (xv_call (ok_Ltimes T) (hr.mono (by decide)) (xva_cons (xv_l101 (xv_var 7) xv_int xv_int) (xva_cons (xv_var 8) xva_nil)) ⟨_, _, 74, rfl, by decide, by decide, bI.mono (by decide), bd_lpart hz hy hj hl, rfl⟩) xva_nil)) ⟨_, _, 400, rfl, by decide, by decide, (bd_lSum hz hy hj hl i).mono (by omega), (bI.mul (bd_lpart hz hy hj hl)).mono (by decide), rfl⟩) (fun _ e => by subst e; exact ⟨rfl, _, _, _, rfl⟩) hnd)
    · rintro ρ1 ⟨o1, o2, o3, rfl⟩
      exact ⟨o1, o2, o3, by rw [rng_len]; rfl⟩
    · rintro ρ1 ⟨o1, o2, o3, rfl⟩
      exact xss_one (xs_retv (xv_var 4) ⟨rfl, rfl⟩)
end NL

/-! text L2b -/
set_option Elab.async false
set_option linter.all false
set_option maxRecDepth 100000
set_option maxHeartbeats 4000000
/-! The law: rows, entry, table. -/
namespace NL
open PySem PySem.Spec L2
open PyProof.Rows (envOfC)
variable {P : Program} {w : World} {K : PySem.W.Frag} {mg : Str → Option Value} {base : Heap}
noncomputable def lrowD (r : List GQ) : D := .lst (r.map lnum)
noncomputable def lmatD (m : Mat) : D := .lst (m.map lrowD)
noncomputable def ltoldD (t : Told) : D := .tup [lnum t.1, lrowD t.2]
noncomputable def ltoldsD (ts : List Told) : D := .lst (ts.map ltoldD)
noncomputable def lrD (ts : List Told) (s : Nat × Nat) : D := .tup [lnum (tAt ts s.1).1, .int (s.2 : Int), lrowD (tAt ts s.1).2]
def R_Lrows : Rel := fun ds T => ∃ ts : List Told, ds = [ltoldsD ts] ∧ ts.length ≤ 10 ∧ (∀ t ∈ ts, t.2.length ≤ 10) ∧ T = fun z => z = .lst ((spots ts).map (lrD ts))
theorem preSp_succ (ts : List Told) (i : Nat) : preSp ts (i + 1) = preSp ts i ++ (List.range (tAt ts i).2.length).map fun k => (i, k) := by
  unfold preSp
  rw [List.range_succ, List.flatMap_append]
  simp
theorem preSp_len {ts : List Told} (h : ∀ t ∈ ts, t.2.length ≤ 10) : ∀ i, i ≤ ts.length → (preSp ts i).length ≤ 10 * i
  | 0, _ => by simp [preSp]
  | i + 1, hi => by
    have ih := preSp_len h i (by omega)
    rw [preSp_succ, List.length_append, List.length_map, List.length_range]
    have := h _ (tAt_mem (ts := ts) (p := i) (by omega))
    omega
theorem ok_Lrows (T : Tx P K mg) : Fk P w K mg base "_law_rows" 1 R_Lrows := by
  obtain ⟨fd, F⟩ := T.F_Lrows
  refine mkFk F sc_Lrows T.g_Lrows ?_ ?_ (fun _ _ _ _ _ _ us hl => match us, hl with | [_], _ => rfl)
  · rintro ds S ⟨ts, rfl, _⟩; rfl
  · rintro cdv A outer s H E hr ds S ⟨ts, rfl, h10, hf, rfl⟩
    have hnd := sc_Lrows.nd
    refine xss_setF 1 hnd (xf_lst xva_nil) ?_
    refine xss_cons (M := fun ρ => ∃ o2 o3 o4, ρ = [some (ltoldsD ts), some (.ol ((spots ts).map (lrD ts))), o2, o3, o4]) (xs_for (L := [2, 3]) PassesOwn.never rfl (xi_list (xv_var 0)) (xg_pair 2 3 rfl hnd) (fun i ρ => ∃ o2 o3 o4, ρ = [some (ltoldsD ts), some (.ol ((preSp ts i).map (lrD ts))), o2, o3, o4]) ⟨none, none, none, rfl⟩ ?_ ?_) ?_
    · rintro i d ρ1 hd ⟨o2, o3, o4, rfl⟩
      rw [List.getElem?_map] at hd
      obtain ⟨t, ht, rfl⟩ := Option.map_eq_some_iff.mp hd
      have hi := (List.getElem?_eq_some_iff.mp ht).1
      have et : tAt ts i = t := by rw [tAt_get hi]; exact (List.getElem?_eq_some_iff.mp ht).2
      have hl := hf t (List.mem_of_getElem? ht)
      have hp := preSp_len hf i (by omega)
      refine ⟨_, ⟨_, _, rfl, rfl⟩, ?_⟩
      refine xss_one (xs_extend 1 rfl (S := fun es => es = (List.range t.2.length).map fun k => lrD ts (i, k)) (xe_of_xf (xf_map (own := [("_law_times_here", 4)]) (τ := tName 4) (ds := rng 0 t.2.length) (fun d => .tup [lnum t.1, d, lrowD t.2]) rfl hnd (xi_range1 T.b_range (xv_len T.b_len (xv_var 3) rfl) (by simp) (by simp; omega)) (blk_ok rfl (by rfl)) (fun _ _ _ _ _ => xg_name 4 hnd) (by rw [rng_len]; omega) ?_) fun z e => ⟨z, rfl, e.trans ?_⟩) (fun es e => ⟨?_, ?_⟩))
      · intro d hd
        obtain ⟨k, hk, rfl⟩ := mem_rng hd
        exact ⟨_, rfl, rfl, fun _ _ _ _ _ => xv_tup (xva_cons (xv_var 2) (xva_cons (xv_var 4) (xva_cons (xv_var 3) xva_nil)))⟩
      · rw [rng_nats, List.map_map]
        refine List.map_congr_left fun k _ => ?_
        show D.tup [lnum t.1, .int (k : Int), lrowD t.2] = D.tup [lnum (tAt ts i).1, .int (k : Int), lrowD (tAt ts i).2]
        rw [et]
      · rw [e, List.length_map, List.length_map, List.length_range]; omega
      · subst e
        refine ⟨some (lnum t.1), some (lrowD t.2), o4, ?_⟩
        rw [preSp_succ, List.map_append, List.map_map, et]; rfl
    · rintro ρ1 ⟨o2, o3, o4, rfl⟩
      exact ⟨o2, o3, o4, by rw [List.length_map]; rfl⟩
    · rintro ρ1 ⟨o2, o3, o4, rfl⟩
      exact xss_one (xs_retv (xv_var 1) ⟨rfl, rfl⟩)
/-! ### entry -/
def lIn (z y : GQ) (a b : List GQ) (j l i : Nat) : Nat → GQ → GQ
  | 0, f => f
  | k + 1, f => lIn z y a b j l i k f - (a.getD (j - i) (GQ.ofInt 0) * (b.getD (l - k) (GQ.ofInt 0)).conj) * toneL z y i k
def lOut (z y : GQ) (a b : List GQ) (j l : Nat) : Nat → GQ
  | 0 => GQ.ofInt 1 * toneL z y j l
  | i + 1 => lIn z y a b j l i (l + 1) (lOut z y a b j l i)
def entL (z y : GQ) (a b : List GQ) (j l : Nat) : GQ := lOut z y a b j l (j + 1)
structure RowOk (z : GQ) (a : List GQ) (j : Nat) : Prop where
  pt : PtOk z
  j1 : j ≤ 1
  jl : j < a.length
  bd : ∀ x ∈ a, Bd 2 x
theorem RowOk.at_ {z : GQ} {a : List GQ} {j i : Nat} (h : RowOk z a j) : Bd 2 (a.getD (j - i) (GQ.ofInt 0)) := h.bd _ (getD_mem (by have := h.jl; omega))
theorem bd_tone {z y : GQ} {j l : Nat} (hz : PtOk z) (hy : PtOk y) (hj : j ≤ 1) (hl : l ≤ 1) : Bd 163 (toneL z y j l) := (bd_lSum hz hy hj hl _).mono (by omega)
theorem bd_lIn {z y : GQ} {a b : List GQ} {j l i n : Nat} {f : GQ} (ha : RowOk z a j) (hb : RowOk y b l) (hi : i ≤ 1) (hf : Bd n f) : ∀ k, k ≤ 2 → Bd (n + 170 * k) (lIn z y a b j l i k f)
  | 0, _ => hf
  | k + 1, hk => ((bd_lIn ha hb hi hf k (by omega)).sub ((ha.at_.mul hb.at_.conj).mul (bd_tone ha.pt hb.pt hi (by omega)))).mono (by omega)
theorem bd_lOut {z y : GQ} {a b : List GQ} {j l : Nat} (ha : RowOk z a j) (hb : RowOk y b l) : ∀ i, i ≤ j + 1 → Bd (165 + 340 * i) (lOut z y a b j l i)
  | 0, _ => ((bd_int (n := 1) (k := 1) (by decide) (by decide)).mul (bd_tone ha.pt hb.pt ha.j1 hb.j1)).mono (by decide)
  | i + 1, hi => by
    have := ha.j1
    have := hb.j1
    exact (bd_lIn ha hb (by omega) (bd_lOut ha hb i (by omega)) (l + 1) (by omega)).mono (by omega)
theorem lrowD_at {r : List GQ} {c : Nat} (h : c < r.length) : atI (r.map lnum) (c : Int) = some (lnum (r.getD c (GQ.ofInt 0))) := atI_nat (by rw [List.getElem?_map, List.getElem?_eq_getElem h, List.getD_eq_getElem?_getD, List.getElem?_eq_getElem h]; rfl)
def R_Lentry : Rel := fun ds T => ∃ (z y : GQ) (a b : List GQ) (j l : Nat), ds = [.tup [lnum z, .int (j : Int), lrowD a], .tup [lnum y, .int (l : Int), lrowD b], lnum (GQ.ofInt 1)] ∧ RowOk z a j ∧ RowOk y b l ∧ T = fun d => d = lnum (entL z y a b j l)
theorem ok_Lentry (T : Tx P K mg) : Fk P w K mg base "_law_entry" 38 R_Lentry := by
  obtain ⟨fd, F⟩ := T.F_Lentry
  refine mkFk F sc_Lentry T.g_Lentry ?_ ?_ (fun _ _ _ _ _ _ us hl => match us, hl with | [_, _, _], _ => rfl)
  · rintro ds S ⟨z, y, a, b, j, l, rfl, _⟩; rfl
  · rintro cdv A outer s H E hr ds S ⟨z, y, a, b, j, l, rfl, ha, hb, rfl⟩
    have hnd := sc_Lentry.nd
    have hj := ha.j1
    have hl := hb.j1
    have hjl := ha.jl
    have hll := hb.jl
    refine xss_asgG (L := [3, 4, 5]) (xv_var 0) (xg_trip 3 4 5 rfl hnd) ⟨_, _, _, rfl, rfl⟩ ?_
    refine xss_asgG (L := [6, 7, 8]) (xv_var 1) (xg_trip 6 7 8 rfl hnd) ⟨_, _, _, rfl, rfl⟩ ?_
    refine xss_set 9 hnd (d := lnum (lOut z y a b j l 0)) (xv_call (ok_Ltimes T) (hr.mono (by decide)) (xva_cons (xv_var 2) (xva_cons (xv_call (ok_Ltones T) hr (xva_cons (xv_var 3) (xva_cons (xv_var 4) (xva_cons (xv_var 6) (xva_cons (xv_var 7) xva_nil)))) ⟨z, y, j, l, rfl, ha.pt, hb.pt, hj, hl, rfl⟩) xva_nil)) ⟨_, _, 163, rfl, by decide, by decide, (bd_int (n := 1) (k := 1) (by decide) (by decide)).mono (by decide), bd_tone ha.pt hb.pt hj hl, rfl⟩) ?_
    refine xss_cons (M := fun ρ => ∃ o1 o2 o3, ρ = [some (.tup [lnum z, .int (j : Int), lrowD a]), some (.tup [lnum y, .int (l : Int), lrowD b]), some (lnum (GQ.ofInt 1)), some (lnum z), some (.int (j : Int)), some (lrowD a), some (lnum y), some (.int (l : Int)), some (lrowD b), some (lnum (entL z y a b j l)), o1, o2, o3]) (xs_for (L := [10]) PassesOwn.never rfl (xi_range1 T.b_range (xv_add (xv_var 4) xv_int) (m := j + 1) (by omega) (by omega)) (xg_name 10 hnd) (fun i ρ => ∃ o1 o2 o3, ρ = [some (.tup [lnum z, .int (j : Int), lrowD a]), some (.tup [lnum y, .int (l : Int), lrowD b]), some (lnum (GQ.ofInt 1)), some (lnum z), some (.int (j : Int)), some (lrowD a), some (lnum y), some (.int (l : Int)), some (lrowD b), some (lnum (lOut z y a b j l i)), o1, o2, o3]) ⟨none, none, none, rfl⟩ ?_ ?_) ?_
    · rintro i d ρ1 hd ⟨o1, o2, o3, rfl⟩
      obtain ⟨h1, rfl⟩ := rng_at hd
      rw [show (0 : Int) + (i : Nat) = (i : Int) by omega]
      refine ⟨_, rfl, ?_⟩
      refine xss_one (xs_for (L := [11]) PassesOwn.never rfl (xi_range1 T.b_range (xv_add (xv_var 7) xv_int) (m := l + 1) (by omega) (by omega)) (xg_name 11 hnd) (fun k ρ => ∃ o2 o3, ρ = [some (.tup [lnum z, .int (j : Int), lrowD a]), some (.tup [lnum y, .int (l : Int), lrowD b]), some (lnum (GQ.ofInt 1)), some (lnum z), some (.int (j : Int)), some (lrowD a), some (lnum y), some (.int (l : Int)), some (lrowD b), some (lnum (lIn z y a b j l i k (lOut z y a b j l i))), some (.int (i : Int)), o2, o3]) ⟨o2, o3, rfl⟩ ?_ ?_)
      · rintro k d ρ2 hd ⟨o2, o3, rfl⟩
        obtain ⟨h2, rfl⟩ := rng_at hd
        rw [show (0 : Int) + (k : Nat) = (k : Int) by omega]
        have bt := bd_tone ha.pt hb.pt (j := i) (l := k) (by omega) (by omega)
        have bp := ha.at_ (i := i) |>.mul (hb.at_ (i := k)).conj
        refine ⟨_, rfl, ?_⟩
        refine xss_set 12 hnd (xv_call (ok_Ltimes T) (hr.mono (by decide)) (xva_cons (xv_ixL (xv_var 5) (xv_sub (xv_var 4) (xv_var 10)) rfl (by rw [show (j : Int) - (i : Int) = ((j - i : Nat) : Int) by omega]; exact lrowD_at (by omega))) (xva_cons (xv_call (ok_Lmirror T) (hr.mono (by decide)) (xva_cons (xv_ixL (xv_var 8) (xv_sub (xv_var 7) (xv_var 11)) rfl (by rw [show (l : Int) - (k : Int) = ((l - k : Nat) : Int) by omega]; exact lrowD_at (by omega))) xva_nil) ⟨_, rfl, rfl⟩) xva_nil)) ⟨_, _, 2, rfl, by decide, by decide, ha.at_, hb.at_.conj, rfl⟩) ?_
        exact xss_one (xs_set 9 (xv_call (ok_Lless T) (hr.mono (by decide)) (xva_cons (xv_var 9) (xva_cons (xv_call (ok_Ltimes T) (hr.mono (by decide)) (xva_cons (xv_var 12) (xva_cons (xv_call (ok_Ltones T) hr (xva_cons (xv_var 3) (xva_cons (xv_var 10) (xva_cons (xv_var 6) (xva_cons (xv_var 11) xva_nil)))) ⟨z, y, i, k, rfl, ha.pt, hb.pt, by omega, by omega, rfl⟩) xva_nil)) ⟨_, _, 163, rfl, by decide, by decide, bp.mono (by decide), bt, rfl⟩) xva_nil)) ⟨_, _, 5000, rfl, by decide, by decide, (bd_lIn ha hb (by omega) (bd_lOut ha hb i (by omega)) k (by omega)).mono (by omega), (bp.mul bt).mono (by decide), rfl⟩) (fun _ e => by subst e; exact ⟨rfl, _, _, rfl⟩) hnd)
      · rintro ρ2 ⟨o2, o3, rfl⟩
        exact ⟨_, _, _, by rw [rng_len]; rfl⟩
    · rintro ρ1 ⟨o1, o2, o3, rfl⟩
      exact ⟨o1, o2, o3, by rw [rng_len]; rfl⟩
    · rintro ρ1 ⟨o1, o2, o3, rfl⟩
      exact xss_one (xs_retv (xv_var 9) ⟨rfl, rfl⟩)
/-! ### table -/
def ltabV (ts : List Told) (s t : Nat × Nat) : GQ := entL (tAt ts s.1).1 (tAt ts t.1).1 (tAt ts s.1).2 (tAt ts t.1).2 s.2 t.2
def ltabM (ts : List Told) : Mat := (spots ts).map fun s => (spots ts).map fun t => ltabV ts s t
theorem rowOk_of {ts : List Told} (ok : TsOk ts) {s : Nat × Nat} (h : s ∈ spots ts) : RowOk (tAt ts s.1).1 (tAt ts s.1).2 s.2 := by
  obtain ⟨a, b⟩ := mem_spots.mp h
  have := (ok.few _ (tAt_mem a)).2
  exact ⟨ok.pt _ (tAt_mem a), by omega, b, ok.bd _ (tAt_mem a)⟩
theorem ltabM_ok {ts : List Told} (ok : TsOk ts) : Sq (spots ts).length (ltabM ts) ∧ MBd 900 (ltabM ts) := by
  refine ⟨⟨by simp [ltabM], fun r hr => ?_⟩, fun r hr x hx => ?_⟩
  · obtain ⟨s, _, rfl⟩ := List.mem_map.mp hr
    simp
  · obtain ⟨s, hs, rfl⟩ := List.mem_map.mp hr
    obtain ⟨t, ht, rfl⟩ := List.mem_map.mp hx
    have a := rowOk_of ok hs
    have b := rowOk_of ok ht
    have := a.j1
    exact (bd_lOut a b _ (Nat.le_refl _)).mono (by omega)
theorem lnum_inj {x y : GQ} (h : lnum x = lnum y) : x = y := by
  unfold lnum at h
  simp at h
  obtain ⟨a, b, c⟩ := h
  have hx := x.nn
  rw [a, b, c] at hx
  exact hx.inj y.nn
open Classical in
noncomputable def unl (d : D) : GQ := if h : ∃ x, d = lnum x then h.choose else GQ.ofInt 0
theorem unl_lnum (x : GQ) : unl (lnum x) = x := by
  have h : ∃ y, lnum x = lnum y := ⟨x, rfl⟩
  unfold unl
  rw [dif_pos h]
  exact (lnum_inj h.choose_spec).symm
theorem unl_map (r : List GQ) : (r.map lnum).map unl = r := by
  rw [List.map_map]
  conv => rhs; rw [← List.map_id r]
  exact List.map_congr_left fun x _ => unl_lnum x
noncomputable def entD : D → D → D
  | .tup [z, .int j, .lst a], .tup [y, .int l, .lst b] => lnum (entL (unl z) (unl y) (a.map unl) (b.map unl) j.toNat l.toNat)
  | _, _ => .non
theorem entD_eq (ts : List Told) (s t : Nat × Nat) : entD (lrD ts s) (lrD ts t) = lnum (ltabV ts s t) := by
  show lnum (entL (unl (lnum _)) (unl (lnum _)) (((tAt ts s.1).2.map lnum).map unl) (((tAt ts t.1).2.map lnum).map unl) (s.2 : Int).toNat (t.2 : Int).toNat) = _
  rw [unl_lnum, unl_lnum, unl_map, unl_map]; rfl
def R_Ltable : Rel := fun ds T => ∃ ts : List Told, ds = [ltoldsD ts, lnum (GQ.ofInt 1)] ∧ TsOk ts ∧ T = fun z => z = lmatD (ltabM ts)
theorem ok_Ltable (T : Tx P K mg) : Fk P w K mg base "_law_table" 39 R_Ltable := by
  obtain ⟨fd, F⟩ := T.F_Ltable
  refine mkFk F sc_Ltable T.g_Ltable ?_ ?_ (fun _ _ _ _ _ _ us hl => match us, hl with | [_, _], _ => rfl)
  · rintro ds S ⟨ts, rfl, _⟩; rfl
  · rintro cdv A outer s H E hr ds S ⟨ts, rfl, ok, rfl⟩
    have hnd := sc_Ltable.nd
    have h4 := ok.len
    have htot := ok.tot
    refine xss_set 2 hnd (xv_call (ok_Lrows T) (hr.mono (by decide)) (xva_cons (xv_var 0) xva_nil) ⟨ts, rfl, by omega, fun t ht => by have := (ok.few t ht).2; omega, rfl⟩) ?_
    refine xss_one (xs_retv (d := lmatD (ltabM ts)) (xv_to (xv_of_xf (xf_map (own := [("_law_one", 3)]) (τ := tName 3) (ds := (spots ts).map (lrD ts)) (fun d => .lst (((spots ts).map (lrD ts)).map (entD d))) rfl hnd (xi_list (xv_var 2)) (blk_ok rfl (by rfl)) (fun _ _ _ _ _ => xg_name 3 hnd) (by rw [List.length_map]; omega) ?_)) ?_) ⟨rfl, rfl⟩)
    · intro d hd
      obtain ⟨s1, hs, rfl⟩ := List.mem_map.mp hd
      refine ⟨_, rfl, rfl, fun _ _ _ _ _ => ?_⟩
      refine xv_of_xf (xf_map (own := [("_law_other", 4)]) (τ := tName 4) (ds := (spots ts).map (lrD ts)) (entD (lrD ts s1)) rfl hnd (xi_list (xv_var 2)) (blk_ok rfl (by rfl)) (fun _ _ _ _ _ => xg_name 4 hnd) (by rw [List.length_map]; omega) ?_)
      intro d hd
      obtain ⟨s2, hs2, rfl⟩ := List.mem_map.mp hd
      refine ⟨_, rfl, by rw [entD_eq]; rfl, fun _ _ _ _ _ => ?_⟩
      rw [entD_eq]
      exact xv_call (ok_Lentry T) hr (xva_cons (xv_var 3) (xva_cons (xv_var 4) (xva_cons (xv_var 1) xva_nil))) ⟨_, _, _, _, _, _, rfl, rowOk_of ok hs, rowOk_of ok hs2, rfl⟩
    · unfold lmatD ltabM
      rw [List.map_map, List.map_map]
      congr 1
      refine List.map_congr_left fun s1 _ => ?_
      show D.lst _ = lrowD _
      unfold lrowD
      rw [List.map_map, List.map_map]
      congr 1
      refine List.map_congr_left fun s2 _ => ?_
      exact entD_eq ts s1 s2
end NL

/-! text DL19 -/
set_option Elab.async false
set_option linter.all false
set_option maxRecDepth 100000
set_option maxHeartbeats 4000000
/-! The D-layer: own lists set by place, or bound through a tuple. -/
namespace NL
open PySem PySem.Spec L2
section
variable {X : Cx} {ρ : Env} {Φ : Out} {pos : Pos} {rest : List Stmt}
/-- xs[n] = e, xs our own -/
theorem xss_setI (i n : Nat) {x : Str} {px p1 : Pos} {ix e : Expr} {ds : List D} {d : D} (hi : ρ[i]? = some (some (.ol ds))) (hix : XV X ix ρ (.int (n : Int))) (he : XV X e ρ d) (hn : n < ds.length) (nd : noOl d = true) (hr : XSs X rest (ρ.set i (some (.ol (ds.set n d)))) Φ)
    (hx : PE X (Expr.Name x px) (tVar i) := by exact pv _)
    (hA : ∀ v, assign (.Subscript (.Name x px) ix p1) X.env v = (do
      let ov ← holding [v] (eval (.Name x px) X.env)
      let iv ← holding [v, ov] (eval ix X.env)
      standAt p1
      holding [v, ov, iv] (setItem ov iv v)
      release [v, ov, iv] []) := by intro _; rfl)
    (hs : swapsWithSole [.Subscript (.Name x px) ix p1] e pos.line X.env = pure false := by rfl) (hw : swappedStores [.Subscript (.Name x px) ix p1] e X.env = pure none := by rfl) : XSs X (.Assign [.Subscript (.Name x px) ix p1] e pos :: rest) ρ Φ :=
  xss_seq (ps_imp (ps_asg he (pg_sub hx hix set_list hA) hs hw rfl) fun Dn σ H ⟨G0, H0, G, t, sl, k1, _⟩ => ⟨G, H0, t.ok, sl, fun G1 H1 v z t1 i1 s1 => by
    subst s1
    obtain ⟨u, hu, p, vs, rfl, h0, hg, hp, hd⟩ := (sl.mono t1).at_ i _ hi
    refine ⟨.ref p, hu, G1, H0, t1.ok, sl.mono t1, fun G2 H2 w e2 t2 i2 s2 => ?_⟩
    subst s2
    cases i2
    have hg2 := t2.pv p _ hp hg
    have hp2 := t2.hh p _ hp (by rw [hg]; exact fun z => nomatch z)
    refine ⟨p, vs, (n : Int), n, rfl, rfl, hp2, ?_, ?_⟩
    · have : vs.length = ds.length := hd.1
      unfold ixN
      rw [if_pos (by omega), if_pos (by omega)]; rfl
    · have t12 := t1.trans t2
      exact k1 G2 _ σ _ ((t.trans t12).mut h0 hg2) ((sl.mono t12).chg hi rfl rfl hu hg2 (is_ol h0 hg2 upd_same ((hd.mono t2.gg).set n ((i1.da nd).mono t2.gg)))) rfl⟩) hr
/-- x, y = (a new list), b: through a tuple -/
theorem xss_parT (i j : Nat) {x y : Str} {a b : Expr} {px py pt : Pos} {kt k2 pt2} {es : List D} {d : D} (hN : X.N.Nodup) (ha : XF X a ρ (fun z => z = es)) (hb : XV X b ρ d) (hr : XSs X rest ((ρ.set i (some (.ol es))).set j (some d)) Φ) (n1 : noOl d = true := by rfl) (hc : X.calm = true := by rfl)
    (hi : X.N[i]? = some x := by rfl) (hj : X.N[j]? = some y := by rfl) (hx : Loc X.env.scope x := by first | exact Or.inl rfl | exact Or.inr rfl) (hy : Loc X.env.scope y := by first | exact Or.inl rfl | exact Or.inr rfl)
    (hf : X.fn x = true ∨ X.env.scope.names.lookup x = some .local := by first | exact .inl rfl | exact .inr rfl | assumption) (hf2 : X.fn y = true ∨ X.env.scope.names.lookup y = some .local := by first | exact .inl rfl | exact .inr rfl | assumption)
    (he : starEach [a, b] X.env = (false, eval a X.env) :: starEach [b] X.env := by rfl) (he2 : starEach [b] X.env = (false, eval b X.env) :: starEach [] X.env := by rfl)
    (hw : swappedStores [.Tuple [.Name x px, .Name y py] kt pt] (.Tuple [a, b] k2 pt2) X.env = pure none := by rfl) (hs : swapsWithSole [.Tuple [.Name x px, .Name y py] kt pt] (.Tuple [a, b] k2 pt2) pos.line X.env = pure false := by rfl) :
    XSs X (.Assign [.Tuple [.Name x px, .Name y py] kt pt] (.Tuple [a, b] k2 pt2) pos :: rest) ρ Φ :=
  xss_seq (ps_imp (ps_asg (pe_tup (pa_cons ha (pa_cons hb pa_nil he2) he)) (pg_tup hc (pgs_cons (pg_name hN hi hx hf) (pgs_cons (pg_name hN hj hy hf2) pgs_nil))) hs hw rfl) fun Dn σ H ⟨G0, H0, G, t, sl, k1, _⟩ => ⟨G, H0, t.ok, sl, fun G1 H1 p vs ds t1 hp hg hh hd s => by
    subst s
    refine ⟨G1, H0, t1.ok, sl.mono t1, fun G2 H2 v z t2 i2 s2 => ?_⟩
    subst s2
    refine ⟨by rw [sizeLine_eq]; simp, fun q hq => ?_⟩
    have tq := Tr.own t2.ok hq (o := .tup [.ref p, v])
    have hg2 := t2.pv p _ hh hg
    have hh2 := t2.hh p _ hh (by rw [hg]; exact fun z => nomatch z)
    have pq : p ≠ q := fun z => by rw [z, hq] at hh2; cases hh2
    refine ⟨q, [.ref p, v], rfl, SqT.of upd_same, rfl, .ref p, [v], rfl, v, [], rfl, rfl, ?_⟩
    have tt := t.trans ((t1.trans t2).trans tq)
    have s3 := sl.mono ((t1.trans t2).trans tq)
    refine k1 G2 _ _ _ tt (Sl.set (s3.setOwn (is_ol (t.fresh0 hp) hg2 (by rw [upd_ne pq]; exact hh2) (hd.mono t2.gg)) fun j e hj ne hs => ?_) (i2.da n1)) rfl
    obtain ⟨q2, o, hv, hq2⟩ := sl.ownAt hj ne
    rw [hv] at hs; cases hs
    rw [hp] at hq2; cases hq2⟩) hr
end
end NL

/-! text L3 -/
set_option Elab.async false
set_option linter.all false
set_option maxRecDepth 100000
set_option maxHeartbeats 4000000
/-! The law: rank. -/
namespace NL
open PySem PySem.Spec L2
open PyProof.Rows (envOfC)
variable {P : Program} {w : World} {K : PySem.W.Frag} {mg : Str → Option Value} {base : Heap}
/-- the places behind p -/
def behind (n p : Nat) : List Nat := List.range' (p + 1) (n - (p + 1))
def rowBad (m : Mat) (p : Nat) : Bool := (List.range' p (m.length - p)).any fun t => !decide (mGet m p t = GQ.ofInt 0)
/-- the law's way through a table: f rows left, from p on -/
def lrF : Nat → Nat → Mat → Bool
  | 0, _, _ => true
  | f + 1, p, m => if (mGet m p p).re < 0 then false else if (mGet m p p).re = 0 then (if rowBad m p then false else lrF f (p + 1) m) else lrF f (p + 1) (takeS m p (behind m.length p))
theorem nl_neg (x : GQ) : decide (x.nl < 0) = decide (x.re < 0) := decide_eq_decide.mpr x.nn.rep.neg_l
theorem nl_zero (x : GQ) : decide (x.nl = 0) = decide (x.re = 0) := decide_eq_decide.mpr x.nn.rep.zero_l
theorem nl_pos (x : GQ) : decide (0 < x.nl) = decide (0 < x.re) := decide_eq_decide.mpr x.nn.rep.pos_l
theorem cut2 (x : GQ) : cutD [.int x.nl, .int x.nr, .int x.nw] none (some 2) = [.int x.nl, .int x.nr] := rfl
theorem two_ne (x : GQ) : (!decide (D.tup [.int x.nl, .int x.nr] = D.tup [.int 0, .int 0])) = !decide (x = GQ.ofInt 0) := by
  rw [← nought_dec x.nn.rep]
  by_cases a : x.nl = 0 <;> by_cases b : x.nr = 0 <;> simp [a, b]
section
variable {X : Cx} {ρ : Env} {pos : Pos} {o a b : Expr} {p1 p2 : Pos}
theorem lmat_row {m : Mat} {i : Nat} (h : i < m.length) : atI (m.map lrowD) (i : Int) = some (lrowD (m.getD i [])) := atI_nat (by rw [List.getElem?_map, List.getElem?_eq_getElem h, List.getD_eq_getElem?_getD, List.getElem?_eq_getElem h]; rfl)
theorem xv_lget {m : Mat} {n i j : Nat} {x : D} (sq : Sq n m) (hi : i < n) (hj : j < n) (ho : XV X o ρ x) (e : lstOf x = some (m.map lrowD)) (ha : XV X a ρ (.int (i : Int))) (hb : XV X b ρ (.int (j : Int))) (hs : PlainIx a := by exact fun _ _ => rfl) (hs2 : PlainIx b := by exact fun _ _ => rfl) : XV X (.Subscript (.Subscript o a p1) b p2) ρ (lnum (mGet m i j)) :=
  xv_ixL (xv_ixL ho ha e (lmat_row (by rw [sq.rows]; exact hi)) hs) hb rfl (lrowD_at (by rw [row_len sq hi]; exact hj)) hs2
end
noncomputable def fLL (q : GQ) : D → D
  | .tup [x, y] => lnum (unl x - q * unl y)
  | _ => .non
theorem zip_L (q : GQ) : ∀ (a b : List GQ), ((a.map lnum).zipWith (fun x y => D.tup [x, y]) (b.map lnum)).map (fLL q) = (lessRow a q b).map lnum
  | [], _ => rfl
  | _ :: _, [] => rfl
  | x :: a, y :: b => by
    have ih := zip_L q a b
    unfold lessRow at ih ⊢
    simp only [List.map_cons, List.zipWith_cons_cons]
    rw [ih]
    show lnum (unl (lnum x) - q * unl (lnum y)) :: _ = _
    rw [unl_lnum, unl_lnum]
theorem mem_zipL {a b : List GQ} {d : D} (h : d ∈ (a.map lnum).zipWith (fun x y => D.tup [x, y]) (b.map lnum)) : ∃ x y, x ∈ a ∧ y ∈ b ∧ d = .tup [lnum x, lnum y] := by
  induction a generalizing b with
  | nil => cases h
  | cons x a ih =>
    cases b with
    | nil => cases h
    | cons y b =>
      simp only [List.map_cons, List.zipWith_cons_cons, List.mem_cons] at h
      rcases h with rfl | h
      · exact ⟨x, y, List.mem_cons_self .., List.mem_cons_self .., rfl⟩
      · obtain ⟨u, v, h1, h2, h3⟩ := ih h
        exact ⟨u, v, List.mem_cons_of_mem _ h1, List.mem_cons_of_mem _ h2, h3⟩
theorem mem_behind {n p j : Nat} : j ∈ behind n p ↔ p < j ∧ j < n := by
  unfold behind
  rw [List.mem_range'_1]
  omega
theorem takeS_okL {m : Mat} {n B p : Nat} {S : List Nat} (sq : Sq n m) (bm : MBd B m) (hp : p < n) (hne : mGet m p p ≠ GQ.ofInt 0) : Sq n (takeS m p S) ∧ MBd (5 * B + 3) (takeS m p S) := by
  have hm := sq.rows
  refine ⟨⟨by rw [takeS_len]; exact hm, fun r hr => ?_⟩, fun r hr => ?_⟩
  · obtain ⟨j, hj, rfl⟩ := List.mem_map.mp hr
    have hj : j < n := by have := List.mem_range.mp hj; omega
    split
    · unfold takeRow lessRow
      rw [List.length_zipWith, row_len sq hj, row_len sq hp, Nat.min_self]
    · exact row_len sq hj
  · obtain ⟨j, hj, rfl⟩ := List.mem_map.mp hr
    have hj : j < n := by have := List.mem_range.mp hj; omega
    have bj : RBd B (m.getD j []) := bm _ (getD_mem (by omega))
    have bp : RBd B (m.getD p []) := bm _ (getD_mem (by omega))
    split
    · intro x hx
      exact (lessRow_bd bj bp (Bd.div (mget_bd sq bm hj hp) (mget_bd sq bm hp hp) hne) x hx).mono (by omega)
    · intro x hx
      exact (bj x hx).mono (by omega)
theorem re_ne {x : GQ} (h : x.re ≠ 0) : x ≠ GQ.ofInt 0 := fun e => h (by rw [e]; rfl)
def R_Lrank : Rel := fun ds T => ∃ (m : Mat) (n : Nat), ds = [lmatD m] ∧ Sq n m ∧ MBd 900 m ∧ n ≤ 6 ∧ T = fun z => isNon z = !lrF n 0 m ∧ noOl z = true
theorem ok_Lrank (T : Tx P K mg) : Fk P w K mg base "_law_rank" 37 R_Lrank := by
  obtain ⟨fd, F⟩ := T.F_Lrank
  refine mkFk F sc_Lrank T.g_Lrank ?_ ?_ (fun _ _ _ _ _ _ us hl => match us, hl with | [_], _ => rfl)
  · rintro ds S ⟨m, n, rfl, _⟩; rfl
  · rintro cdv A outer s H E hr ds S ⟨m0, n, rfl, sq0, bm0, hn, rfl⟩
    have hnd := sc_Lrank.nd
    have hm0 := sq0.rows
    refine xss_parT 1 2 hnd (es := m0.map lrowD) (xf_imp (xf_map (own := [("_law_row", 7)]) (τ := tName 7) (ds := m0.map lrowD) (fun d => d) rfl hnd (xi_list (xv_var 0)) (blk_ok rfl (by rfl)) (fun _ _ _ _ _ => xg_name 7 hnd) (by rw [List.length_map]; omega) ?_) fun z e => e.trans (List.map_id' _)) xv_int ?_
    · intro d hd
      obtain ⟨r, hr', rfl⟩ := List.mem_map.mp hd
      exact ⟨_, rfl, rfl, fun _ _ _ _ _ => xv_of_xf (xf_listOf T.b_list (xv_var 7) rfl)⟩
    refine xss_cons (M := fun ρ => ∃ (m : Mat) (i : Int) (o3 o4 o5 o6 o7 o8 o9 : Option D), lrF n 0 m0 = true ∧ ρ = [some (lmatD m0), some (.ol (m.map lrowD)), some (.int i), o3, o4, o5, o6, o7, o8, o9]) (xs_for (L := [3]) PassesOwn.never rfl (xi_range1 T.b_range (xv_len T.b_len (xv_var 1) rfl) (m := n) (by rw [List.length_map, hm0]; simp) (by rw [List.length_map, hm0]; omega)) (xg_name 3 hnd) (fun at_ ρ => ∃ (m : Mat) (i : Int) (o3 o4 o5 o6 o7 o8 o9 : Option D), Sq n m ∧ MBd (bnd at_) m ∧ lrF (n - at_) at_ m = lrF n 0 m0 ∧ ρ = [some (lmatD m0), some (.ol (m.map lrowD)), some (.int i), o3, o4, o5, o6, o7, o8, o9]) ⟨m0, 0, none, none, none, none, none, none, none, sq0, bm0, rfl, rfl⟩ ?_ ?_) ?_
    · rintro p d ρ1 hd ⟨m, ii, o3, o4, o5, o6, o7, o8, o9, sq, bm, hF, rfl⟩
      obtain ⟨hp, rfl⟩ := rng_at hd
      rw [show (0 : Int) + (p : Nat) = (p : Int) by omega]
      have hm := sq.rows
      have eF : lrF (n - p) p m = (if (mGet m p p).re < 0 then false else if (mGet m p p).re = 0 then (if rowBad m p then false else lrF (n - (p + 1)) (p + 1) m) else lrF (n - (p + 1)) (p + 1) (takeS m p (behind m.length p))) := by
        rw [show n - p = (n - (p + 1)) + 1 by omega]; rfl
      rw [eF] at hF
      have hb0 := bnd_pos p
      refine ⟨_, rfl, ?_⟩
      refine xss_set 4 hnd (xv_lget sq hp hp (xv_var 1) rfl (xv_var 3) (xv_var 3)) ?_
      -- the test
      refine xss_cons (M := fun ρ => ((mGet m p p).re < 0 → False) ∧ ((mGet m p p).re = 0 → rowBad m p = false) ∧ ρ = [some (lmatD m0), some (.ol (m.map lrowD)), some (.int ii), some (.int (p : Int)), some (lnum (mGet m p p)), o5, o6, o7, o8, o9]) (xs_if (k := decide ((mGet m p p).re < 0) || (decide ((mGet m p p).re = 0) && rowBad m p)) (xt_or (xt_to (xt_lt (xv_l0 (xv_var 4)) xv_int) (nl_neg _)) fun _ => pw_or1 (xt_and (xt_to (xt_eq (xv_l0 (xv_var 4)) xv_int) (nl_zero _)) fun _ => pw_and1 (xt_to (xt_val (xv_any (bs := (List.range' p (m.length - p)).map fun t => !decide (mGet m p t = GQ.ofInt 0)) rfl T.b_any (xv_of_xf (xf_imp (xf_map (own := [("_law_to", 5)]) (τ := tName 5) (ds := (List.range' p (m.length - p)).map fun (t : Nat) => D.int (t : Int)) (fun d => match d with | .int t => .bl (!decide (mGet m p t.toNat = GQ.ofInt 0)) | _ => .non) rfl hnd ?xi (blk_ok rfl (by rfl)) (fun _ _ _ _ _ => xg_name 5 hnd) (by simp; omega) ?el) fun z e => e.trans ?fm)))) (by rw [List.any_map]; rfl))).pt).pt (fun hz => ?bad) fun hz => ?good) ?_
      case xi =>
        have e : rng (p : Nat) (m.length - p) = (List.range' p (m.length - p)).map fun (t : Nat) => D.int (t : Int) := by
          unfold rng
          rw [List.range'_eq_map_range, List.map_map]
          refine List.map_congr_left fun k _ => ?_
          show D.int _ = D.int _
          congr 1
        rw [← e]
        exact xi_range2 T.b_range (xv_var 3) (xv_len T.b_len (xv_var 1) rfl) (by rw [List.length_map]; omega) (by rw [List.length_map]; omega)
      case el =>
        intro d hd
        obtain ⟨t, ht, rfl⟩ := List.mem_map.mp hd
        have ht := List.mem_range'_1.mp ht
        refine ⟨_, rfl, rfl, fun _ _ _ _ _ => ?_⟩
        exact xv_to (xv_neD 1 hr (xv_slT (xv_lget (i := p) (j := t) sq hp (by omega) (xv_var 1) rfl (xv_var 3) (xv_var 5)) xo_none (xo_some xv_int) (fun h => absurd (show (2 : Nat) = 3 from h.2) (by decide))) (xv_tup (xva_cons xv_int (xva_cons xv_int xva_nil))) rfl rfl) (congrArg D.bl (by rw [cut2]; exact two_ne (mGet m p t)))
      case fm =>
        simp only [List.map_map]
        refine List.map_congr_left fun t _ => ?_
        simp
      case bad =>
        refine xss_one (xs_retv xv_non ⟨⟨?_, rfl⟩, rfl⟩)
        show true = !lrF n 0 m0
        rw [← hF]
        rcases Bool.or_eq_true_iff.mp hz with h | h
        · rw [if_pos (of_decide_eq_true h)]; rfl
        · rw [Bool.and_eq_true] at h
          have h0 := of_decide_eq_true h.1
          rw [if_neg (by rw [h0]; decide), if_pos h0, if_pos h.2]; rfl
      case good =>
        have h1 := (Bool.or_eq_false_iff.mp hz).1
        have h2 := (Bool.or_eq_false_iff.mp hz).2
        refine xss_nil ⟨(fun h => by rw [decide_eq_true h] at h1; cases h1), fun h => ?_, rfl⟩
        rw [decide_eq_true h, Bool.true_and] at h2
        exact h2
      · rintro ρ2 ⟨n0, z0, rfl⟩
        have n0 : ¬ (mGet m p p).re < 0 := n0
        rw [if_neg n0] at hF
        refine xss_one (xs_if (k := decide (0 < (mGet m p p).re)) (xt_to (xt_gt (xv_l0 (xv_var 4)) xv_int) (nl_pos _)) (fun hz => ?_) fun hz => ?_)
        · have hpos := of_decide_eq_true hz
          have hre : (mGet m p p).re ≠ 0 := fun e => by rw [e] at hpos; exact absurd hpos (by decide)
          have hne := re_ne hre
          rw [if_neg hre] at hF
          refine xss_set 2 hnd (xv_add (xv_var 2) xv_int) ?_
          have hB : behind m.length p = behind n p := by rw [hm]
          rw [hB] at hF
          obtain ⟨ts1, ts2⟩ := takeS_okL (S := behind n p) sq bm hp hne
          refine xss_one (xs_for (L := [5]) (ds := (behind n p).map fun (t : Nat) => D.int (t : Int)) PassesOwn.never rfl ?xi2 (xg_name 5 hnd) (fun c ρ => ∃ o5 o6 o7 o8 o9, ρ = [some (lmatD m0), some (.ol ((takeS m p ((behind n p).take c)).map lrowD)), some (.int (ii + 1)), some (.int (p : Int)), some (lnum (mGet m p p)), o5, o6, o7, o8, o9]) ⟨o5, o6, o7, o8, o9, by rw [List.take_zero, takeS_nil]; rfl⟩ ?_ ?_)
          case xi2 =>
            have e : rng ((p + 1 : Nat) : Int) (n - (p + 1)) = (behind n p).map fun (t : Nat) => D.int (t : Int) := by
              unfold rng behind
              rw [List.range'_eq_map_range, List.map_map]
              refine List.map_congr_left fun k _ => ?_
              show D.int _ = D.int _
              congr 1
            rw [← e]
            exact xi_range2 T.b_range (xv_to (xv_add (xv_var 3) xv_int) rfl) (xv_len T.b_len (xv_var 1) rfl) (by rw [List.length_map, hm]; omega) (by rw [List.length_map, hm]; omega)
          · rintro c d ρ3 hd ⟨o5, o6, o7, o8, o9, rfl⟩
            rw [List.getElem?_map] at hd
            obtain ⟨j, hj, rfl⟩ := Option.map_eq_some_iff.mp hd
            have hjm := mem_behind.mp (List.mem_of_getElem? hj)
            have ndB : (behind n p).Nodup := List.nodup_range'
            have hjS : j ∉ (behind n p).take c := fun hmem => by
              obtain ⟨i2, h2⟩ := List.getElem?_of_mem hmem
              rw [List.getElem?_take] at h2
              split at h2
              · have := nodup_at ndB h2 hj
                omega
              · cases h2
            have hpS : p ∉ (behind n p).take c := fun hmem => by have := mem_behind.mp (List.mem_of_mem_take hmem); omega
            have rj : (takeS m p ((behind n p).take c)).getD j [] = m.getD j [] := by rw [takeS_at (by omega), if_neg hjS]
            have rp : (takeS m p ((behind n p).take c)).getD p [] = m.getD p [] := by rw [takeS_at (by omega), if_neg hpS]
            obtain ⟨sqc, _⟩ := takeS_okL (S := (behind n p).take c) sq bm hp hne
            have gj : mGet (takeS m p ((behind n p).take c)) j p = mGet m j p := by unfold mGet; rw [rj]
            have bj : RBd (bnd p) (m.getD j []) := bm _ (getD_mem (by omega))
            have bp : RBd (bnd p) (m.getD p []) := bm _ (getD_mem (by omega))
            have hp4 : bnd p ≤ 6000000 := bnd_le (by omega)
            have bq := Bd.div (mget_bd sq bm hjm.2 hp) (mget_bd sq bm hp hp) hne
            refine ⟨_, rfl, ?_⟩
            refine xss_set 6 hnd (d := lnum (mGet m j p / mGet m p p)) (xv_call (ok_Lover T) (hr.mono (by decide)) (xva_cons (xv_to (xv_lget sqc hjm.2 hp (xv_var 1) rfl (xv_var 5) (xv_var 3)) (by rw [gj])) (xva_cons (xv_var 4) xva_nil)) ⟨_, _, bnd p, rfl, hne, hb0, by omega, mget_bd sq bm hjm.2 hp, mget_bd sq bm hp hp, rfl⟩) ?_
            refine xss_setI 1 j rfl (xv_var 5) (d := lrowD (takeRow m p j)) (xv_to (xv_of_xf (xf_map (own := [("_law_entry_here", 8), ("_law_mate", 9)]) (τ := tPair 8 9) (ds := ((m.getD j []).map lnum).zipWith (fun x y => D.tup [x, y]) ((m.getD p []).map lnum)) (fLL (mGet m j p / mGet m p p)) rfl hnd (xi_zip T.b_zip (xv_to (xv_ixL (xv_var 1) (xv_var 5) rfl (lmat_row (by rw [takeS_len]; omega))) (by rw [rj]; rfl)) (xv_to (xv_ixL (xv_var 1) (xv_var 3) rfl (lmat_row (by rw [takeS_len]; omega))) (by rw [rp]; rfl))) (blk_ok rfl (by rfl)) (fun _ _ _ _ _ => xg_pair 8 9 rfl hnd) (by rw [List.length_zipWith, List.length_map, List.length_map, row_len sq hjm.2]; omega) ?_)) (congrArg D.lst (zip_L _ _ _))) (by rw [List.length_map, takeS_len]; omega) rfl ?_
            · intro d hd
              obtain ⟨x, y, hx, hy, rfl⟩ := mem_zipL hd
              refine ⟨_, ⟨_, _, rfl, rfl⟩, by show noOl (lnum _) = true; rfl, fun _ _ _ _ _ => ?_⟩
              have e : fLL (mGet m j p / mGet m p p) (.tup [lnum x, lnum y]) = lnum (x - mGet m j p / mGet m p p * y) := by
                show lnum (unl (lnum x) - _ * unl (lnum y)) = _
                rw [unl_lnum, unl_lnum]
              rw [e]
              exact xv_call (ok_Lless T) hr (xva_cons (xv_var 8) (xva_cons (xv_call (ok_Ltimes T) (hr.mono (by decide)) (xva_cons (xv_var 6) (xva_cons (xv_var 9) xva_nil)) ⟨_, _, 3 * bnd p + 1, rfl, by omega, by omega, bq.mono (by omega), (bp y hy).mono (by omega), rfl⟩) xva_nil)) ⟨_, _, 4 * bnd p + 2, rfl, by omega, by omega, (bj x hx).mono (by omega), (bq.mul (bp y hy)).mono (by omega), rfl⟩
            · refine xss_nil ⟨some (.int (j : Int)), some (lnum (mGet m j p / mGet m p p)), o7, o8, o9, ?_⟩
              rw [← List.map_set, takeS_snoc (by omega)]
              have eS : (behind n p).take (c + 1) = (behind n p).take c ++ [j] := by rw [List.take_add_one, hj]; rfl
              rw [eS]; rfl
          · rintro ρ3 ⟨o5, o6, o7, o8, o9, rfl⟩
            rw [List.length_map, List.take_length]
            exact ⟨_, _, _, _, _, _, _, _, _, ts1, ts2, hF, rfl⟩
        · have hnp := of_decide_eq_false hz
          have hre : (mGet m p p).re = 0 := by grind
          rw [if_pos hre, z0 hre] at hF
          refine xss_nil ⟨m, ii, _, _, _, _, _, _, _, sq, fun r hr' x hx => (bm r hr' x hx).mono ?_, hF, rfl⟩
          show bnd p ≤ 5 * bnd p + 3
          omega
    · rintro ρ1 ⟨m, ii, o3, o4, o5, o6, o7, o8, o9, sq, bm, hF, rfl⟩
      rw [rng_len, Nat.sub_self] at hF
      exact ⟨m, ii, o3, o4, o5, o6, o7, o8, o9, hF.symm, rfl⟩
    · rintro ρ1 ⟨m, ii, o3, o4, o5, o6, o7, o8, o9, hF, rfl⟩
      exact xss_one (xs_retv (xv_var 2) ⟨⟨by rw [hF]; rfl, rfl⟩, rfl⟩)
end NL

/-! text L4 -/
set_option Elab.async false
set_option linter.all false
set_option maxRecDepth 100000
set_option maxHeartbeats 4000000
/-! The law: value, told, is_part, is_let, all, lots. -/
namespace NL
open PySem PySem.Spec L2
open PyProof.Rows (envOfC)
variable {P : Program} {w : World} {K : PySem.W.Frag} {mg : Str → Option Value} {base : Heap}
theorem rep_side {l r w : Int} {x : GQ} (h : rep l r w x) : rep r 0 w ⟨x.im, 0⟩ := ⟨h.1, h.2.2, by show (0 : Rat) * _ = ((0 : Int) : Rat); rw [Rat.zero_mul]; rfl⟩
def R_Lvalue : Rel := fun ds T => ∃ (x : GQ) (n : Nat), ds = [lnum x] ∧ Bd n x ∧ 0 < n ∧ n ≤ 900 ∧ T = fun z => z = .num x
theorem ok_Lvalue (T : Tx P K mg) : Fk P w K mg base "_law_value" 36 R_Lvalue := by
  obtain ⟨fd, F⟩ := T.F_Lvalue
  refine mkFk F sc_Lvalue T.g_Lvalue ?_ ?_ (fun _ _ _ _ _ _ us hl => match us, hl with | [_], _ => rfl)
  · rintro ds S ⟨x, n, rfl, _⟩; rfl
  · rintro cdv A outer s H E hr ds S ⟨x, n, rfl, bx, n0, hn, rfl⟩
    obtain ⟨x1, x2, x3⟩ := bx _ _ _ x.nn
    have r1 := rep_plain x.nn.rep
    have r2 := rep_side x.nn.rep
    obtain ⟨t1, b1, m1⟩ := rat_ex x.re
    obtain ⟨t2, b2, m2⟩ := rat_ex x.im
    have p0 : (0 : Int).natAbs < 2 ^ n := by show 0 < 2 ^ n; exact Nat.pow_pos (by decide)
    obtain ⟨u1, _, u3⟩ := r1.bd x1 p0 x3 _ _ _ m1
    obtain ⟨v1, _, v3⟩ := r2.bd x2 p0 x3 _ _ _ m2
    have hrep : rep (t1 * b2) (t2 * b1) (b1 * b2) x := by
      obtain ⟨a, _, c, _⟩ := m1
      obtain ⟨d, _, f, _⟩ := m2
      have c : x.re * (b1 : Rat) = (t1 : Rat) := c
      have f : x.im * (b2 : Rat) = (t2 : Rat) := f
      refine ⟨Int.mul_pos a d, ?_, ?_⟩
      · rw [Rat.intCast_mul, Rat.intCast_mul, ← c]; grind
      · rw [Rat.intCast_mul, Rat.intCast_mul, ← f]; grind
    exact xss_one (xs_retv (xv_make (ok_Twin2 T) hr (xva_cons (xv_make (ok_Ratio2 T) hr (xva_cons (xv_l0 (xv_var 0)) (xva_cons (xv_l2 (xv_var 0)) xva_nil)) ⟨_, _, x.re, rfl, r1, rfl⟩) (xva_cons (xv_make (ok_Ratio2 T) hr (xva_cons (xv_l1 (xv_var 0)) (xva_cons (xv_l2 (xv_var 0)) xva_nil)) ⟨_, _, x.im, rfl, r2, rfl⟩) xva_nil)) ⟨_, _, _, x, .inr (.inr ⟨x.re, x.im, t1, b1, t2, b2, n, rfl, m1, m2, u1, u3, v1, v3, n0, by omega, rfl, rfl, rfl⟩), hrep, rfl⟩) ⟨rfl, rfl⟩)
/-! ### told -/
noncomputable def tolD : D → D
  | .tup [z, .lst r] => .tup [.num (unl z), .lst (r.map fun d => .num (unl d))]
  | _ => .non
theorem tolD_eq (t : Told) : tolD (ltoldD t) = toldD t := by
  show D.tup [.num (unl (lnum t.1)), .lst ((t.2.map lnum).map fun d => .num (unl d))] = _
  rw [unl_lnum]
  unfold toldD
  congr 3
  rw [List.map_map]
  congr 1
  refine List.map_congr_left fun x _ => ?_
  show D.num (unl (lnum x)) = _
  rw [unl_lnum]
def R_Ltold : Rel := fun ds T => ∃ ts : List Told, ds = [ltoldsD ts] ∧ ts.length ≤ 10 ∧ (∀ t ∈ ts, Bd 3 t.1 ∧ t.2.length ≤ 10 ∧ ∀ a ∈ t.2, Bd 2 a) ∧ T = fun z => z = toldsD ts
theorem ok_Ltold (T : Tx P K mg) : Fk P w K mg base "_law_told" 37 R_Ltold := by
  obtain ⟨fd, F⟩ := T.F_Ltold
  refine mkFk F sc_Ltold T.g_Ltold ?_ ?_ (fun _ _ _ _ _ _ us hl => match us, hl with | [_], _ => rfl)
  · rintro ds S ⟨ts, rfl, _⟩; rfl
  · rintro cdv A outer s H E hr ds S ⟨ts, rfl, h10, hb, rfl⟩
    have hnd := sc_Ltold.nd
    refine xss_one (xs_retv (d := toldsD ts) (xv_to (xv_of_xf (xf_map (own := [("_law_point_here", 1), ("_law_numbers", 2)]) (τ := tPair 1 2) (ds := ts.map ltoldD) tolD rfl hnd (xi_list (xv_var 0)) (blk_ok rfl (by rfl)) (fun _ _ _ _ _ => xg_pair 1 2 rfl hnd) (by rw [List.length_map]; omega) ?_)) ?_) ⟨rfl, rfl⟩)
    · intro d hd
      obtain ⟨t, ht, rfl⟩ := List.mem_map.mp hd
      obtain ⟨b1, b2, b3⟩ := hb t ht
      refine ⟨_, ⟨_, _, rfl, rfl⟩, by rw [tolD_eq]; rfl, fun _ _ _ _ _ => ?_⟩
      rw [tolD_eq]
      refine xv_tup (xva_cons (xv_call (ok_Lvalue T) hr (xva_cons (xv_var 1) xva_nil) ⟨t.1, 3, rfl, b1, by decide, by decide, rfl⟩) (xva_cons (xv_to (xv_of_xf (xf_map (own := [("_law_number_here", 3)]) (τ := tName 3) (ds := t.2.map lnum) (fun d => .num (unl d)) rfl hnd (xi_list (xv_var 2)) (blk_ok rfl (by rfl)) (fun _ _ _ _ _ => xg_name 3 hnd) (by rw [List.length_map]; omega) ?_)) ?_) xva_nil))
      · intro d hd
        obtain ⟨x, hx, rfl⟩ := List.mem_map.mp hd
        refine ⟨_, rfl, rfl, fun _ _ _ _ _ => ?_⟩
        rw [unl_lnum]
        exact xv_call (ok_Lvalue T) hr (xva_cons (xv_var 3) xva_nil) ⟨x, 2, rfl, b3 x hx, by decide, by decide, rfl⟩
      · rw [List.map_map]
        congr 1
        refine List.map_congr_left fun x _ => ?_
        show D.num (unl (lnum x)) = _
        rw [unl_lnum]
    · unfold toldsD
      rw [List.map_map]
      congr 1
      exact List.map_congr_left fun t _ => tolD_eq t
/-! ### is_part -/
def R_Lis_part : Rel := fun ds T => ∃ (a b : List Nat), ds = [natsD a, natsD b] ∧ a.length ≤ 100 ∧ T = fun z => z = .bl ((!decide (a = b)) && partB a b)
theorem natsD_eq (a b : List Nat) : decide (natsD a = natsD b) = decide (a = b) := decide_eq_decide.mpr ⟨natsD_inj, fun h => by rw [h]⟩
theorem ok_Lis_part (T : Tx P K mg) : Fk P w K mg base "_law_is_part" 1 R_Lis_part := by
  obtain ⟨fd, F⟩ := T.F_Lis_part
  refine mkFk F sc_Lis_part T.g_Lis_part ?_ ?_ (fun _ _ _ _ _ _ us hl => match us, hl with | [_, _], _ => rfl)
  · rintro ds S ⟨a, b, rfl, _⟩; rfl
  · rintro cdv A outer s H E hr ds S ⟨a, b, rfl, hl, rfl⟩
    have hnd := sc_Lis_part.nd
    refine xss_one (xs_retv (xe_and (xv_to (xv_neD 1 hr (xv_var 0) (xv_var 1) (pdD_nats a) (pdD_nats b)) (congrArg (fun z => D.bl (!z)) (natsD_eq a b))) fun _ => xe_one (xv_to (xv_all (bs := a.map fun p => decide (p ∈ b)) rfl T.b_all (xv_of_xf (xf_imp (xf_map (own := [("_law_at", 2)]) (τ := tName 2) (ds := a.map fun (n : Nat) => D.int (n : Int)) (fun d => match d with | .int i => .bl (decide (i.toNat ∈ b)) | _ => .non) rfl hnd (xi_list (xv_var 0)) (blk_ok rfl (by rfl)) (fun _ _ _ _ _ => xg_name 2 hnd) (by rw [List.length_map]; omega) ?_) fun z e => e.trans (by simp only [List.map_map]; rfl)))) (congrArg D.bl (by rw [List.all_map]; rfl)))) ⟨rfl, rfl⟩)
    intro d hd
    obtain ⟨p, hp, rfl⟩ := List.mem_map.mp hd
    exact ⟨_, rfl, rfl, fun _ _ _ _ _ => xv_to (xv_inI (xv_var 2) (xv_var 1) (natsD_items b)) (congrArg D.bl in_nats)⟩
end NL

/-! text L5 -/
set_option Elab.async false
set_option linter.all false
set_option maxRecDepth 100000
set_option maxHeartbeats 4000000
/-! The law: is_let, all, lots. -/
namespace NL
open PySem PySem.Spec L2
open PyProof.Rows (envOfC)
variable {P : Program} {w : World} {K : PySem.W.Frag} {mg : Str → Option Value} {base : Heap}
/-- the rows whose points are in the lot -/
def selR (sp : List Nat) (lot : List Nat) : List Nat := (List.range sp.length).filter fun a => decide (sp.getD a 0 ∈ lot)
def subMat (m : Mat) (rows : List Nat) : Mat := rows.map fun a => rows.map fun b => mGet m a b
theorem subMat_ok {m : Mat} {n B : Nat} {rows : List Nat} (sq : Sq n m) (bm : MBd B m) (hr : ∀ a ∈ rows, a < n) : Sq rows.length (subMat m rows) ∧ MBd B (subMat m rows) := by
  refine ⟨⟨by simp [subMat], fun r h => ?_⟩, fun r h x hx => ?_⟩
  · obtain ⟨a, _, rfl⟩ := List.mem_map.mp h
    simp
  · obtain ⟨a, ha, rfl⟩ := List.mem_map.mp h
    obtain ⟨b, hb, rfl⟩ := List.mem_map.mp hx
    exact mget_bd sq bm (hr a ha) (hr b hb)
theorem selR_lt {sp lot : List Nat} : ∀ a ∈ selR sp lot, a < sp.length := fun a h => List.mem_range.mp (List.mem_filter.mp h).1
theorem selR_len (sp lot : List Nat) : (selR sp lot).length ≤ sp.length := by
  have := List.length_filter_le (fun a => decide (sp.getD a 0 ∈ lot)) (List.range sp.length)
  rw [List.length_range] at this
  exact this
theorem natsD_at {l : List Nat} {a : Nat} (h : a < l.length) : atI (l.map fun (n : Nat) => D.int (n : Int)) (a : Int) = some (.int (l.getD a 0 : Nat)) := atI_nat (by rw [List.getElem?_map, List.getElem?_eq_getElem h, List.getD_eq_getElem?_getD, List.getElem?_eq_getElem h]; rfl)
def R_Lis_let : Rel := fun ds T => ∃ (m : Mat) (sp lot : List Nat), ds = [lmatD m, natsD sp, natsD lot] ∧ Sq sp.length m ∧ MBd 900 m ∧ sp.length ≤ 6 ∧ T = fun z => z = .bl (lrF (selR sp lot).length 0 (subMat m (selR sp lot)))
theorem ok_Lis_let (T : Tx P K mg) : Fk P w K mg base "_law_is_let" 38 R_Lis_let := by
  obtain ⟨fd, F⟩ := T.F_Lis_let
  refine mkFk F sc_Lis_let T.g_Lis_let ?_ ?_ (fun _ _ _ _ _ _ us hl => match us, hl with | [_, _, _], _ => rfl)
  · rintro ds S ⟨m, sp, lot, rfl, _⟩; rfl
  · rintro cdv A outer s H E hr ds S ⟨m, sp, lot, rfl, sq, bm, h6, rfl⟩
    have hnd := sc_Lis_let.nd
    obtain ⟨s1, b1⟩ := subMat_ok sq bm (selR_lt (sp := sp) (lot := lot))
    have hsl := selR_len sp lot
    refine xss_set 3 hnd (d := natsD (selR sp lot)) (xv_to (xv_of_xf (xf_fm (own := [("_law_at", 4)]) (τ := tName 4) (ds := rng 0 sp.length) (fun d => match d with | .int i => decide (sp.getD i.toNat 0 ∈ lot) | _ => false) (fun d => d) rfl hnd (xi_range1 T.b_range (xv_len T.b_len (xv_var 1) rfl) (by simp) (by simp; omega)) (blk_ok rfl (by rfl)) (fun _ _ _ _ _ => xg_name 4 hnd) (by rw [rng_len]; omega) ?_)) ?_) ?_
    · intro d hd
      obtain ⟨a, ha, rfl⟩ := mem_rng hd
      rw [show (0 : Int) + (a : Nat) = (a : Int) by omega]
      exact ⟨_, rfl, fun _ _ _ _ _ => xt_to (xt_inI (xv_ixL (xv_var 1) (xv_var 4) rfl (natsD_at ha)) (xv_var 2) (natsD_items lot)) in_nats, fun _ => ⟨rfl, fun _ _ _ _ _ => xv_var 4⟩⟩
    · rw [List.map_id', rng_nats]
      unfold natsD selR
      rw [List.filter_map]
      congr 1
    · refine xss_one (xs_ret (S := fun z => z = .bl (lrF (selR sp lot).length 0 (subMat m (selR sp lot)))) (pe_imp (pe_cmp (pc_notN (xe_call (S := fun z => isNon z = !lrF (selR sp lot).length 0 (subMat m (selR sp lot))) (ok_Lrank T) hr (xva_cons (xv_to (d' := lmatD (subMat m (selR sp lot))) (xv_of_xf (xf_map (own := [("_law_here", 5)]) (τ := tName 5) (ds := (selR sp lot).map fun (n : Nat) => D.int (n : Int)) (fun d => match d with | .int i => lrowD ((selR sp lot).map fun b => mGet m i.toNat b) | _ => .non) rfl hnd (xi_list (xv_var 3)) (blk_ok rfl (by rfl)) (fun _ _ _ _ _ => xg_name 5 hnd) (by rw [List.length_map]; omega) ?e1)) ?e2) xva_nil) (fun ds e => by subst e; exact ⟨rfl, _, ⟨_, _, rfl, s1, b1, by omega, rfl⟩, fun d h => h.1⟩))) rfl) fun σ H Q ⟨G, H0, l, sl, k⟩ => ⟨G, H0, l, sl, fun G' H' v d t i s => k G' H' _ _ t (Is.of (.bl _)) (by rw [isN_of i, s, Bool.not_not])⟩) fun d e => by subst e; exact ⟨rfl, rfl⟩)
      case e1 =>
        intro d hd
        obtain ⟨a, ha, rfl⟩ := List.mem_map.mp hd
        have hal := selR_lt a ha
        refine ⟨_, rfl, rfl, fun _ _ _ _ _ => ?_⟩
        refine xe_of_xf (xf_map (own := [("_law_there", 6)]) (τ := tName 6) (ds := (selR sp lot).map fun (n : Nat) => D.int (n : Int)) (fun d => match d with | .int j => lnum (mGet m a j.toNat) | _ => .non) rfl hnd (xi_list (xv_var 3)) (blk_ok rfl (by rfl)) (fun _ _ _ _ _ => xg_name 6 hnd) (by rw [List.length_map]; omega) ?_) fun z e => ?_
        · intro d hd
          obtain ⟨b, hb, rfl⟩ := List.mem_map.mp hd
          exact ⟨_, rfl, rfl, fun _ _ _ _ _ => xv_lget (i := a) (j := b) sq hal (selR_lt b hb) (xv_var 0) rfl (xv_var 5) (xv_var 6)⟩
        · subst e
          show D.lst _ = D.lst _
          congr 1
          rw [List.map_map, List.map_map]; rfl
      case e2 =>
        show D.lst _ = D.lst _
        congr 1
        unfold subMat
        rw [List.map_map, List.map_map]; rfl
/-! ### all -/
def allL : Nat → List (List Nat)
  | 0 => [[]]
  | n + 1 => allL n ++ (allL n).map fun l => l ++ [n]
theorem allL_len : ∀ n, (allL n).length = 2 ^ n
  | 0 => rfl
  | n + 1 => by unfold allL; rw [List.length_append, List.length_map, allL_len n, Nat.pow_succ]; omega
theorem allL_el : ∀ n, ∀ l ∈ allL n, l.length ≤ n
  | 0, l, h => by rw [List.mem_singleton.mp h]; simp
  | n + 1, l, h => by
    rcases List.mem_append.mp h with h | h
    · exact Nat.le_succ_of_le (allL_el n l h)
    · obtain ⟨l', h', rfl⟩ := List.mem_map.mp h
      have := allL_el n l' h'
      simp; omega
def snocD (n : Int) : D → D
  | .lst es => .lst (es ++ [.int n])
  | _ => .non
def R_Lall : Rel := fun ds T => ∃ n : Nat, ds = [.int (n : Int)] ∧ n ≤ 4 ∧ T = fun z => z = lotsD (allL n)
theorem ok_Lall (T : Tx P K mg) : Fk P w K mg base "_law_all" 1 R_Lall := by
  obtain ⟨fd, F⟩ := T.F_Lall
  refine mkFk F sc_Lall T.g_Lall ?_ ?_ (fun _ _ _ _ _ _ us hl => match us, hl with | [_], _ => rfl)
  · rintro ds S ⟨n, rfl, _⟩; rfl
  · rintro cdv A outer s H E hr ds S ⟨n, rfl, hn, rfl⟩
    have hnd := sc_Lall.nd
    refine xss_set 1 hnd (d := lotsD (allL 0)) (xv_lst (xva_cons (xv_lst xva_nil) xva_nil)) ?_
    refine xss_cons (M := fun ρ => ∃ o2 o3, ρ = [some (.int (n : Int)), some (lotsD (allL n)), o2, o3]) (xs_for (L := [2]) PassesOwn.never rfl (xi_range1 T.b_range (xv_var 0) (m := n) (by omega) (by omega)) (xg_name 2 hnd) (fun i ρ => ∃ o2 o3, ρ = [some (.int (n : Int)), some (lotsD (allL i)), o2, o3]) ⟨none, none, rfl⟩ ?_ ?_) ?_
    · rintro i d ρ1 hd ⟨o2, o3, rfl⟩
      obtain ⟨h1, rfl⟩ := rng_at hd
      rw [show (0 : Int) + (i : Nat) = (i : Int) by omega]
      have hal := allL_len i
      have h16 : 2 ^ i ≤ 16 := Nat.le_trans (Nat.pow_le_pow_right (by decide) (show i ≤ 4 by omega)) (by decide)
      refine ⟨_, rfl, xss_one (xs_set 1 (S := fun z => z = lotsD (allL (i + 1))) (xe_of_xf (xf_cat (xv_var 1) (xv_of_xf (xf_map (own := [("_law_lot", 3)]) (τ := tName 3) (ds := (allL i).map natsD) (snocD (i : Int)) rfl hnd (xi_list (xv_var 1)) (blk_ok rfl (by rfl)) (fun _ _ _ _ _ => xg_name 3 hnd) (by rw [List.length_map]; omega) ?_)) rfl rfl (by rw [List.length_map, List.length_map, List.length_map]; omega)) fun z e => ?_) (fun _ e => by subst e; exact ⟨rfl, _, _, rfl⟩) hnd)⟩
      · intro d hd
        obtain ⟨l, hl, rfl⟩ := List.mem_map.mp hd
        have := allL_el i l hl
        exact ⟨_, rfl, rfl, fun _ _ _ _ _ => xv_of_xf (xf_cat (xv_var 3) (xv_lst (xva_cons (xv_var 2) xva_nil)) rfl rfl (by simp; omega))⟩
      · subst e
        show D.lst _ = D.lst _
        congr 1
        show _ = (allL i ++ (allL i).map fun l => l ++ [i]).map natsD
        rw [List.map_append, List.map_map, List.map_map]
        congr 1
        refine List.map_congr_left fun l _ => ?_
        exact (fwk l i).symm
    · rintro ρ1 ⟨o2, o3, rfl⟩
      exact ⟨o2, o3, by rw [rng_len]⟩
    · rintro ρ1 ⟨o2, o3, rfl⟩
      exact xss_one (xs_retv (xv_var 1) ⟨rfl, rfl⟩)
end NL

/-! text DL20 -/
set_option Elab.async false
set_option linter.all false
set_option maxRecDepth 100000
set_option maxHeartbeats 4000000
/-! x, y = b, (a new list), where the names are captured. -/
namespace NL
open PySem PySem.Spec L2
open PyProof.Rows (envOfC)
section
variable {X : Cx} {ρ : Env} {Φ : Out} {pos : Pos} {rest : List Stmt}
/-- x, y = b, (a new list): through a tuple -/
theorem xss_parB (i j : Nat) {x y : Str} {a b : Expr} {px py pt : Pos} {kt k2 pt2} {es : List D} {d : D} (hN : X.N.Nodup) (ha : XV X a ρ d) (hb : XF X b ρ (fun z => z = es)) (hr : XSs X rest ((ρ.set i (some d)).set j (some (.ol es))) Φ) (n1 : noOl d = true := by rfl) (hc : X.calm = true := by rfl)
    (hi : X.N[i]? = some x := by rfl) (hj : X.N[j]? = some y := by rfl) (hx : Loc X.env.scope x := by first | exact Or.inl rfl | exact Or.inr rfl) (hy : Loc X.env.scope y := by first | exact Or.inl rfl | exact Or.inr rfl)
    (hf : X.fn x = true ∨ X.env.scope.names.lookup x = some .local := by first | exact .inl rfl | exact .inr rfl | assumption) (hf2 : X.fn y = true ∨ X.env.scope.names.lookup y = some .local := by first | exact .inl rfl | exact .inr rfl | assumption)
    (he : starEach [a, b] X.env = (false, eval a X.env) :: starEach [b] X.env := by rfl) (he2 : starEach [b] X.env = (false, eval b X.env) :: starEach [] X.env := by rfl)
    (hw : swappedStores [.Tuple [.Name x px, .Name y py] kt pt] (.Tuple [a, b] k2 pt2) X.env = pure none := by rfl) (hs : swapsWithSole [.Tuple [.Name x px, .Name y py] kt pt] (.Tuple [a, b] k2 pt2) pos.line X.env = pure false := by rfl) :
    XSs X (.Assign [.Tuple [.Name x px, .Name y py] kt pt] (.Tuple [a, b] k2 pt2) pos :: rest) ρ Φ :=
  xss_seq (ps_imp (ps_asg (pe_tup (pa_cons ha (pa_cons hb pa_nil he2) he)) (pg_tup hc (pgs_cons (pg_name hN hi hx hf) (pgs_cons (pg_name hN hj hy hf2) pgs_nil))) hs hw rfl) fun Dn σ H ⟨G0, H0, G, t, sl, k1, _⟩ => ⟨G, H0, t.ok, sl, fun G1 H1 v z t1 i1 s1 => by
    subst s1
    refine ⟨G1, H0, t1.ok, sl.mono t1, fun G2 H2 p vs ds t2 hp hg hh hd s => ?_⟩
    subst s
    refine ⟨by rw [sizeLine_eq]; simp, fun q hq => ?_⟩
    have tq := Tr.own t2.ok hq (o := .tup [v, .ref p])
    have pq : p ≠ q := fun z => by rw [z, hq] at hh; cases hh
    refine ⟨q, [v, .ref p], rfl, SqT.of upd_same, rfl, v, [.ref p], rfl, .ref p, [], rfl, rfl, ?_⟩
    have tt := t.trans ((t1.trans t2).trans tq)
    have s1 := (sl.mono t1).set (i1.da n1) (i := i)
    have s2 := s1.mono (t2.trans tq)
    refine k1 G2 _ _ _ tt (s2.setOwn (is_ol ((t.trans t1).fresh0 hp) hg (by rw [upd_ne pq]; exact hh) hd) fun j e hj ne hs => ?_) rfl
    obtain ⟨q2, o, hv, hq2⟩ := s1.ownAt hj ne
    rw [hv] at hs; cases hs
    rw [hp] at hq2; cases hq2⟩) hr
end
end NL

/-! text L6 -/
set_option Elab.async false
set_option linter.all false
set_option maxRecDepth 100000
set_option maxHeartbeats 4000000
/-! The law: lots. -/
namespace NL
open PySem PySem.Spec L2
open PyProof.Rows (envOfC)
variable {P : Program} {w : World} {K : PySem.W.Frag} {mg : Str → Option Value} {base : Heap}
/-- the points of the spots -/
def spP (ts : List Told) : List Nat := (spots ts).map (·.1)
/-- the law's doable lots -/
def llotF (ts : List Told) (lot : List Nat) : Bool := lrF (selR (spP ts) lot).length 0 (subMat (ltabM ts) (selR (spP ts) lot))
def llots (ts : List Told) : List (List Nat) := (allL ts.length).filter (llotF ts)
def ofNL : D → List Nat
  | .lst es => es.map fun d => match d with | .int i => i.toNat | _ => 0
  | _ => []
theorem ofNL_nats (l : List Nat) : ofNL (natsD l) = l := by
  unfold ofNL natsD
  show List.map _ (List.map _ _) = _
  rw [List.map_map]
  exact (List.map_congr_left fun n _ => by simp [Function.comp]).trans (List.map_id' l)
def R_Llots : Rel := fun ds T => ∃ ts : List Told, ds = [ltoldsD ts] ∧ TsOk ts ∧ T = fun z => z = lotsD (llots ts)
theorem ok_Llots (T : Tx P K mg) : Fk P w K mg base "_law_lots" 40 R_Llots := by
  obtain ⟨fd, F⟩ := T.F_Llots
  refine mkFk F sc_Llots T.g_Llots ?_ ?_ (fun _ _ _ _ _ _ us hl => match us, hl with | [_], _ => rfl)
  · rintro ds S ⟨ts, rfl, _⟩; rfl
  · rintro cdv A outer s H E hr ds S ⟨ts, rfl, ok, rfl⟩
    have hnd := sc_Llots.nd
    have h4 := ok.len
    have htot := ok.tot
    have hf : ∀ t ∈ ts, t.2.length ≤ 10 := fun t ht => by have := (ok.few t ht).2; omega
    obtain ⟨sq, bm⟩ := ltabM_ok ok
    refine xss_parB 1 2 hnd (xv_call (ok_Ltable T) (hr.mono (by decide)) (xva_cons (xv_var 0) (xva_cons (xv_l101 xv_int xv_int xv_int) xva_nil)) ⟨ts, rfl, ok, rfl⟩) (xf_lst xva_nil) ?_
    refine xss_cons (M := fun ρ => ∃ o3 o4 o5, ρ = [some (ltoldsD ts), some (lmatD (ltabM ts)), some (.ol ((spP ts).map fun (n : Nat) => .int (n : Int))), o3, o4, o5]) (xs_for (L := [3]) PassesOwn.never rfl (xi_range1 T.b_range (xv_len T.b_len (xv_var 0) rfl) (m := ts.length) (by simp) (by simp; omega)) (xg_name 3 hnd) (fun i ρ => ∃ o3 o4 o5, ρ = [some (ltoldsD ts), some (lmatD (ltabM ts)), some (.ol (((preSp ts i).map (·.1)).map fun (n : Nat) => .int (n : Int))), o3, o4, o5]) ⟨none, none, none, rfl⟩ ?_ ?_) ?_
    · rintro i d ρ1 hd ⟨o3, o4, o5, rfl⟩
      obtain ⟨hi, rfl⟩ := rng_at hd
      rw [show (0 : Int) + (i : Nat) = (i : Int) by omega]
      have et : tAt ts i = ts[i] := tAt_get hi
      have hp := preSp_len hf i (by omega)
      have hl := hf ts[i] (List.getElem_mem hi)
      refine ⟨_, rfl, ?_⟩
      refine xss_one (xs_extend 2 rfl (S := fun es => es = (List.range (tAt ts i).2.length).map fun _ => D.int (i : Int)) (xe_of_xf (xf_map (own := [("_law_number_here", 4)]) (τ := tName 4) (ds := (tAt ts i).2.map lnum) (fun _ => .int (i : Int)) rfl hnd (xi_list (xv_ixT (xv_ixL (xv_var 0) (xv_var 3) rfl (atI_nat (by rw [List.getElem?_map, List.getElem?_eq_getElem hi, et]; rfl) : atI (ts.map ltoldD) (i : Int) = some (ltoldD (tAt ts i)))) xv_int rfl)) (blk_ok rfl (by rfl)) (fun _ _ _ _ _ => xg_name 4 hnd) (by rw [List.length_map, et]; omega) ?_) fun z e => ⟨z, rfl, e.trans ?_⟩) (fun es e => ⟨?_, ?_⟩))
      · intro d hd
        obtain ⟨k, hk, rfl⟩ := List.mem_map.mp hd
        exact ⟨_, rfl, rfl, fun _ _ _ _ _ => xv_var 3⟩
      · rw [List.map_map]
        refine List.ext_getElem (by simp) fun k h1 h2 => by simp
      · rw [e, List.length_map, List.length_map, List.length_map, List.length_range, et]; omega
      · subst e
        refine ⟨some (.int (i : Int)), o4, o5, ?_⟩
        rw [preSp_succ, List.map_append, List.map_append, List.map_map, List.map_map, List.map_map]; rfl
    · rintro ρ1 ⟨o3, o4, o5, rfl⟩
      exact ⟨o3, o4, o5, by rw [rng_len]; rfl⟩
    · rintro ρ1 ⟨o3, o4, o5, rfl⟩
      refine xss_frz 2 rfl ?_
      have hal := allL_len ts.length
      have h16 : 2 ^ ts.length ≤ 16 := Nat.le_trans (Nat.pow_le_pow_right (by decide) h4) (by decide)
      refine xss_one (xs_retv (d := lotsD (llots ts)) (xv_to (xv_of_xf (xf_fm (own := [("_law_lot", 5)]) (τ := tName 5) (ds := (allL ts.length).map natsD) (fun d => llotF ts (ofNL d)) (fun d => d) rfl hnd (xi_list (xv_call (ok_Lall T) (hr.mono (by decide)) (xva_cons (xv_to (xv_len T.b_len (xv_var 0) rfl) (by rw [List.length_map])) xva_nil) ⟨ts.length, rfl, h4, rfl⟩)) (blk_ok rfl (by rfl)) (fun _ _ _ _ _ => xg_name 5 hnd) (by rw [List.length_map]; omega) ?_)) ?_) ⟨rfl, rfl⟩)
      · intro d hd
        obtain ⟨l, hl, rfl⟩ := List.mem_map.mp hd
        refine ⟨_, rfl, fun _ _ _ _ _ => xt_to (xt_val (xv_call (ok_Lis_let T) (hr.mono (by decide)) (xva_cons (xv_var 1) (xva_cons (xv_var 2) (xva_cons (xv_var 5) xva_nil))) ⟨ltabM ts, spP ts, l, rfl, by rw [spP, List.length_map]; exact sq, bm, by rw [spP, List.length_map]; omega, rfl⟩)) (by rw [ofNL_nats]; rfl), fun _ => ⟨rfl, fun _ _ _ _ _ => xv_var 5⟩⟩
      · rw [List.map_id']
        unfold llots lotsD
        rw [List.filter_map]
        congr 2
        exact List.filter_congr fun l _ => by rw [Function.comp, ofNL_nats]
end NL

/-! text DL21 -/
set_option Elab.async false
set_option linter.all false
set_option maxRecDepth 100000
set_option maxHeartbeats 4000000
/-! Pots; calls by keywords alone; values that are only known to exist. -/
namespace NL
open PySem PySem.Spec L2
open PyProof.Rows (envOfC)

/-! ### pots -/
theorem Tr.newPot {G H : Hp} (e : Le G H) {p : Addr} {i j : Int} (h : H p = none) (k0 : 0 ≤ i) (k1 : 0 ≤ j) (k2 : j < 2 ^ 40) : Tr G H (upd G p potMark) (upd H p (.lst [.int i, .int j])) where
  gg := Ex.upd (e.none h)
  ok := ⟨fun a u q n => by
    by_cases hp : a = p
    · subst hp; rw [upd_same] at q; exact absurd (Option.some.inj q).symm n
    · rw [upd_ne hp] at q ⊢; exact e.at_ a u q n, fun a q => by
    by_cases hp : a = p
    · subst hp; exact ⟨i, j, upd_same, k0, k1, k2⟩
    · rw [upd_ne hp] at q ⊢; exact e.pot a q⟩
  hh := fun a u q _ => by rw [upd_ne (ne_of_none q h)]; exact q
  pv := fun a u q n => by rw [upd_ne (ne_of_none q h)]; exact n
theorem Tr.pot {G0 H0 G H : Hp} (t : Tr G0 H0 G H) {p : Addr} {i j : Int} (hg : G p = some potMark) (k0 : 0 ≤ i) (k1 : 0 ≤ j) (k2 : j < 2 ^ 40) : Tr G0 H0 G (upd H p (.lst [.int i, .int j])) where
  gg := t.gg
  ok := ⟨fun a u q n => by
    by_cases hp : a = p
    · subst hp; rw [hg] at q; exact absurd (Option.some.inj q).symm n
    · rw [upd_ne hp]; exact t.ok.at_ a u q n, fun a q => by
    by_cases hp : a = p
    · subst hp; exact ⟨i, j, upd_same, k0, k1, k2⟩
    · rw [upd_ne hp]; exact t.ok.pot a q⟩
  hh := fun a u q n => by
    by_cases hp : a = p
    · subst hp
      cases z : G0 a with
      | none => have := t.pv a u q z; rw [hg] at this; cases this
      | some x =>
        have := t.gg.go a x z
        rw [hg] at this
        exact absurd (z.trans this.symm) n
    · rw [upd_ne hp]; exact t.hh a u q n
  pv := t.pv
/-- an int from lo on, below hi -/
def IR (lo hi : Int) : D → Prop := fun z => ∃ i : Int, z = .int i ∧ lo ≤ i ∧ i < hi
/-- an int that is not below 0 -/
def INn : D → Prop := fun z => ∃ i : Int, z = .int i ∧ 0 ≤ i
section
variable {X : Cx} {ρ : Env} {S : D → Prop} {Φ : Out} {pos p : Pos} {a b : Expr} {rest : List Stmt} {k : Nat}
theorem xv_pot {i j : Int} (ha : XV X a ρ (.int i)) (hb : XV X b ρ (.int j)) (k0 : 0 ≤ i) (k1 : 0 ≤ j) (k2 : j < 2 ^ 40) (he : starEach [a, b] X.env = (false, eval a X.env) :: starEach [b] X.env := by rfl) (he2 : starEach [b] X.env = (false, eval b X.env) :: starEach [] X.env := by rfl) : XV X (.List [a, b] pos) ρ .pot :=
  pe_imp (pe_lst (xva_cons ha (xva_cons hb xva_nil he2) he)) fun σ H Q ⟨G, H0, l, sl, kk⟩ => ⟨G, H0, l, sl, fun G1 H1 vs ds' t1 i1 s1 => by
    subst s1
    obtain ⟨v, u, rfl, i1, i2⟩ := isl2 i1
    cases i1; cases i2
    refine ⟨by rw [sizeLine_eq]; simp, fun p hp => ?_⟩
    have t2 := Tr.newPot t1.ok hp k0 k1 k2
    exact kk _ _ _ .pot (t1.trans t2) (Is.of (.pot upd_same)) rfl⟩
/-- operators of values that are only known to exist -/
theorem xe_opE {op : Operator} {r : R2} {Sa Sb : D → Prop} (ho : OpR X (binaryOp op) r) (ha : XE X a ρ Sa) (hb : XE X b ρ Sb) (h : ∀ x y, Sa x → Sb y → RD X.K r x y S) : XE X (.BinOp a op b pos) ρ S :=
  xe_bin (fun p q => pe_op ho p q) ha hb h
theorem xe_addE {Sa Sb : D → Prop} (ha : XE X a ρ Sa) (hb : XE X b ρ Sb) (h : ∀ x y, Sa x → Sb y → ∃ i j : Int, x = .int i ∧ y = .int j ∧ S (.int (i + j))) : XE X (.BinOp a .Add b pos) ρ S :=
  xe_opE op_add ha hb fun x y sx sy => by
    obtain ⟨i, j, rfl, rfl, s⟩ := h x y sx sy
    exact fun H0 G H v u l i1 i2 Q q => by
      cases i1; cases i2
      exact ⟨i, j, rfl, rfl, q G H _ _ (Tr.refl l) (Is.of (.int _)) s⟩
theorem xe_subE {Sa Sb : D → Prop} (ha : XE X a ρ Sa) (hb : XE X b ρ Sb) (h : ∀ x y, Sa x → Sb y → ∃ i j : Int, x = .int i ∧ y = .int j ∧ S (.int (i - j))) : XE X (.BinOp a .Sub b pos) ρ S :=
  xe_opE op_sub ha hb fun x y sx sy => by
    obtain ⟨i, j, rfl, rfl, s⟩ := h x y sx sy
    exact fun H0 G H v u l i1 i2 Q q => by
      cases i1; cases i2
      exact ⟨i, j, rfl, rfl, q G H _ _ (Tr.refl l) (Is.of (.int _)) s⟩
theorem xe_mulE {Sa Sb : D → Prop} (ha : XE X a ρ Sa) (hb : XE X b ρ Sb) (h : ∀ x y, Sa x → Sb y → ∃ i j : Int, x = .int i ∧ y = .int j ∧ IntMulOk i j ∧ S (.int (i * j))) : XE X (.BinOp a .Mult b pos) ρ S :=
  xe_opE op_mulL ha hb fun x y sx sy => by
    obtain ⟨i, j, rfl, rfl, c, s⟩ := h x y sx sy
    exact fun H0 G H v u l i1 i2 Q q => by
      cases i1; cases i2
      exact ⟨i, j, rfl, rfl, c, q G H _ _ (Tr.refl l) (Is.of (.int _)) s⟩
theorem xe_modE {Sa Sb : D → Prop} (ha : XE X a ρ Sa) (hb : XE X b ρ Sb) (h : ∀ x y, Sa x → Sb y → ∃ i j : Int, x = .int i ∧ y = .int j ∧ 0 < j ∧ S (.int (i % j))) : XE X (.BinOp a .Mod b pos) ρ S :=
  xe_opE op_mod ha hb fun x y sx sy => by
    obtain ⟨i, j, rfl, rfl, c, s⟩ := h x y sx sy
    exact fun H0 G H v u l i1 i2 Q q => by
      cases i1; cases i2
      exact ⟨i, j, rfl, rfl, c, q G H _ _ (Tr.refl l) (Is.of (.int _)) s⟩
theorem xe_fdivE {Sa Sb : D → Prop} (ha : XE X a ρ Sa) (hb : XE X b ρ Sb) (h : ∀ x y, Sa x → Sb y → ∃ i j : Int, x = .int i ∧ y = .int j ∧ CDivW i j ∧ S (.int (i / j))) : XE X (.BinOp a .FloorDiv b pos) ρ S :=
  xe_opE op_fdivW ha hb fun x y sx sy => by
    obtain ⟨i, j, rfl, rfl, c, s⟩ := h x y sx sy
    exact fun H0 G H v u l i1 i2 Q q => by
      cases i1; cases i2
      exact ⟨i, j, rfl, rfl, c, q G H _ _ (Tr.refl l) (Is.of (.int _)) s⟩
theorem xe_cbE {e : Expr} {es : List Expr} {r : List V → Hp → VK → Prop} {Ss : List D → Prop} (hp : ∀ {t : TA}, PA X es t → PE X e (tCB r t)) (ha : XA X es ρ Ss) (h : ∀ ds, Ss ds → RC X.K r ds S) : XE X e ρ S :=
  pe_imp (hp ha) fun σ H Q ⟨G, H0, l, sl, k⟩ => ⟨G, H0, l, sl, fun G1 H1 vs ds t1 i1 s1 => h ds s1 H0 G1 H1 vs t1.ok i1 Q fun G2 H2 z d t2 i2 s2 => k G2 H2 z d (t1.trans t2) i2 s2⟩
/-- int(e) -/
theorem xe_intE (hm : X.mg "int" = none) {Sa : D → Prop} (ha : XE X a ρ Sa) (h : ∀ x, Sa x → ∃ i : Int, x = .int i ∧ S (.int i)) (hg : Gl X "int" := by rfl) (he : starEach [a] X.env = (false, eval a X.env) :: starEach [] X.env := by rfl) (hpl : (backTo pos (starEach [] X.env)).any (·.1) = false := by rfl) : XE X (.Call (.Name "int" p) [a] [] pos) ρ S :=
  xe_cbE (Ss := fun ds => ∃ x, ds = [x] ∧ Sa x) (fun {t} q => pe_callTy call_int1 hg hm (by decide +kernel) q (by decide) (by decide) he hpl) (xa_cons' ha (xa_nil (S := fun ds => ds = []) rfl) (fun d ds s e => ⟨d, by rw [e], s⟩) he) fun ds ⟨x, e, sx⟩ => by
    obtain ⟨i, rfl, s⟩ := h x sx
    subst e
    exact fun H0 G H vs l ii Q q => by
      obtain ⟨v, rfl, i1⟩ := isl1 ii
      cases i1
      exact .inl ⟨i, rfl, q G H _ _ (Tr.refl l) (Is.of (.int _)) s⟩
/-- pot[n] -/
theorem xe_potAt (n : Int) (hn : n = 0 ∨ n = 1) (ha : XV X a ρ .pot) (hb : XV X b ρ (.int n)) (w0 : n = 0 → ∀ i : Int, 0 ≤ i → S (.int i)) (w1 : n = 1 → ∀ i : Int, 0 ≤ i → i < 2 ^ 40 → S (.int i)) (hs : PlainIx b := by exact fun _ _ => rfl) : XE X (.Subscript a b pos) ρ S :=
  xe_ix ix_list ha hb (fun H0 G H v u l i1 i2 Q q => by
    cases i1 with
    | @pot a hg =>
      cases i2
      obtain ⟨i, j, hp, k0, k1, k2⟩ := l.pot a hg
      rcases hn with rfl | rfl
      · exact ⟨a, _, 0, .int i, rfl, rfl, SqL.of hp, rfl, q G H _ _ (Tr.refl l) (Is.of (.int _)) (w0 rfl i k0)⟩
      · exact ⟨a, _, 1, .int j, rfl, rfl, SqL.of hp, rfl, q G H _ _ (Tr.refl l) (Is.of (.int _)) (w1 rfl j k1 k2)⟩) hs
/-- tests of values that are only known to exist -/
theorem xt_cmpE {op : CmpOp} {r : R2} {Sa Sb : D → Prop} {St : Bool → Prop} (ho : OpR X (compareOp op) r) (ha : XE X a ρ Sa) (hb : XE X b ρ Sb) (h : ∀ x y, Sa x → Sb y → RD X.K r x y (fun z => ∃ c, z = .bl c ∧ St c)) (hm : behindInMarks op b = false := by rfl) : XT X (.Compare a [op] [b] pos) ρ St := by
  refine pt_imp (pt_cmpR ho ha hb hm) fun σ H Q ⟨G, H0, l, sl, k⟩ => ?_
  refine ⟨G, H0, l, sl, fun G1 H1 v x t1 i1 s1 => ?_⟩
  refine ⟨G1, H0, t1.ok, sl.mono t1, fun G2 H2 u y t2 i2 s2 => ?_⟩
  refine h x y s1 s2 H0 G2 H2 v u t2.ok (i1.mono t2) i2 _ fun G3 H3 z d t3 i3 s3 => ?_
  obtain ⟨c, rfl, sc⟩ := s3
  cases i3
  exact ⟨c, rfl, k G3 H3 c ((t1.trans t2).trans t3) sc⟩
theorem xt_gtE {Sa : D → Prop} {j : Int} (ha : XE X a ρ Sa) (hb : XV X b ρ (.int j)) (h : ∀ x, Sa x → ∃ i : Int, x = .int i) (hm : behindInMarks .Gt b = false := by exact nomark _) : XT X (.Compare a [.Gt] [b] pos) ρ (fun _ => True) :=
  xt_cmpE op_gt ha hb (fun x y sx sy => by
    obtain ⟨i, rfl⟩ := h x sx
    subst sy
    exact fun H0 G H v u l i1 i2 Q q => by
      cases i1; cases i2
      exact ⟨i, j, rfl, rfl, q G H _ _ (Tr.refl l) (Is.of (.bl _)) ⟨_, rfl, trivial⟩⟩) hm
theorem xt_eqE {Sa : D → Prop} {j : Int} (ha : XE X a ρ Sa) (hb : XV X b ρ (.int j)) (h : ∀ x, Sa x → ∃ i : Int, x = .int i) (hm : behindInMarks .Eq b = false := by exact nomark _) : XT X (.Compare a [.Eq] [b] pos) ρ (fun _ => True) :=
  xt_cmpE op_eq ha hb (fun x y sx sy => by
    obtain ⟨i, rfl⟩ := h x sx
    subst sy
    exact fun H0 G H v u l i1 i2 Q q => rd_eq H0 G H v u l i1 i2 Q fun G' H' z d t ii s => q G' H' z d t ii ⟨_, s, trivial⟩) hm
theorem xe_ifE {a b c : Expr} {St : Bool → Prop} (hc : XT X c ρ St) (ha : XE X a ρ S) (hb : XE X b ρ S) : XE X (.IfExp c a b pos) ρ S :=
  pe_imp (pe_ifExp hc ha hb) fun σ H Q ⟨G, H0, l, sl, k⟩ => ⟨G, H0, l, sl, fun G' H' v t s => by
    cases v with
    | true => exact iteT ⟨G', H0, t.ok, sl.mono t, fun G2 H2 v d t2 i2 s2 => k G2 H2 v d (t.trans t2) i2 s2⟩
    | false => exact iteF ⟨G', H0, t.ok, sl.mono t, fun G2 H2 v d t2 i2 s2 => k G2 H2 v d (t.trans t2) i2 s2⟩⟩
theorem xs_ifE {c : Expr} {a b : List Stmt} {St : Bool → Prop} (hc : XT X c ρ St) (ha : XSs X a ρ Φ) (hb : XSs X b ρ Φ) : XS X (.If c a b pos) ρ Φ :=
  ps_imp (ps_if hc ha hb) fun Dn σ H ⟨G0, H0, G, t, sl, k1, k2, k3, k4⟩ => ⟨G, H0, t.ok, sl, fun G' H' v t' s => by
    cases v with
    | true => exact iteT ⟨G0, H0, G', t.trans t', sl.mono t', k1, k2, k3, k4⟩
    | false => exact iteF ⟨G0, H0, G', t.trans t', sl.mono t', k1, k2, k3, k4⟩⟩
/-- x = e -/
theorem xss_setE (i : Nat) {x : Str} {e : Expr} {pos' : Pos} (hN : X.N.Nodup) (h : XE X e ρ S) (hr : ∀ d, S d → noOl d = true ∧ XSs X rest (ρ.set i (some d)) Φ) (hi : X.N[i]? = some x := by rfl) (hx : Loc X.env.scope x := by first | exact Or.inl rfl | exact Or.inr rfl)
    (hs : swapsWithSole [.Name x pos'] e pos.line X.env = pure false := by rfl) (hw : swappedStores [.Name x pos'] e X.env = pure none := by rfl)
    (hf : X.fn x = true ∨ X.env.scope.names.lookup x = some .local := by first | exact .inl rfl | exact .inr rfl | assumption) : XSs X (.Assign [.Name x pos'] e pos :: rest) ρ Φ :=
  xss_cons (M := fun z => ∃ d, S d ∧ z = ρ.set i (some d)) (xs_set i h (fun d s => ⟨(hr d s).1, d, s, rfl⟩) hN hi hx hs hw hf) fun ρ' ⟨d, s, e⟩ => e ▸ (hr d s).2
/-- divmod of ints of any size -/
theorem call_divmodL {k : Nat} (c : seerB X.K = true) (ht : X.prog.given.tree = none) (hr : Room (k + 32) X.A) (hp : Plain X) : CallR X (.builtin "divmod") (fun xs H Q => ∃ i j, xs = [.int i, .int j] ∧ 0 < j ∧ ∀ p, H p = none → Q (.ref p) (upd H p (.tup [.int (i / j), .int (i % j)]))) := by
  intro pins s σ H xs us Q I r h
  obtain ⟨i, j, rfl, h1, q⟩ := h
  obtain ⟨u, w', rfl, ⟨t, rfl⟩, ⟨t', rfl⟩⟩ := vals2 r
  obtain ⟨env, l, e1, e2, e3, e4, e5⟩ := hp.ex
  have hN : s.heap.NoSeer := (noSeer_of I.ok.mod c).keeps I.bk
  have hs : SeerAt (model X.prog X.w) X.A s.heap := SeerAt.of hN ht (by rw [I.ok.frames, e1]) e2 e3 e4 e5
  have hd : X.A.depth + Builtin.pylongFrames < recursionLimit := by
    have := hr.dp
    show X.A.depth + 100 < _
    omega
  refine PyProof.Rows.divmod_int (by omega) ?_ (.inr (PySem.PylongRoom.of I.nolimit hd hs))
  rw [Int.fdiv_eq_ediv_of_nonneg i (by omega), Int.fmod_eq_emod_of_nonneg i (by omega)]
  have hn : H s.heap.objs.size = none := I.hok.fresh (Nat.le_refl _)
  refine ⟨.ref s.heap.objs.size, _, ?_, rfl, q _ hn⟩
  refine I.laid (fun b o e => Heap.get?_push_of_some _ e) (Nat.le_refl _) ⟨by simp only [List.length_cons, List.length_nil]; rw [sizeLine_eq]; decide, [.int (i / j) s.toks, .int (i % j) (s.toks + 1)], .cons ⟨_, rfl⟩ (.cons ⟨_, rfl⟩ .nil), ?_⟩
  exact ⟨_, Heap.get?_push_size s.heap rfl, rfl, 0, rfl⟩
theorem xe_divmod {k : Nat} {n : Int} (c : seerB X.K = true) (ht : X.prog.given.tree = none) (hr : Room (k + 32) X.A) (hp : Plain X) (hm : X.mg "divmod" = none) (ha : XE X a ρ INn) (hb : XV X b ρ (.int n)) (hn : 0 < n) (hg : Gl X "divmod" := by rfl) (he : starEach [a, b] X.env = (false, eval a X.env) :: starEach [b] X.env := by rfl) (he2 : starEach [b] X.env = (false, eval b X.env) :: starEach [] X.env := by rfl) (hpl : (backTo pos (starEach [b] X.env)).any (·.1) = false := by rfl) :
    XE X (.Call (.Name "divmod" p) [a, b] [] pos) ρ (fun z => ∃ i d : Int, z = .tup [.int i, .int d] ∧ 0 ≤ i ∧ 0 ≤ d ∧ d < n) :=
  xe_cbE (Ss := fun ds => ∃ i : Int, ds = [.int i, .int n] ∧ 0 ≤ i) (fun {t} q => pe_callB (call_divmodL c ht hr hp) hg hm (by decide +kernel) q (by decide) (by decide) he hpl)
    (xa_cons' ha (xva_cons hb xva_nil he2) (fun d ds s e => by obtain ⟨i, rfl, h⟩ := s; exact ⟨i, by rw [e], h⟩) he) fun ds ⟨i, e, h0⟩ => by
    subst e
    exact fun H0 G H vs l ii Q q => by
      obtain ⟨v, u, rfl, i1, i2⟩ := isl2 ii
      cases i1; cases i2
      refine ⟨i, n, rfl, hn, fun p hp => ?_⟩
      have tn := Tr.new l hp (o := .tup [.int (i / n), .int (i % n)]) pot_tup
      exact q _ _ _ (.tup [.int (i / n), .int (i % n)]) tn (Is.of (.tup' upd_same (DaL.cons (.int _) (DaL.cons (.int _) DaL.nil)))) ⟨_, _, rfl, Int.ediv_nonneg h0 (by omega), Int.emod_nonneg _ (by omega), Int.emod_lt_of_pos _ hn⟩
/-- pot[1] = e -/
theorem xs_potSet (i : Nat) {x : Str} {px p1 : Pos} {ix e : Expr} (hi : ρ[i]? = some (some .pot)) (hix : XV X ix ρ (.int 1)) (he : XE X e ρ (IR 0 (2 ^ 40))) (w : Φ.nx ρ)
    (hx : PE X (Expr.Name x px) (tVar i) := by exact pv _)
    (hA : ∀ v, assign (.Subscript (.Name x px) ix p1) X.env v = (do
      let ov ← holding [v] (eval (.Name x px) X.env)
      let iv ← holding [v, ov] (eval ix X.env)
      standAt p1
      holding [v, ov, iv] (setItem ov iv v)
      release [v, ov, iv] []) := by intro _; rfl)
    (hs : swapsWithSole [.Subscript (.Name x px) ix p1] e pos.line X.env = pure false := by rfl) (hw : swappedStores [.Subscript (.Name x px) ix p1] e X.env = pure none := by rfl) : XS X (.Assign [.Subscript (.Name x px) ix p1] e pos) ρ Φ :=
  ps_imp (ps_asg he (pg_sub hx hix set_list hA) hs hw rfl) fun Dn σ H ⟨G0, H0, G, t, sl, k1, _⟩ => ⟨G, H0, t.ok, sl, fun G1 H1 v z t1 i1 s1 => by
    obtain ⟨j, rfl, j0, j1⟩ := s1
    cases i1
    obtain ⟨u, hu, iu⟩ := (sl.mono t1).at_ i _ hi
    cases iu with
    | @pot q hg =>
      refine ⟨.ref q, hu, G1, H0, t1.ok, sl.mono t1, fun G2 H2 w2 e2 t2 i2 s2 => ?_⟩
      subst s2
      cases i2
      have hg2 := t2.gg.go _ _ hg
      obtain ⟨i0, j0', hp, k0, _, _⟩ := t2.ok.pot q hg2
      refine ⟨q, _, 1, 1, rfl, rfl, hp, rfl, ?_⟩
      have t12 := t1.trans t2
      exact k1 G2 _ σ _ ((t.trans t12).pot hg2 k0 j0 j1) ((sl.mono t12).mono ((Tr.refl t2.ok).pot hg2 k0 j0 j1)) w⟩
/-- pot[0], y = e, e a pair -/
theorem xs_potPair (i m : Nat) {x y : Str} {px py p1 pt : Pos} {kt : Nat} {ix e : Expr} {n : Int} (hc : X.calm = true) (hN : X.N.Nodup) (hi : ρ[i]? = some (some .pot)) (hix : XV X ix ρ (.int 0)) (he : XE X e ρ (fun z => ∃ i d : Int, z = .tup [.int i, .int d] ∧ 0 ≤ i ∧ 0 ≤ d ∧ d < n)) (w : ∀ d : Int, 0 ≤ d → d < n → Φ.nx (ρ.set m (some (.int d))))
    (hm : X.N[m]? = some y := by rfl) (hy : Loc X.env.scope y := by first | exact Or.inl rfl | exact Or.inr rfl)
    (hf : X.fn y = true ∨ X.env.scope.names.lookup y = some .local := by first | exact .inl rfl | exact .inr rfl | assumption)
    (hx : PE X (Expr.Name x px) (tVar i) := by exact pv _)
    (hA : ∀ v, assign (.Subscript (.Name x px) ix p1) X.env v = (do
      let ov ← holding [v] (eval (.Name x px) X.env)
      let iv ← holding [v, ov] (eval ix X.env)
      standAt p1
      holding [v, ov, iv] (setItem ov iv v)
      release [v, ov, iv] []) := by intro _; rfl)
    (hs : swapsWithSole [.Tuple [.Subscript (.Name x px) ix p1, .Name y py] kt pt] e pos.line X.env = pure false := by rfl) (hw : swappedStores [.Tuple [.Subscript (.Name x px) ix p1, .Name y py] kt pt] e X.env = pure none := by rfl) : XS X (.Assign [.Tuple [.Subscript (.Name x px) ix p1, .Name y py] kt pt] e pos) ρ Φ :=
  ps_imp (ps_asg he (pg_tup hc (pgs_cons (pg_sub hx hix set_list hA) (pgs_cons (pg_name hN hm hy hf) pgs_nil))) hs hw rfl) fun Dn σ H ⟨G0, H0, G, t, sl, k1, _⟩ => ⟨G, H0, t.ok, sl, fun G1 H1 v z t1 i1 s1 => by
    obtain ⟨j, d, rfl, j0, d0, d1⟩ := s1
    cases i1 with
    | @tup T vs _ e1 e2 e3 =>
      obtain ⟨va, vs1, rfl, da, hr⟩ := DaL.cases_cons ⟨e2, e3⟩
      obtain ⟨vb, vs2, rfl, db, hr⟩ := hr.cases_cons
      obtain rfl := hr.cases_nil
      cases da; cases db
      obtain ⟨u, hu, iu⟩ := (sl.mono t1).at_ i _ hi
      cases iu with
      | @pot q hg =>
        refine ⟨T, _, rfl, SqT.of (t1.ok.at_ _ _ e1 pot_tup), rfl, _, [.int d], rfl, .ref q, hu, G1, H0, t1.ok, sl.mono t1, fun G2 H2 w2 e2 t2 i2 s2 => ?_⟩
        subst s2
        cases i2
        have hg2 := t2.gg.go _ _ hg
        obtain ⟨i0, jj, hp, _, j0', j1'⟩ := t2.ok.pot q hg2
        refine ⟨q, _, 0, 0, rfl, rfl, hp, rfl, .int d, [], rfl, rfl, ?_⟩
        have t12 := t1.trans t2
        exact k1 G2 _ _ _ ((t.trans t12).pot hg2 j0 j0' j1') (((sl.mono t12).mono ((Tr.refl t2.ok).pot hg2 j0 j0' j1')).set (.int d)) (w d d0 d1)⟩
end
end NL

/-! text L7 -/
set_option Elab.async false
set_option linter.all false
set_option maxRecDepth 100000
set_option maxHeartbeats 4000000
/-! The law: pot, draw, point, answer. -/
namespace NL
open PySem PySem.Spec L2
open PyProof.Rows (envOfC)
variable {P : Program} {w : World} {K : PySem.W.Frag} {mg : Str → Option Value} {base : Heap}
section
variable {X : Cx} {ρ : Env} {S : D → Prop} {pos : Pos} {a b : Expr}
theorem xv_pow {i j : Int} (ha : XV X a ρ (.int i)) (hb : XV X b ρ (.int j)) (h : CPow i j) : XV X (.BinOp a .Pow b pos) ρ (.int (i ^ j.toNat)) := xe_op op_pow ha hb (rd_I (g' := fun i j => .int (i ^ j.toNat)) h fun i j _ => .int _)
end
/-! ### the script -/
theorem scr_of {K : PySem.W.Frag} {H0 G H : Hp} {v : V} {ns : List Int} (l : Le G H) (h : Is K H0 G H v (.scr ns)) : ∃ a, v = .ref a ∧ SqL K H a (ns.map V.int) := by
  cases h with
  | @scrF p o _ e => exact ⟨p, rfl, .inl (.inr ⟨o, l.at_ _ _ e (fun z => nomatch z)⟩)⟩
  | @scrK p _ e => exact ⟨p, rfl, e H⟩
section
variable {X : Cx} {ρ : Env} {S : D → Prop} {pos p : Pos} {a b : Expr} {ns : List Int}
theorem xv_lenS (hm : X.mg "len" = none) (ha : XV X a ρ (.scr ns)) (hg : Gl X "len" := by rfl) (he : starEach [a] X.env = (false, eval a X.env) :: starEach [] X.env := by rfl) (hpl : (backTo pos (starEach [] X.env)).any (·.1) = false := by rfl) : XV X (.Call (.Name "len" p) [a] [] pos) ρ (.int ns.length) :=
  xe_blt call_len_seq hm (xva_cons ha xva_nil he) (fun H0 G H vs l ii Q q => by
    obtain ⟨v, rfl, i1⟩ := isl1 ii
    obtain ⟨q1, rfl, s⟩ := scr_of l i1
    exact ⟨q1, _, rfl, .inl s, q G H _ _ (Tr.refl l) (Is.of (.int _)) (by rw [List.length_map])⟩) PySem.boot_len hg (by decide) (by decide) he hpl
theorem xv_ixS {i n : Int} (ha : XV X a ρ (.scr ns)) (hb : XV X b ρ (.int i)) (h : atI ns i = some n) (hs : PlainIx b := by exact fun _ _ => rfl) : XV X (.Subscript a b pos) ρ (.int n) :=
  xe_ix ix_list ha hb (fun H0 G H v u l i1 i2 Q q => by
    cases i2
    obtain ⟨q1, rfl, s⟩ := scr_of l i1
    have e : atI (ns.map V.int) i = some (.int n) := by
      unfold atI at h ⊢
      rw [List.length_map]
      cases z : ixN ns.length i with
      | none => rw [z] at h; cases h
      | some j =>
        rw [z] at h
        have h : ns[j]? = some n := h
        show (ns.map V.int)[j]? = _
        rw [List.getElem?_map, h]; rfl
    exact ⟨q1, _, i, _, rfl, rfl, s, e, q G H _ _ (Tr.refl l) (Is.of (.int _)) rfl⟩) hs
end
/-! ### _law_pot -/
def R_Lpot : Rel := fun ds T => ∃ ns : List Int, ds = [.scr ns, .int 0] ∧ T = fun z => z = .pot
theorem ok_Lpot (T : Tx P K mg) : Fk P w K mg base "_law_pot" 1 R_Lpot := by
  obtain ⟨fd, F⟩ := T.F_Lpot
  refine mkFk F sc_Lpot T.g_Lpot ?_ ?_ (fun _ _ _ _ _ _ us hl => match us, hl with | [_, _], _ => rfl)
  · rintro ds S ⟨ns, rfl, _⟩; rfl
  · rintro cdv A outer s H E hr ds S ⟨ns, rfl, rfl⟩
    have hnd := sc_Lpot.nd
    refine xss_setE (S := INn) 2 hnd (xe_if (k := decide (0 < ns.length)) (xt_to (xt_lt (xv_var 1) (xv_lenS T.b_len (xv_var 0))) (decide_eq_decide.mpr (by omega))) (fun hz => ?_) fun hz => ?_) ?_
    · have hz := of_decide_eq_true hz
      have e : ns[0]? = some ns[0] := List.getElem?_eq_getElem hz
      exact xe_imp (xv_abs T.b_abs (xv_ixS (xv_var 0) (xv_var 1) (atI_nat (i := 0) e))) fun d e => ⟨_, e, by split <;> omega⟩
    · exact xe_imp (xv_add (xv_mul xv_int (xv_var 1) (mul_ok (a := 10) (b := 10) (by decide) (by decide) (by decide) (by decide) (by decide))) xv_int) fun d e => ⟨_, e, by decide⟩
    · rintro d ⟨c, rfl, c0⟩
      have m0 : 0 ≤ c % 2147483563 := Int.emod_nonneg _ (by decide)
      have m1 : c % 2147483563 < 2147483563 := Int.emod_lt_of_pos _ (by decide)
      refine ⟨rfl, xss_one (xs_retv (xv_pot (xv_max2 rfl T.b_max xv_int (xv_sub (xv_var 2) (xv_pow xv_int xv_int ⟨by decide, by decide, by decide⟩))) (xv_add (xv_mod (xv_intI T.b_int (xv_add (xv_add (xv_mul (xv_mod (xv_intI T.b_int (xv_var 2)) xv_int (by decide)) xv_int (mul_ok (a := 40) (b := 40) (by omega) (by decide) (by decide) (by decide) (by decide))) (xv_mul xv_int (xv_var 1) (mul_ok (a := 20) (b := 10) (by decide) (by decide) (by decide) (by decide) (by decide)))) xv_int)) xv_int (by decide)) xv_int) ?_ ?_ ?_) ⟨rfl, rfl⟩)⟩
      · split <;> omega
      · have := Int.emod_nonneg (c % 2147483563 * 40692 + 6079 * 0 + 97) (b := 2147483587) (by decide)
        omega
      · have := Int.emod_lt_of_pos (c % 2147483563 * 40692 + 6079 * 0 + 97) (b := 2147483587) (by decide)
        omega
/-! ### _law_draw -/
def R_Ldraw : Rel := fun ds T => ∃ n : Int, ds = [.pot, .int n] ∧ 0 < n ∧ T = IR 0 n
theorem ok_Ldraw (T : Tx P K mg) : Fk P w K mg base "_law_draw" 33 R_Ldraw := by
  obtain ⟨fd, F⟩ := T.F_Ldraw
  refine mkFk F sc_Ldraw T.g_Ldraw ?_ ?_ (fun _ _ _ _ _ _ us hl => match us, hl with | [_, _], _ => rfl)
  · rintro ds S ⟨n, rfl, _⟩; rfl
  · rintro cdv A outer s H E hr ds S ⟨n, rfl, hn, rfl⟩
    have hnd := sc_Ldraw.nd
    have pl := plain_cx (P := P) (w := w) (K := K) (mg := mg) (base := base) (N := n_Ldraw) (qual := "_law_draw") (scope := defScope s_Ldraw) (f := d_Ldraw.ad K) (cdv := cdv) (A := A) (outer := outer) (s := s) (H := H) (E := E) ⟨rfl, rfl⟩
    have rt : ∀ z : D, IR 0 n z → IR 0 n (frz z) ∧ noOl (frz z) = true := fun z ⟨i, e, h⟩ => by subst e; exact ⟨⟨i, rfl, h⟩, rfl⟩
    have h40 : ∀ {i : Int}, 0 ≤ i → i < 2 ^ 40 → i.natAbs < 2 ^ 41 := fun {i} h1 h2 => by
      have e : (2 : Int) ^ 40 = 1099511627776 := by decide
      have e2 : (2 : Nat) ^ 41 = 2199023255552 := by decide
      rw [e] at h2
      rw [e2]
      omega
    refine xss_cons (M := fun ρ => ρ = [some .pot, some (.int n), none]) (xs_ifE (xt_gtE (Sa := INn) (xe_potAt 0 (.inl rfl) (xv_var 0) xv_int (fun _ i h => ⟨i, rfl, h⟩) (fun z => absurd z (by decide))) xv_int (fun x ⟨i, e, _⟩ => ⟨i, e⟩)) ?_ (xss_nil rfl)) ?_
    · refine xss_cons (M := fun ρ => ∃ d : Int, 0 ≤ d ∧ d < n ∧ ρ = [some .pot, some (.int n), some (.int d)]) (xs_potPair 0 2 rfl hnd rfl xv_int (xe_divmod T.seer T.tree hr pl T.b_divmod (xe_potAt 0 (.inl rfl) (xv_var 0) xv_int (fun _ i h => ⟨i, rfl, h⟩) (fun z => absurd z (by decide))) (xv_var 1) hn) fun d h1 h2 => ⟨d, h1, h2, rfl⟩) ?_
      rintro ρ' ⟨d, h1, h2, rfl⟩
      exact xss_one (xs_ret (S := IR 0 n) (xe_imp (xv_var 2) fun z e => ⟨d, e, h1, h2⟩) rt)
    · rintro ρ' rfl
      refine xss_cons (M := fun ρ => ρ = [some .pot, some (.int n), none]) (xs_potSet 0 rfl xv_int (xe_modE (Sa := INn) (Sb := fun z => z = .int 2147483587) (xe_intE T.b_int (Sa := INn) (xe_addE (Sa := INn) (Sb := fun z => z = .int 6079) (xe_mulE (Sa := IR 0 (2 ^ 40)) (Sb := fun z => z = .int 39373) (xe_potAt 1 (.inr rfl) (xv_var 0) xv_int (fun z => absurd z (by decide)) (fun _ i h h' => ⟨i, rfl, h, h'⟩)) xv_int ?_) xv_int ?_) ?_) xv_int ?_) rfl) ?_
      · rintro x y ⟨i, rfl, h1, h2⟩ rfl
        exact ⟨i, _, rfl, rfl, mul_ok (a := 41) (b := 20) (h40 h1 h2) (by decide) (by decide) (by decide) (by decide), _, rfl, by omega⟩
      · rintro x y ⟨i, rfl, h1⟩ rfl
        exact ⟨i, _, rfl, rfl, _, rfl, by omega⟩
      · rintro x ⟨i, rfl, h1⟩
        exact ⟨i, rfl, i, rfl, h1⟩
      · rintro x y ⟨i, rfl, h1⟩ rfl
        have e : (2 : Int) ^ 40 = 1099511627776 := by decide
        have a1 := Int.emod_nonneg i (b := 2147483587) (by decide)
        have a2 := Int.emod_lt_of_pos i (b := 2147483587) (by decide)
        exact ⟨i, _, rfl, rfl, by decide, _, rfl, a1, by rw [e]; omega⟩
      · rintro ρ' rfl
        refine xss_one (xs_ret (S := IR 0 n) (xe_modE (Sa := INn) (Sb := fun z => z = .int n) (xe_intE T.b_int (Sa := INn) (xe_fdivE (Sa := INn) (Sb := fun z => z = .int 43) (xe_modE (Sa := INn) (Sb := fun z => z = .int 2147483563) (xe_intE T.b_int (Sa := INn) (xe_mulE (Sa := IR 0 (2 ^ 40)) (Sb := IR 0 (2 ^ 40)) (xe_potAt 1 (.inr rfl) (xv_var 0) xv_int (fun z => absurd z (by decide)) (fun _ i h h' => ⟨i, rfl, h, h'⟩)) (xe_potAt 1 (.inr rfl) (xv_var 0) xv_int (fun z => absurd z (by decide)) (fun _ i h h' => ⟨i, rfl, h, h'⟩)) ?_) ?_) xv_int ?_) xv_int ?_) ?_) (xv_var 1) ?_) rt)
        · rintro x y ⟨i, rfl, h1, h2⟩ ⟨j, rfl, h3, h4⟩
          exact ⟨i, j, rfl, rfl, mul_ok (a := 41) (b := 41) (h40 h1 h2) (h40 h3 h4) (by decide) (by decide) (by decide), _, rfl, Int.mul_nonneg h1 h3⟩
        · rintro x ⟨i, rfl, h1⟩
          exact ⟨i, rfl, i, rfl, h1⟩
        · rintro x y ⟨i, rfl, h1⟩ rfl
          exact ⟨i, _, rfl, rfl, by decide, _, rfl, Int.emod_nonneg _ (by decide)⟩
        · rintro x y ⟨i, rfl, h1⟩ rfl
          exact ⟨i, _, rfl, rfl, ⟨by decide, by decide⟩, _, rfl, Int.ediv_nonneg h1 (by decide)⟩
        · rintro x ⟨i, rfl, h1⟩
          exact ⟨i, rfl, i, rfl, h1⟩
        · rintro x y ⟨i, rfl, h1⟩ rfl
          exact ⟨i, _, rfl, rfl, hn, _, rfl, Int.emod_nonneg _ (by omega), Int.emod_lt_of_pos _ hn⟩
section
variable {X : Cx} {ρ : Env} {S : D → Prop} {pos p : Pos} {o e : Expr}
theorem xe_draw {n : Int} (T : Tx X.prog X.K X.mg) (hr : Room 33 X.A) (ho : XV X o ρ .pot) (he : XV X e ρ (.int n)) (hn : 0 < n) (hg : Gl X "_law_draw" := by rfl) (h1 : starEach [o, e] X.env = (false, eval o X.env) :: starEach [e] X.env := by rfl) (h2 : starEach [e] X.env = (false, eval e X.env) :: starEach [] X.env := by rfl) (hpl : (backTo pos (starEach [e] X.env)).any (·.1) = false := by rfl) :
    XE X (.Call (.Name "_law_draw" p) [o, e] [] pos) ρ (IR 0 n) :=
  xe_call (ok_Ldraw T) hr (xva_cons ho (xva_cons he xva_nil h2) h1) (fun ds s => by subst s; exact ⟨rfl, _, ⟨n, rfl, hn, rfl⟩, fun d h => h⟩) hg (by decide) h1 hpl
end
/-! ### points and answers -/
theorem rep_mk (l r : Int) {w : Int} (h : 0 < w) : rep l r w ⟨(l : Rat) / (w : Rat), (r : Rat) / (w : Rat)⟩ := by
  have hw := cast_ne h
  exact ⟨h, Rat.div_mul_cancel hw, Rat.div_mul_cancel hw⟩
theorem rep_lt {l r w : Int} {x : GQ} (h : rep l r w x) (hlt : l * l + r * r < w * w) : x.sz < 1 := by
  have h2 := rep_size h
  have h3 : rep (w * w) 0 (w * w) ⟨1, 0⟩ := ⟨h2.1, by show (1 : Rat) * _ = _; rw [Rat.one_mul], by show (0 : Rat) * _ = ((0 : Int) : Rat); rw [Rat.zero_mul]; rfl⟩
  have h4 := h2.sub h3
  have h5 := h4.neg_l
  have hp : (l * l + r * r) * (w * w) - (w * w) * (w * w) < 0 := by
    rw [← Int.sub_mul]
    exact Int.mul_neg_of_neg_of_pos (by omega) h2.1
  have := h5.mp hp
  have e : (⟨x.sz, 0⟩ - ⟨1, 0⟩ : GQ).re = x.sz - 1 := rfl
  rw [e] at this
  grind
def R_Lpoint : Rel := fun ds T => ds = [.pot] ∧ T = fun z => ∃ x : GQ, z = lnum x ∧ PtOk x
theorem ok_Lpoint (T : Tx P K mg) : Fk P w K mg base "_law_point" 35 R_Lpoint := by
  obtain ⟨fd, F⟩ := T.F_Lpoint
  refine mkFk F sc_Lpoint T.g_Lpoint ?_ ?_ (fun _ _ _ _ _ _ us hl => match us, hl with | [_], _ => rfl)
  · rintro ds S ⟨rfl, _⟩; rfl
  · rintro cdv A outer s H E hr ds S ⟨rfl, rfl⟩
    have hnd := sc_Lpoint.nd
    refine xss_setE (S := IR 2 6) 1 hnd (xe_addE (Sa := fun z => z = .int 2) (Sb := IR 0 4) xv_int (xe_draw T (hr.mono (by decide)) (xv_var 0) xv_int (by decide)) ?_) ?_
    · rintro x y rfl ⟨i, rfl, h1, h2⟩
      exact ⟨_, i, rfl, rfl, _, rfl, by omega, by omega⟩
    rintro d ⟨b, rfl, b0, b1⟩
    refine ⟨rfl, xss_set 2 hnd (d := .int (b * 3 / 5)) (xv_fdiv (xv_mul (xv_var 1) xv_int (mul_ok (a := 10) (b := 10) (by omega) (by decide) (by decide) (by decide) (by decide))) xv_int ⟨by decide, by decide⟩) ?_⟩
    obtain ⟨wd, ewd⟩ : ∃ wd, wd = b * 3 / 5 := ⟨_, rfl⟩
    rw [← ewd]
    have w0 : 0 ≤ wd ∧ wd ≤ 3 := by omega
    have wlt : ∀ l r : Int, -wd ≤ l → l ≤ wd → -wd ≤ r → r ≤ wd → l * l + r * r < b * b := fun l r h1 h2 h3 h4 => by
      have sq : ∀ l : Int, -wd ≤ l → l ≤ wd → l * l ≤ wd * wd := fun l h1 h2 => by
        have := Int.mul_nonneg (show 0 ≤ wd - l by omega) (show 0 ≤ wd + l by omega)
        grind
      have s1 := sq l h1 h2
      have s2 := sq r h3 h4
      have : b = 2 ∨ b = 3 ∨ b = 4 ∨ b = 5 := by omega
      rcases this with z | z | z | z <;> subst z
      · obtain rfl : wd = 1 := by omega
        omega
      · obtain rfl : wd = 1 := by omega
        omega
      · obtain rfl : wd = 2 := by omega
        omega
      · obtain rfl : wd = 3 := by omega
        omega
    refine xss_setE (S := IR (-wd) (wd + 1)) 3 hnd (xe_ifE (xt_eqE (Sa := IR 0 2) (xe_draw T (hr.mono (by decide)) (xv_var 0) xv_int (by decide)) xv_int (fun x ⟨i, e, _⟩ => ⟨i, e⟩)) (xe_subE (Sa := IR 0 (2 * wd + 1)) (Sb := fun z => z = .int wd) (xe_draw T (hr.mono (by decide)) (xv_var 0) (xv_add (xv_mul xv_int (xv_var 2) (mul_ok (a := 10) (b := 10) (by decide) (by omega) (by decide) (by decide) (by decide))) xv_int) (by omega)) (xv_var 2) ?_) (xe_imp xv_int fun z e => ⟨0, e, by omega, by omega⟩)) ?_
    · rintro x y ⟨i, rfl, h1, h2⟩ rfl
      exact ⟨i, wd, rfl, rfl, _, rfl, by omega, by omega⟩
    rintro d ⟨sd, rfl, s0, s1⟩
    refine ⟨rfl, xss_one (xs_ret (S := fun z => ∃ x : GQ, z = lnum x ∧ PtOk x) (xe_call (Ss := fun ds => ∃ i : Int, ds = [.int i, .int sd, .int b] ∧ -wd ≤ i ∧ i ≤ wd) (ok_Lnumber T) hr (xa_cons' (Sa := IR (-wd) (wd + 1)) (xe_subE (Sa := IR 0 (2 * wd + 1)) (Sb := fun z => z = .int wd) (xe_draw T (hr.mono (by decide)) (xv_var 0) (xv_add (xv_mul xv_int (xv_var 2) (mul_ok (a := 10) (b := 10) (by decide) (by omega) (by decide) (by decide) (by decide))) xv_int) (by omega)) (xv_var 2) ?_) (xva_cons (xv_var 3) (xva_cons (xv_var 1) xva_nil)) ?_) ?_) ?_)⟩
    · rintro x y ⟨i, rfl, h1, h2⟩ rfl
      exact ⟨i, wd, rfl, rfl, _, rfl, by omega, by omega⟩
    · rintro d ds ⟨i, rfl, h1, h2⟩ rfl
      exact ⟨i, rfl, h1, by omega⟩
    · rintro ds ⟨i, rfl, h1, h2⟩
      have rp := rep_mk i sd (w := b) (by omega)
      exact ⟨rfl, _, ⟨i, sd, b, _, rfl, rp, rfl⟩, fun d e => ⟨_, e, rp.bd (k := 3) (by omega) (by omega) (by omega), rep_lt rp (wlt i sd h1 h2 s0 (by omega))⟩⟩
    · rintro d ⟨x, rfl, h⟩
      exact ⟨⟨x, rfl, h⟩, rfl⟩
def R_Lanswer : Rel := fun ds T => ds = [.pot, .int 2] ∧ T = fun z => ∃ x : GQ, z = lnum x ∧ Bd 2 x
theorem ok_Lanswer (T : Tx P K mg) : Fk P w K mg base "_law_answer" 35 R_Lanswer := by
  obtain ⟨fd, F⟩ := T.F_Lanswer
  refine mkFk F sc_Lanswer T.g_Lanswer ?_ ?_ (fun _ _ _ _ _ _ us hl => match us, hl with | [_, _], _ => rfl)
  · rintro ds S ⟨rfl, _⟩; rfl
  · rintro cdv A outer s H E hr ds S ⟨rfl, rfl⟩
    have hnd := sc_Lanswer.nd
    refine xss_setE (S := IR 1 4) 2 hnd (xe_addE (Sa := fun z => z = .int 1) (Sb := IR 0 3) xv_int (xe_draw T (hr.mono (by decide)) (xv_var 0) xv_int (by decide)) ?_) ?_
    · rintro x y rfl ⟨i, rfl, h1, h2⟩
      exact ⟨_, i, rfl, rfl, _, rfl, by omega, by omega⟩
    rintro d ⟨b, rfl, b0, b1⟩
    refine ⟨rfl, xss_setE (S := IR (-1) 2) 3 hnd (xe_ifE (xt_eqE (Sa := IR 0 3) (xe_draw T (hr.mono (by decide)) (xv_var 0) xv_int (by decide)) xv_int (fun x ⟨i, e, _⟩ => ⟨i, e⟩)) (xe_subE (Sa := IR 0 3) (Sb := fun z => z = .int 1) (xe_draw T (hr.mono (by decide)) (xv_var 0) xv_int (by decide)) xv_int ?_) (xe_imp xv_int fun z e => ⟨0, e, by omega, by omega⟩)) ?_⟩
    · rintro x y ⟨i, rfl, h1, h2⟩ rfl
      exact ⟨i, 1, rfl, rfl, _, rfl, by omega, by omega⟩
    rintro d ⟨sd, rfl, s0, s1⟩
    refine ⟨rfl, xss_one (xs_ret (S := fun z => ∃ x : GQ, z = lnum x ∧ Bd 2 x) (xe_call (Ss := fun ds => ∃ i : Int, ds = [.int i, .int sd, .int b] ∧ -2 ≤ i ∧ i ≤ 2) (ok_Lnumber T) hr (xa_cons' (Sa := IR (-2) 3) (xe_subE (Sa := IR 0 5) (Sb := fun z => z = .int 2) (xe_draw (n := 2 * 2 + 1) T (hr.mono (by decide)) (xv_var 0) (xv_add (xv_mul xv_int (xv_var 1) (mul_ok (a := 10) (b := 10) (by decide) (by decide) (by decide) (by decide) (by decide))) xv_int) (by omega)) (xv_var 1) ?_) (xva_cons (xv_var 3) (xva_cons (xv_var 2) xva_nil)) ?_) ?_) ?_)⟩
    · rintro x y ⟨i, rfl, h1, h2⟩ rfl
      exact ⟨i, 2, rfl, rfl, _, rfl, by omega, by omega⟩
    · rintro d ds ⟨i, rfl, h1, h2⟩ rfl
      exact ⟨i, rfl, h1, by omega⟩
    · rintro ds ⟨i, rfl, h1, h2⟩
      have rp := rep_mk i sd (w := b) (by omega)
      exact ⟨rfl, _, ⟨i, sd, b, _, rfl, rp, rfl⟩, fun d e => ⟨_, e, rp.bd (k := 2) (by omega) (by omega) (by omega)⟩⟩
    · rintro d ⟨x, rfl, h⟩
      exact ⟨⟨x, rfl, h⟩, rfl⟩
end NL

/-! text DL22 -/
set_option Elab.async false
set_option linter.all false
set_option maxRecDepth 100000
set_option maxHeartbeats 4000000
/-! Comprehensions over what is only known to exist; slices; calls by keywords; repr, is, max, != []. -/
namespace NL
open PySem PySem.Spec L2
open PyProof.Rows (envOfC)
def tDIE (K : PySem.W.Frag) (ρ : Env) (Sd : List D → Prop) : TI := fun σ H R => ∃ G H0, Le G H ∧ Sl K H0 G H σ ρ ∧ ∀ G' H' J ds, Tr G H G' H' → Wk K G' J ds → Sd ds → R J H'
abbrev XIE (X : Cx) (tg iter : Expr) (ρ : Env) (Sd : List D → Prop) : Prop := PI X tg iter (tDIE X.K ρ Sd)
section
variable {X : Cx} {ρ : Env} {S : D → Prop} {pos p : Pos} {a b : Expr} {k : Nat}
theorem xie_range1 {tg a : Expr} {p pos : Pos} {Sa : D → Prop} {Sd : List D → Prop} (hm : X.mg "range" = none) (h : XE X a ρ Sa) (w : ∀ x, Sa x → ∃ n : Nat, x = .int (n : Int) ∧ n ≤ 10000 ∧ Sd (rng 0 n)) (hg : Gl X "range" := by rfl) (hs : starEach [a] X.env = [(false, eval a X.env)] := by rfl) : XIE X tg (.Call (.Name "range" p) [a] [] pos) ρ Sd :=
  pi_imp (pi_range1 hg hm (pa_cons h pa_nil hs) hs) fun σ H R ⟨G, H0, l, sl, k⟩ => ⟨G, H0, l, sl, fun G' H' v d t i s => by
    obtain ⟨n, rfl, h1, h2⟩ := w d s
    cases i
    have e : (2 : Int) ^ 62 = 4611686018427387904 := by decide
    refine ⟨(n : Int), rfl, by rw [e]; omega, by rw [e]; omega, k G' H' _ (rng 0 n) t ?_ h2⟩
    have := wk_rng (K := X.K) (G := G') (lo := 0) (n := n)
    simpa using this⟩
theorem xf_lcE {elt tg iter : Expr} {ifs : List Expr} {scope : Scope} {own : List (Str × Nat)} {τ : D → Env → Env → Prop} {Sd : List D → Prop} (I : List D → Nat → List D → Prop) (hc : X.calm = true) (hN : X.N.Nodup) (hi : XIE X tg iter ρ Sd) (ok : BlkOk X.N X.env.scope scope own)
    (hg : Blk X scope fun Y => XG Y tg τ (own.map (·.2))) (hl : ∀ ds, Sd ds → ds.length ≤ 10000) (h0 : ∀ ds, Sd ds → I ds 0 [])
    (hs : ∀ ds, Sd ds → ∀ (i : Nat) d acc, ds[i]? = some d → I ds i acc → ∃ ρ2 b, τ d (wipeE ρ (own.map (·.2))) ρ2 ∧ (Blk X scope fun Y => PTs Y ifs (tDT X.K ρ2 (fun z => z = b))) ∧ (b = false → I ds (i + 1) acc) ∧ (b = true → ∃ S, (Blk X scope fun Y => PE Y elt (tD X.K ρ2 S)) ∧ ∀ e, S e → noOl e = true ∧ I ds (i + 1) (acc ++ [e])))
    (hf : ∀ x, foldedSetIterable iter X.env x = pure x := by intro _; rfl) : XF X (.ListComp elt [⟨tg, iter, ifs, 0⟩] scope pos) ρ (fun es => ∃ ds, Sd ds ∧ I ds ds.length es) := by
  refine pe_imp (pe_lc (g := tDG X.K τ (own.map (·.2))) (tt := tAnyBT X scope ifs) (te := tAnyB X scope elt) hc hN hi ok hg pts_anyB pe_anyB hf) fun σ H Q ⟨G, H0, l, sl, k⟩ => ⟨G, H0, l, sl, fun G' H' J ds t wk sd DD hD => ?_⟩
  have hl := hl ds sd
  have hs := hs ds sd
  have hD0 : H DD = none := t.fresh0 hD
  have t0 : Tr G H G' (upd H' DD (.lst [])) := t.trans (Tr.own t.ok hD)
  refine ⟨fun i m H1 => m = ds.length - i ∧ i ≤ ds.length ∧ ∃ G1 vs acc, Tr G H G1 H1 ∧ Ex G' G1 ∧ G1 DD = none ∧ H1 DD = some (.lst vs) ∧ DaL X.K G1 vs acc ∧ acc.length ≤ i ∧ I ds i acc,
    ⟨ds.length, rfl, Nat.zero_le _, G', [], [], t0, Ex.refl _, t.ok.none hD, upd_same, DaL.nil, Nat.le_refl _, h0 ds sd⟩, ?_⟩
  rintro i m H1 ⟨rfl, hi, G1, vs, acc, t1, ex1, g1, h1, d1, hlen, hI⟩
  obtain ⟨go, st⟩ := wk G1 H1 i ex1 t1.ok
  by_cases hlt : i < ds.length
  · obtain ⟨go1, go2⟩ := go ds[i] (by simp [hlt])
    refine .inr ⟨go1, fun H2 => i < ds.length ∧ ∃ G1 vs acc, Tr G H G1 H2 ∧ Ex G' G1 ∧ G1 DD = none ∧ H2 DD = some (.lst vs) ∧ DaL X.K G1 vs acc ∧ acc.length ≤ i + 1 ∧ I ds (i + 1) acc, fun H2 ⟨a, b⟩ => ⟨ds.length - (i + 1), by omega, rfl, by omega, b⟩, fun x H2 y => ?_⟩
    obtain ⟨G2, t2, da⟩ := go2 x H2 y
    have pv : ∀ {Ga Ha Gb Hb : Hp} {ws : List V}, Tr Ga Ha Gb Hb → Ga DD = none → Ha DD = some (.lst ws) → Gb DD = none ∧ Hb DD = some (.lst ws) := fun t g h => ⟨t.pv _ _ h g, t.hh _ _ h (by rw [g]; exact fun z => nomatch z)⟩
    obtain ⟨g2, h2⟩ := pv t2 g1 h1
    obtain ⟨ρ2, b, hτ, hT, hF, hE⟩ := hs i ds[i] acc (by simp [hlt]) hI
    refine ⟨G2, H0, wipeE ρ (own.map (·.2)), _, ρ2, t2.ok, (sl.mono (t1.trans t2)).wipe _, da, hτ, fun σ3 sl3 c3 => ⟨c3.wipe, ?_⟩⟩
    refine ⟨ρ2, _, hT, G2, H0, t2.ok, sl3, fun G3 H3 z t3 e => ?_⟩
    subst e
    obtain ⟨g3, h3⟩ := pv t3 g2 h2
    cases z with
    | false => exact iteF ⟨hlt, G3, vs, acc, (t1.trans t2).trans t3, (ex1.trans t2.gg).trans t3.gg, g3, h3, d1.mono (t2.gg.trans t3.gg), by omega, hF rfl⟩
    | true =>
      obtain ⟨S, hS, hn⟩ := hE rfl
      refine iteT ⟨ρ2, S, hS, G3, H0, t3.ok, sl3.mono t3, fun G4 H4 v e t4 i4 s4 => ?_⟩
      obtain ⟨n1, n2⟩ := hn e s4
      obtain ⟨g4, h4⟩ := pv t4 g3 h3
      refine ⟨vs, h4, ?_, hlt, G4, vs ++ [v], acc ++ [e], (((t1.trans t2).trans t3).trans t4).mut hD0 g4, ((ex1.trans t2.gg).trans t3.gg).trans t4.gg, g4, upd_same, (d1.mono ((t2.gg.trans t3.gg).trans t4.gg)).snoc (i4.da (n1)), by simp; omega, n2⟩
      rw [d1.1]
      exact Nat.lt_of_lt_of_le (Nat.lt_of_le_of_lt hlen (Nat.lt_of_lt_of_le hlt hl)) (by decide)
  · have e : i = ds.length := by omega
    subst e
    exact .inl ⟨st (Nat.le_refl _), k G1 H1 DD vs acc t1 hD0 g1 h1 d1 ⟨ds, sd, hI⟩⟩
/-- slices -/
def tDOE (K : PySem.W.Frag) (ρ : Env) (So : Option Int → Prop) : TO := fun σ H Q => ∃ G H0, Le G H ∧ Sl K H0 G H σ ρ ∧ ∀ G' H' o, Tr G H G' H' → So o → Q o H'
abbrev XOE (X : Cx) (e : Option Expr) (ρ : Env) (So : Option Int → Prop) : Prop := PO X e (tDOE X.K ρ So)
theorem xoe_none : XOE X none ρ (fun o => o = none) := po_imp po_none fun σ H Q ⟨G, H0, l, sl, k⟩ => k G H _ (Tr.refl l) rfl
theorem xoe_some {e : Expr} {Sa : D → Prop} {So : Option Int → Prop} (h : XE X e ρ Sa) (w : ∀ x, Sa x → ∃ i : Int, x = .int i ∧ So (some i)) : XOE X (some e) ρ So := po_imp (po_some h) fun σ H Q ⟨G, H0, l, sl, k⟩ => ⟨G, H0, l, sl, fun G' H' v d t i s => by
  obtain ⟨n, rfl, h⟩ := w d s
  cases i
  exact ⟨_, rfl, k G' H' _ t h⟩⟩
theorem xf_slE {lo hi : Option Expr} {Sl' Sh : Option Int → Prop} {p2 : Pos} {Sa : D → Prop} {Sr : List D → Prop} (ha : XE X a ρ Sa) (hl : XOE X lo ρ Sl') (hh : XOE X hi ρ Sh) (w : ∀ x, Sa x → ∃ xs, lstOf x = some xs ∧ ∀ l h, Sl' l → Sh h → Sr (cutD xs l h)) : XF X (.Subscript a (.Slice lo hi none p2) pos) ρ Sr :=
  pe_imp (pe_slice sl_list ha hl hh) fun σ H Q ⟨G, H0, le, sl, k⟩ => ⟨G, H0, le, sl, fun G1 H1 v d t1 i1 s1 => ⟨G1, H0, t1.ok, sl.mono t1, fun G2 H2 l t2 sl' => ⟨G2, H0, t2.ok, sl.mono (t1.trans t2), fun G3 H3 h t3 sh => by
    obtain ⟨xs, e1, e2⟩ := w d s1
    obtain ⟨q1, vs, rfl, h1, d1⟩ := lst_of t3.ok (i1.mono (t2.trans t3)) e1
    refine ⟨q1, vs, rfl, SqL.of h1, fun p hp => ?_⟩
    have t := (t1.trans t2).trans t3
    exact k G3 _ p _ _ (t.trans (Tr.own t3.ok hp)) (t.fresh0 hp) (t3.ok.none hp) upd_same (cut_dal d1 l h) (e2 l h sl' sh)⟩⟩⟩
/-! ### calls by keywords alone -/
theorem pe_callK0 {CX : CXT} {k : Nat} {f : Addr} {fd : FuncData} {ps ks : List Str} {sp : Sp} {E : XK} {x : Str} {kws : List Keyword} {tk : TA} {g : List Value → List Value → List Value} {gV : List V → List V → List V} (F : FnOk X.prog X.w X.K X.mg X.base CX k f fd ps sp) (hr : Room k X.A) (hg : Gl X x) (hm : X.mg x = some (.ref f)) (hk : PySem.W.keepIn X.K (.ref f) = true) (hb : KBinds X.K fd ps ks g gV) (hx : Passes CX X E)
    (hkw : PK X kws tk) (hall : (backToKw pos (keywordEach kws X.env)).all (·.1.isSome) = true := by rfl) (hks : (backToKw pos (keywordEach kws X.env)).filterMap (·.1) = ks := by rfl)
    (hdb : (x == ("__debug__" : Str)) = false := by decide)
    (hpl : ((backTo pos (starEach [] X.env)).any (·.1) || (backToKw pos (keywordEach kws X.env)).any (·.1.isNone)) = false := by rfl) : PE X (.Call (.Name x p) [] kws pos) (tCallK sp gV E tNil tk) := by
  refine ⟨fun pins s σ H Q I h => ?_⟩
  refine wpAny_Call_Name_kw (ld_glob I hg hm ?_ hdb)
  refine PySem.W.callWith_KW0 (h₀ := X.base) I.ok.mod.kin hk hall (thn (hkw.run pos pins s σ H _ I h) fun ws s2 ⟨zs, H2, I2, rz, q2⟩ => ⟨I2.kIn, ?_⟩) hpl
  rw [hks]
  exact run_fnk F hr hb hx I2 .nil rz q2
/-- f(k = e) -/
theorem xe_callK1 {x nm : Str} {e : Expr} {kpos : Pos} {R : Rel} {d : D} {T : D → Prop} (F : FkK X.prog X.w X.K X.mg X.base x k [nm] (fun a b => one1 a b) R) (hr : Room k X.A) (he : XV X e ρ d) (n : noOl d = true) (r : R [d] T) (w : ∀ z, T z → S z) (hg : Gl X x := by rfl)
    (hall : (backToKw pos (keywordEach [⟨some nm, e, kpos⟩] X.env)).all (·.1.isSome) = true := by rfl) (hks : (backToKw pos (keywordEach [⟨some nm, e, kpos⟩] X.env)).filterMap (·.1) = [nm] := by rfl)
    (hdb : (x == ("__debug__" : Str)) = false := by decide)
    (hpl : ((backTo pos (starEach [] X.env)).any (·.1) || (backToKw pos (keywordEach [⟨some nm, e, kpos⟩] X.env)).any (·.1.isNone)) = false := by rfl) : XE X (.Call (.Name x p) [] [⟨some nm, e, kpos⟩] pos) ρ S := by
  obtain ⟨f, fd, ps, g, F, hm, hk, hb⟩ := F.ex
  refine pe_imp (pe_callK0 F hr hg hm hk hb pass0 (pk_cons he pk_nil) hall hks hdb hpl) fun σ H Q ⟨G, H0, l, sl, k⟩ => ⟨G, H0, l, sl, fun G1 H1 v z t1 i1 s1 => ?_⟩
  subst s1
  exact ⟨G1, [_], T, t1.ok, DaL.cons (i1.da n) DaL.nil, r, fun G2 H2 u y t2 da s2 => k G2 H2 u y (t1.trans t2) (Is.of da) (w y s2)⟩
/-- f(k2 = e2, k1 = e1), two parameters -/
theorem xe_callK2 {x n1 n2 : Str} {e1 e2 : Expr} {k1 k2 : Pos} {R : Rel} {d1 d2 : D} {T : D → Prop} (F : FkK X.prog X.w X.K X.mg X.base x k [n2, n1] (fun a b => swap2 a b) R) (hr : Room k X.A) (he2 : XV X e2 ρ d2) (he1 : XV X e1 ρ d1) (no1 : noOl d1 = true) (no2 : noOl d2 = true) (r : R [d1, d2] T) (w : ∀ z, T z → S z) (hg : Gl X x := by rfl)
    (hall : (backToKw pos (keywordEach [⟨some n2, e2, k2⟩, ⟨some n1, e1, k1⟩] X.env)).all (·.1.isSome) = true := by rfl) (hks : (backToKw pos (keywordEach [⟨some n2, e2, k2⟩, ⟨some n1, e1, k1⟩] X.env)).filterMap (·.1) = [n2, n1] := by rfl)
    (hdb : (x == ("__debug__" : Str)) = false := by decide)
    (hpl : ((backTo pos (starEach [] X.env)).any (·.1) || (backToKw pos (keywordEach [⟨some n2, e2, k2⟩, ⟨some n1, e1, k1⟩] X.env)).any (·.1.isNone)) = false := by rfl) : XE X (.Call (.Name x p) [] [⟨some n2, e2, k2⟩, ⟨some n1, e1, k1⟩] pos) ρ S := by
  obtain ⟨f, fd, ps, g, F, hm, hk, hb⟩ := F.ex
  refine pe_imp (pe_callK0 F hr hg hm hk hb pass0 (pk_cons he2 (pk_cons he1 pk_nil)) hall hks hdb hpl) fun σ H Q ⟨G, H0, l, sl, k⟩ => ⟨G, H0, l, sl, fun G1 H1 v z t1 i1 s1 => ⟨G1, H0, t1.ok, sl.mono t1, fun G2 H2 u y t2 i2 s2 => ?_⟩⟩
  subst s1 s2
  exact ⟨G2, [_, _], T, t2.ok, DaL.cons (i2.da no1) (DaL.cons ((i1.da no2).mono t2.gg) DaL.nil), r, fun G3 H3 u y t3 da s3 => k G3 H3 u y ((t1.trans t2).trans t3) (Is.of da) (w y s3)⟩
/-! ### {}, repr, is, max -/
theorem xv_dict0 : XV X (.Dict [] [] pos) ρ .dict :=
  pe_imp pe_dnewK fun σ H Q ⟨G, H0, l, sl, k⟩ => fun p hp => by
    have tn := Tr.new l hp (o := .dK []) (fun z => nomatch z)
    exact k _ _ _ .dict tn (Is.of (.dict upd_same)) rfl
theorem call_repr_bl : CallR X (.builtin "repr") (fun xs H Q => ∃ b : Bool, xs = [.bl b] ∧ Q (.str (if b then "True" else "False")) H) := by
  intro pins s σ H xs us Q I r h
  obtain ⟨b, rfl, q⟩ := h
  obtain ⟨u, rfl, ru⟩ := vals1 r
  obtain rfl : u = Value.bool b := ru
  exact PySem.P.repr_of_bool ⟨.str _, H, I.tok _, ⟨_, rfl⟩, q⟩
theorem xv_reprB {c : Bool} (hm : X.mg "repr" = none) (ha : XV X a ρ (.bl c)) (hg : Gl X "repr" := by rfl) (he : starEach [a] X.env = (false, eval a X.env) :: starEach [] X.env := by rfl) (hpl : (backTo pos (starEach [] X.env)).any (·.1) = false := by rfl) : XV X (.Call (.Name "repr" p) [a] [] pos) ρ (.str (if c then "True" else "False")) :=
  xe_blt call_repr_bl hm (xva_cons ha xva_nil he) (fun H0 G H vs l ii Q q => by
    obtain ⟨v, rfl, i1⟩ := isl1 ii
    cases i1
    exact ⟨c, rfl, q G H _ _ (Tr.refl l) (Is.of (.str _)) rfl⟩) (by decide +kernel) hg (by decide) (by decide) he hpl
theorem rd_neS {K : PySem.W.Frag} {x y : Str} : RD K rNe (.str x) (.str y) (fun z => z = .bl (!decide (x = y))) := fun H0 G H v u l i1 i2 Q q => by
  cases i1; cases i2
  refine ⟨rfl, q G H _ _ (Tr.refl l) (Is.of (.bl _)) ?_⟩
  by_cases h : x = y
  · subst h; simp
  · have : ¬ V.str x = V.str y := fun z => h (V.str.inj z)
    simp [h, this]
theorem xt_neS {x y : Str} (ha : XV X a ρ (.str x)) (hb : XV X b ρ (.str y)) (hm : behindInMarks .NotEq b = false := by exact nomark _) : XT X (.Compare a [.NotEq] [b] pos) ρ (fun z => z = !decide (x = y)) := xt_cmp op_ne ha hb rd_neS hm
theorem xv_isTrue {c : Bool} {jj p1} (ha : XV X a ρ (.bl c)) : XV X (.Compare a [.Is] [.Constant (.bool true) jj p1] pos) ρ (.bl c) :=
  xe_cmp op_isBl ha xv_bl (fun H0 G H v u l i1 i2 Q q => by
    cases i1; cases i2
    exact ⟨c, true, rfl, rfl, q G H _ _ (Tr.refl l) (Is.of (.bl _)) (by cases c <;> rfl)⟩) (by first | rfl | exact nomark _)
theorem rd_eqB {K : PySem.W.Frag} {x y : Bool} : RD K rEq (.bl x) (.bl y) (fun z => z = .bl (decide (x = y))) := fun H0 G H v u l i1 i2 Q q => by
  cases i1; cases i2
  refine ⟨rfl, q G H _ _ (Tr.refl l) (Is.of (.bl _)) ?_⟩
  cases x <;> cases y <;> rfl
theorem xv_eqB {x y : Bool} (ha : XV X a ρ (.bl x)) (hb : XV X b ρ (.bl y)) (hm : behindInMarks .Eq b = false := by exact nomark _) : XV X (.Compare a [.Eq] [b] pos) ρ (.bl (decide (x = y))) := xe_cmp op_eq ha hb rd_eqB hm
theorem xe_maxI {ns : List Int} {x : D} (hc : X.calm = true) (hm : X.mg "max" = none) (ha : XV X a ρ x) (e : lstOf x = some (ns.map D.int)) (hne : 0 < ns.length) (hg : Gl X "max" := by rfl) (he : starEach [a] X.env = (false, eval a X.env) :: starEach [] X.env := by rfl) (hpl : (backTo pos (starEach [] X.env)).any (·.1) = false := by rfl) :
    XE X (.Call (.Name "max" p) [a] [] pos) ρ (fun z => ∃ m : Int, z = .int m ∧ m ∈ ns ∧ ∀ y ∈ ns, y ≤ m) :=
  xe_blt (cr_max hc) hm (xva_cons ha xva_nil he) (fun H0 G H vs l ii Q q => by
    obtain ⟨v, rfl, i1⟩ := isl1 ii
    obtain ⟨q1, ws, rfl, s, hd⟩ := lst_of l i1 e
    obtain rfl := ints_of hd
    exact ⟨q1, ns, rfl, SqL.of s, hne, fun m h1 h2 => q G H _ _ (Tr.refl l) (Is.of (.int _)) ⟨m, rfl, h1, h2⟩⟩) (by decide +kernel) hg (by decide) (by decide) he hpl
/-! ### xs != [] -/
def rNeNil (K : PySem.W.Frag) : R2 := fun x y H Q => ∃ (p q : Addr) (vs : List V), x = .ref p ∧ y = .ref q ∧ SqL K H p vs ∧ SqL K H q [] ∧ Q (.bl (!vs.isEmpty)) H
theorem op_neNil (hu : X.A.units < cLine) : OpR X (compareOp .NotEq) (rNeNil X.K) := by
  intro pins s σ H x y v u Q I rx ry h
  obtain ⟨p, q, vs, rfl, rfl, h1, h2, k⟩ := h
  obtain rfl : v = .ref p := rx
  obtain rfl : u = .ref q := ry
  obtain ⟨its, rv, hl, hz⟩ := I.list h1
  obtain ⟨its2, rv2, hl2, hz2⟩ := I.list h2
  have e2 : its2 = [] := by
    have := rv2.length
    exact List.length_eq_zero_iff.mp (by rw [← this]; rfl)
  subst e2
  cases vs with
  | nil =>
    have e1 : its = [] := List.length_eq_zero_iff.mp (by rw [← rv.length]; rfl)
    subst e1
    exact PySem.SeqAt.RcNeAt.lists (e := fun _ => true) hl.isList hl2.isList rfl hu (fun j h => absurd h (by simp)) X.prog X.w _ _ ⟨.bl false, H, I, rfl, k⟩
  | cons a r =>
    have e1 : its.length = r.length + 1 := by rw [← rv.length]; rfl
    exact PySem.SeqAt.RcNeAt.lists_lengths hl.isList hl2.isList (by simp; intro z; rw [z] at e1; simp at e1) hu X.prog X.w _ _ ⟨.bl true, H, I, rfl, k⟩
theorem xt_neNil {ds : List D} {x : D} (hr : Room k X.A) (ha : XV X a ρ x) (e : lstOf x = some ds) (hb : XV X b ρ (.lst [])) (hm : behindInMarks .NotEq b = false := by exact nomark _) : XT X (.Compare a [.NotEq] [b] pos) ρ (fun z => z = !ds.isEmpty) :=
  xt_cmp (op_neNil (by have := room_in hr; omega)) ha hb (fun H0 G H v u l i1 i2 Q q => by
    obtain ⟨q1, vs, rfl, s, hd⟩ := lst_of l i1 e
    obtain ⟨q2, ws, rfl, s2, hd2⟩ := lst_of l i2 rfl
    obtain rfl := hd2.cases_nil
    refine ⟨q1, q2, vs, rfl, rfl, SqL.of s, SqL.of s2, q G H _ _ (Tr.refl l) (Is.of (.bl _)) ?_⟩
    have := hd.1
    cases vs <;> cases ds <;> first | rfl | (simp at this)) hm
end
end NL

/-! text L8 -/
set_option Elab.async false
set_option linter.all false
set_option maxRecDepth 100000
set_option maxHeartbeats 4000000
/-! The law: telling. -/
namespace NL
open PySem PySem.Spec L2
open PyProof.Rows (envOfC)
variable {P : Program} {w : World} {K : PySem.W.Frag} {mg : Str → Option Value} {base : Heap}
/-- one told as the law draws it -/
structure ToldOk (t : Told) : Prop where
  pt : PtOk t.1
  few : 1 ≤ t.2.length ∧ t.2.length ≤ 2
  bd : ∀ a ∈ t.2, Bd 2 a
/-- a drawn telling -/
structure Drawn (ts : List Told) : Prop where
  nd : (ts.map (·.1)).Nodup
  each : ∀ t ∈ ts, ToldOk t
theorem pdD_lnum (x : GQ) : pdD 1 (lnum x) = true := rfl
theorem in_lnums {x : GQ} {xs : List GQ} : decide (lnum x ∈ xs.map lnum) = decide (x ∈ xs) := by
  apply decide_eq_decide.mpr
  rw [List.mem_map]
  exact ⟨fun ⟨a, ha, e⟩ => lnum_inj e ▸ ha, fun h => ⟨x, h, rfl⟩⟩
def R_Ltelling : Rel := fun ds T => ∃ (m a : Int), ds = [.pot, .int m, .int a, .int 2] ∧ 1 ≤ m ∧ m ≤ 4 ∧ 1 ≤ a ∧ a ≤ 2 ∧ T = fun z => ∃ ts : List Told, z = ltoldsD ts ∧ Drawn ts ∧ 1 ≤ ts.length ∧ ts.length ≤ 4
theorem ok_Ltelling (T : Tx P K mg) : Fk P w K mg base "_law_telling" 36 R_Ltelling := by
  obtain ⟨fd, F⟩ := T.F_Ltelling
  refine mkFk F sc_Ltelling T.g_Ltelling ?_ ?_ (fun _ _ _ _ _ _ us hl => match us, hl with | [_, _, _, _], _ => rfl)
  · rintro ds S ⟨m, a, rfl, _⟩; rfl
  · rintro cdv A outer s H E hr ds S ⟨m, a, rfl, m1, m4, a1, a2, rfl⟩
    have hnd := sc_Ltelling.nd
    refine xss_setF 4 hnd (xf_lst xva_nil) ?_
    refine xss_cons (M := fun ρ => ∃ (ts : List Told) (o5 o6 o7 o8 o9 : Option D), Drawn ts ∧ 1 ≤ ts.length ∧ ts.length ≤ 4 ∧ ρ = [some .pot, some (.int m), some (.int a), some (.int 2), some (.ol (ts.map ltoldD)), o5, o6, o7, o8, o9]) (xs_for (L := [5]) PassesOwn.never rfl (xi_range1 (m := m.toNat) T.b_range (xv_var 1) rfl (by omega)) (xg_name 5 hnd) (fun i ρ => ∃ (ts : List Told) (o5 o6 o7 o8 o9 : Option D), Drawn ts ∧ (1 ≤ i → 1 ≤ ts.length) ∧ ts.length ≤ i ∧ ρ = [some .pot, some (.int m), some (.int a), some (.int 2), some (.ol (ts.map ltoldD)), o5, o6, o7, o8, o9]) ⟨[], none, none, none, none, none, ⟨List.nodup_nil, fun _ h => nomatch h⟩, by omega, Nat.le_refl _, rfl⟩ ?_ ?_) ?_
    · rintro i d ρ1 hd ⟨ts, o5, o6, o7, o8, o9, hD, hp, hlen, rfl⟩
      obtain ⟨hi, rfl⟩ := rng_at hd
      refine ⟨_, rfl, ?_⟩
      refine xss_setE (S := fun z => ∃ x : GQ, z = lnum x ∧ PtOk x) 6 hnd (xe_call (ok_Lpoint T) hr (xva_cons (xv_var 0) xva_nil) fun ds e => by subst e; exact ⟨rfl, _, ⟨rfl, rfl⟩, fun d h => h⟩) ?_
      rintro d ⟨pt, rfl, hpt⟩
      refine ⟨rfl, xss_one (xs_if (k := !decide (pt ∈ ts.map (·.1))) (xt_snapO 4 rfl (xt_to (xt_ninD 1 hr (xv_var 6) (xv_to (xv_of_xf (xf_map (own := [("_law_there", 7), ("_law_numbers", 8)]) (τ := tPair 7 8) (ds := ts.map ltoldD) (fun d => match d with | .tup [x, _] => x | _ => .non) rfl hnd (xi_list (xv_var 4)) (blk_ok rfl (by rfl)) (fun _ _ _ _ _ => xg_pair 7 8 rfl hnd) (by rw [List.length_map]; omega) ?_)) ?_) (pdD_lnum pt) (ds := (ts.map (·.1)).map lnum) ?_) ?_)) (fun hz => ?_) fun hz => ?_)⟩
      · intro d hd
        obtain ⟨t, ht, rfl⟩ := List.mem_map.mp hd
        exact ⟨_, ⟨_, _, rfl, rfl⟩, rfl, fun _ _ _ _ _ => xv_var 7⟩
      · show D.lst _ = D.lst _
        congr 1
        rw [List.map_map, List.map_map]; rfl
      · rw [List.all_map]
        exact List.all_eq_true.mpr fun x _ => pdD_lnum x
      · rw [in_lnums]
      · have hnew : pt ∉ ts.map (·.1) := by simpa using hz
        refine xss_one (xs_append 4 rfl (S := fun z => ∃ as : List GQ, z = ltoldD (pt, as) ∧ 1 ≤ as.length ∧ as.length ≤ 2 ∧ ∀ x ∈ as, Bd 2 x) (xe_tup (Ss := fun ds => ∃ as : List GQ, ds = [lnum pt, lrowD as] ∧ 1 ≤ as.length ∧ as.length ≤ 2 ∧ ∀ x ∈ as, Bd 2 x) (xa_cons' (xv_var 6) (xa_cons' (Sa := fun z => ∃ as : List GQ, z = lrowD as ∧ 1 ≤ as.length ∧ as.length ≤ 2 ∧ ∀ x ∈ as, Bd 2 x) (Sr := fun ds => ds = []) (S := fun ds => ∃ as : List GQ, ds = [lrowD as] ∧ 1 ≤ as.length ∧ as.length ≤ 2 ∧ ∀ x ∈ as, Bd 2 x) (xe_of_xf (xf_lcE (own := [("_law_at", 9)]) (τ := tName 9) (Sd := fun ds => 1 ≤ ds.length ∧ ds.length ≤ 2) (fun ds i acc => acc.length = i ∧ ∃ as : List GQ, acc = as.map lnum ∧ ∀ x ∈ as, Bd 2 x) rfl hnd (xie_range1 T.b_range (xe_addE (Sa := fun z => z = .int 1) (Sb := IR 0 a) (S := IR 1 (a + 1)) xv_int (xe_draw T (hr.mono (by decide)) (xv_var 0) (xv_var 2) (by omega)) ?_) ?_) (blk_ok rfl (by rfl)) (fun _ _ _ _ _ => xg_name 9 hnd) (fun ds h => by omega) (fun ds _ => ⟨rfl, [], rfl, fun _ h => nomatch h⟩) ?_) ?_) (xa_nil rfl) ?_) ?_) ?_) (fun d hd => ?_) ?_)
        · rintro x y rfl ⟨j, rfl, h1, h2⟩
          exact ⟨_, j, rfl, rfl, _, rfl, by omega, by omega⟩
        · rintro x ⟨j, rfl, h1, h2⟩
          refine ⟨j.toNat, by rw [Int.toNat_of_nonneg (by omega)], by omega, ?_⟩
          rw [rng_len]; omega
        · rintro ds hds i d acc hd ⟨hal, as, rfl, hb⟩
          refine ⟨_, true, rfl, fun _ _ _ _ _ => xts_nil, (fun z => nomatch z), fun _ => ⟨fun z => ∃ x : GQ, z = lnum x ∧ Bd 2 x, fun _ _ _ _ _ => xe_call (ok_Lanswer T) (hr.mono (by decide)) (xva_cons (xv_var 0) (xva_cons (xv_var 3) xva_nil)) (fun ds e => by subst e; exact ⟨rfl, _, ⟨rfl, rfl⟩, fun d h => h⟩), ?_⟩⟩
          rintro e ⟨x, rfl, hx⟩
          refine ⟨rfl, by rw [List.length_append, hal]; rfl, as ++ [x], by rw [List.map_append]; rfl, fun y hy => ?_⟩
          rcases List.mem_append.mp hy with z | z
          · exact hb y z
          · rw [List.mem_singleton.mp z]; exact hx
        · rintro es ⟨ds, ⟨h1, h2⟩, hal, as, rfl, hb⟩
          rw [List.length_map] at hal
          exact ⟨as, rfl, by omega, by omega, hb⟩
        · rintro d ds ⟨as, rfl, h⟩ rfl
          exact ⟨as, rfl, h⟩
        · rintro d ds rfl ⟨as, rfl, h⟩
          exact ⟨as, rfl, h⟩
        · rintro ds ⟨as, rfl, h⟩
          exact ⟨⟨as, rfl, h⟩, rfl, show 2 ≤ 1000 by decide⟩
        · obtain ⟨as, rfl, h1, h2, h3⟩ := hd
          refine ⟨rfl, ts ++ [(pt, as)], some (.int (0 + (i : Nat))), some (lnum pt), o7, o8, o9, ⟨?_, fun t ht => ?_⟩, fun _ => by simp, by rw [List.length_append]; simp; omega, by rw [List.map_append]; rfl⟩
          · rw [List.map_append]
            exact List.nodup_append.mpr ⟨hD.nd, by simp, fun x hx y hy e => by
              have : y = pt := by simpa using hy
              exact hnew (this ▸ e ▸ hx)⟩
          · rcases List.mem_append.mp ht with z | z
            · exact hD.each t z
            · rw [List.mem_singleton.mp z]; exact ⟨hpt, ⟨h1, h2⟩, h3⟩
        · rw [List.length_map]; omega
      · refine xss_nil ⟨ts, some (.int (0 + (i : Nat))), some (lnum pt), o7, o8, o9, hD, fun _ => ?_, by omega, rfl⟩
        have hin : pt ∈ ts.map (·.1) := by simpa using hz
        cases ts with
        | nil => cases hin
        | cons t r => simp
    · rintro ρ1 ⟨ts, o5, o6, o7, o8, o9, hD, hp, hlen, rfl⟩
      rw [rng_len] at hp hlen
      exact ⟨ts, o5, o6, o7, o8, o9, hD, hp (by omega), by omega, rfl⟩
    · rintro ρ1 ⟨ts, o5, o6, o7, o8, o9, hD, h1, h2, rfl⟩
      exact xss_one (xs_retv (xv_var 4) ⟨⟨ts, rfl, hD, h1, h2⟩, rfl⟩)
end NL

/-! text M1 -/
set_option Elab.async false
set_option linter.all false
set_option maxRecDepth 100000
set_option maxHeartbeats 1000000
/-! Plain law: the law's tones are the program's entries. -/
namespace NL
theorem gmul_comm (x y : GQ) : x * y = y * x := GQ.ext' (by grind) (by grind)
theorem gmul_assoc (x y z : GQ) : x * y * z = x * (y * z) := GQ.ext' (by grind) (by grind)
theorem gmul_one (x : GQ) : x * GQ.ofInt 1 = x := GQ.ext' (by rw [GQ.mul_re, GQ.ofInt_re, GQ.ofInt_im]; grind) (by rw [GQ.mul_im, GQ.ofInt_re, GQ.ofInt_im]; grind)
theorem gone_mul (x : GQ) : GQ.ofInt 1 * x = x := by rw [gmul_comm, gmul_one]
theorem gdiv_eq (x y : GQ) : x / y = x * (GQ.ofInt 1 / y) := by
  refine GQ.ext' ?_ ?_
  · rw [GQ.div_re, GQ.mul_re, GQ.div_re, GQ.div_im, GQ.ofInt_re, GQ.ofInt_im, Rat.div_def, Rat.div_def, Rat.div_def]; grind
  · rw [GQ.div_im, GQ.mul_im, GQ.div_re, GQ.div_im, GQ.ofInt_re, GQ.ofInt_im, Rat.div_def, Rat.div_def, Rat.div_def]; grind
theorem ginv_mul (x y : GQ) : GQ.ofInt 1 / (x * y) = (GQ.ofInt 1 / x) * (GQ.ofInt 1 / y) := by
  refine GQ.ext' ?_ ?_
  · rw [GQ.div_re, GQ.mul_re (GQ.ofInt 1 / x), GQ.div_re, GQ.div_im, GQ.div_re, GQ.div_im, sz_mul, GQ.ofInt_re, GQ.ofInt_im, GQ.mul_re, GQ.mul_im]
    simp only [Rat.div_def, Rat.inv_mul_rev]; grind
  · rw [GQ.div_im, GQ.mul_im (GQ.ofInt 1 / x), GQ.div_re, GQ.div_im, GQ.div_re, GQ.div_im, sz_mul, GQ.ofInt_re, GQ.ofInt_im, GQ.mul_re, GQ.mul_im]
    simp only [Rat.div_def, Rat.inv_mul_rev]; grind
theorem ginv_one : GQ.ofInt 1 / GQ.ofInt 1 = GQ.ofInt 1 := by
  refine GQ.ext' ?_ ?_
  · rw [GQ.div_re, GQ.sz_eq, GQ.ofInt_re, GQ.ofInt_im]; grind
  · rw [GQ.div_im, GQ.sz_eq, GQ.ofInt_re, GQ.ofInt_im]; grind
theorem ginv_pow (x : GQ) : ∀ k, GQ.ofInt 1 / x.pow k = (GQ.ofInt 1 / x).pow k
  | 0 => ginv_one
  | k + 1 => by
    show GQ.ofInt 1 / (x.pow k * x) = (GQ.ofInt 1 / x).pow k * (GQ.ofInt 1 / x)
    rw [ginv_mul, ginv_pow x k]
theorem term_eq (z w : GQ) (j l m : Nat) : lTerm z w j l m = tTerm z w (GQ.ofInt 1 / nearG z w) j l m := by
  unfold lTerm tTerm
  rw [gdiv_eq, ginv_pow, gmul_comm, Nat.div_div_eq_div_mul]
theorem sum_eq (z w : GQ) (j l : Nat) : ∀ m, lSum z w j l m = tSum z w (GQ.ofInt 1 / nearG z w) j l m
  | 0 => rfl
  | m + 1 => by unfold lSum tSum; rw [sum_eq z w j l m, term_eq]
theorem tone_entry (z w : GQ) (j l : Nat) : toneL z w j l = entryP z w j l := sum_eq z w j l _
end NL

/-! text M2 -/
set_option Elab.async false
set_option linter.all false
set_option maxRecDepth 100000
set_option maxHeartbeats 1000000
/-! Plain law: entries turned and mirrored. -/
namespace NL
theorem conj_mul (x y : GQ) : (x * y).conj = x.conj * y.conj := GQ.ext' (by grind) (by grind)
theorem conj_add (x y : GQ) : (x + y).conj = x.conj + y.conj := GQ.ext' (by grind) (by grind)
theorem conj_sub (x y : GQ) : (x - y).conj = x.conj - y.conj := GQ.ext' (by grind) (by grind)
theorem conj_conj (x : GQ) : x.conj.conj = x := GQ.ext' (by grind) (by grind)
theorem conj_int (n : Int) : (GQ.ofInt n).conj = GQ.ofInt n := GQ.ext' rfl (by rw [GQ.conj_im, GQ.ofInt_im]; grind)
theorem conj_pow (x : GQ) : ∀ k, (x.pow k).conj = x.conj.pow k
  | 0 => conj_int 1
  | k + 1 => by
    show (x.pow k * x).conj = x.conj.pow k * x.conj
    rw [conj_mul, conj_pow x k]
theorem conj_inv (x : GQ) : (GQ.ofInt 1 / x).conj = GQ.ofInt 1 / x.conj := by
  refine GQ.ext' ?_ ?_
  · rw [GQ.conj_re, GQ.div_re, GQ.div_re, sz_conj, GQ.ofInt_re, GQ.ofInt_im, GQ.conj_re, GQ.conj_im, Rat.div_def, Rat.div_def]; grind
  · rw [GQ.conj_im, GQ.div_im, GQ.div_im, sz_conj, GQ.ofInt_re, GQ.ofInt_im, GQ.conj_re, GQ.conj_im, Rat.div_def, Rat.div_def]; grind
theorem conj_near (z w : GQ) : (nearG z w).conj = nearG w z := by
  unfold nearG
  rw [conj_sub, conj_mul, conj_conj, conj_int, gmul_comm]
theorem conj_term (z w s : GQ) (j l m : Nat) : (tTerm z w s j l m).conj = tTerm w z s.conj l j m := by
  unfold tTerm
  rw [conj_mul, conj_mul, conj_mul, conj_pow, conj_pow, conj_pow, conj_conj, conj_int, gmul_comm (w.pow (j - m)), Nat.add_comm j l, Nat.mul_comm (fac (j - m))]
theorem conj_tSum (z w s : GQ) (j l : Nat) : ∀ m, (tSum z w s j l m).conj = tSum w z s.conj l j m
  | 0 => conj_int 0
  | m + 1 => by unfold tSum; rw [conj_add, conj_tSum z w s j l m, conj_term]
theorem conj_entry (z w : GQ) (j l : Nat) : (entryP z w j l).conj = entryP w z l j := by
  unfold entryP
  rw [conj_tSum, conj_inv, conj_near, Nat.min_comm]
theorem conj_entE (ts : List Told) (a b : Nat) : (entE ts a b).conj = entE ts b a := conj_entry _ _ _ _
theorem forceV_eq (ts : List Told) (a b : Nat) : forceV ts a b = entE ts a b := by
  unfold forceV
  by_cases h : a < b
  · rw [if_pos h]
  · rw [if_neg h, conj_entE]
end NL

/-! text M3 -/
set_option Elab.async false
set_option linter.all false
set_option maxRecDepth 100000
set_option maxHeartbeats 1000000
/-! Plain law: the entries of the out table. -/
namespace NL
def ansV (ts : List Told) (m : Mat) (p k c : Nat) : Nat → GQ
  | 0 => GQ.ofInt 0
  | s + 1 => ansV ts m p k c s + (tAt ts p).2.getD (k - s) (GQ.ofInt 0) * mGet m (firstOf ts p + s) c
theorem getD_map' {α β : Type} (f : α → β) (l : List α) {i : Nat} (d : α) (e : β) (h : i < l.length) : (l.map f).getD i e = f (l.getD i d) := by
  rw [List.getD_eq_getElem?_getD, List.getD_eq_getElem?_getD, List.getElem?_map, List.getElem?_eq_getElem h]; rfl
theorem sq_row {n : Nat} {m : Mat} (sq : Sq n m) {a : Nat} (h : a < n) : (m.getD a []).length = n := by
  have ha : a < m.length := by rw [sq.rows]; exact h
  rw [List.getD_eq_getElem?_getD, List.getElem?_eq_getElem ha]
  exact sq.cols _ (List.getElem_mem ha)
theorem ansRow_len {ts : List Told} {m : Mat} (sq : Sq (spots ts).length m) {p k : Nat} : ∀ s, (∀ t, t < s → firstOf ts p + t < (spots ts).length) → (ansRow ts m p k s).length = (spots ts).length
  | 0, _ => by simp [ansRow]
  | s + 1, h => by
    unfold ansRow
    rw [List.length_zipWith, ansRow_len sq s (fun t ht => h t (by omega)), sq_row sq (h s (by omega))]; omega
theorem ansRow_at {ts : List Told} {m : Mat} (sq : Sq (spots ts).length m) {p k c : Nat} (hc : c < (spots ts).length) : ∀ s, (∀ t, t < s → firstOf ts p + t < (spots ts).length) → (ansRow ts m p k s).getD c (GQ.ofInt 0) = ansV ts m p k c s
  | 0, _ => by
    unfold ansRow ansV
    rw [getD_map' _ _ (0, 0) _ hc]
  | s + 1, h => by
    have l1 := ansRow_len (k := k) sq s (fun t ht => h t (by omega))
    have l2 := sq_row sq (h s (by omega))
    have ih := ansRow_at (k := k) sq hc s (fun t ht => h t (by omega))
    unfold ansRow ansV
    rw [← ih]
    unfold mGet
    rw [List.getD_eq_getElem?_getD, List.getElem?_zipWith, List.getElem?_eq_getElem (by omega), List.getElem?_eq_getElem (by omega), List.getD_eq_getElem?_getD (l := ansRow ts m p k s), List.getElem?_eq_getElem (by omega), List.getD_eq_getElem?_getD (l := m.getD _ _), List.getElem?_eq_getElem (by omega)]
    rfl
theorem answ_at {ts : List Told} {m : Mat} (sq : Sq (spots ts).length m) {a c : Nat} (ha : a < (spots ts).length) (hc : c < (spots ts).length) : mGet (answM ts m) a c = ansV ts m (spAt ts a).1 (spAt ts a).2 c ((spAt ts a).2 + 1) := by
  obtain ⟨h1, h2⟩ := spAt_mem ha
  rw [mGet, answM, getD_map' _ _ (0, 0) _ ha]
  exact ansRow_at sq hc _ fun t ht => spots_lt h1 (by unfold spAt at h2; omega)
theorem turn_at {n : Nat} {m : Mat} (sq : Sq n m) {a c : Nat} (ha : a < n) (hc : c < n) : mGet (turnM m) a c = (mGet m c a).conj := by
  rw [mGet, turnM, getD_map' _ _ 0 _ (by rw [List.length_range, sq.rows]; exact ha), getD_map' _ _ [] _ (by rw [sq.rows]; exact hc)]
  rw [List.getD_eq_getElem?_getD (l := List.range _), List.getElem?_range (by rw [sq.rows]; exact ha)]
  rfl
end NL

/-! text M4 -/
set_option Elab.async false
set_option linter.all false
set_option maxRecDepth 100000
set_option maxHeartbeats 2000000
/-! Plain law: the law's table is the program's table. -/
namespace NL
theorem tab_alg (j l : Nat) (hj : j ≤ 1) (hl : l ≤ 1) (z y : GQ) (a b : List GQ) (X : Nat → Nat → GQ) (hX : ∀ s t, s ≤ 1 → t ≤ 1 → X s t = toneL z y s t)
    (A : Nat → Nat → GQ) (hA0 : ∀ t, A t 0 = GQ.ofInt 0) (hA : ∀ t s, A t (s + 1) = A t s + a.getD (j - s) (GQ.ofInt 0) * X s t)
    (B : Nat → GQ) (hB0 : B 0 = GQ.ofInt 0) (hB : ∀ t, t ≤ l → B (t + 1) = B t + b.getD (l - t) (GQ.ofInt 0) * (A t (j + 1)).conj) :
    lOut z y a b j l (j + 1) = toneL z y j l - (B (l + 1)).conj := by
  have h1 : j = 0 ∨ j = 1 := by omega
  have h2 : l = 0 ∨ l = 1 := by omega
  have x00 := hX 0 0 (by omega) (by omega)
  have x01 := hX 0 1 (by omega) (by omega)
  have x10 := hX 1 0 (by omega) (by omega)
  have x11 := hX 1 1 (by omega) (by omega)
  have z0r : (GQ.ofInt 0).re = 0 := rfl
  have z0i : (GQ.ofInt 0).im = 0 := rfl
  rcases h1 with rfl | rfl <;> rcases h2 with rfl | rfl
  · simp only [lOut, lIn, gone_mul, hB 0 (by omega), hB0, hA, hA0, x00]
    refine GQ.ext' ?_ ?_ <;> (simp only [GQ.add_re, GQ.add_im, GQ.sub_re, GQ.sub_im, GQ.mul_re, GQ.mul_im, GQ.conj_re, GQ.conj_im, z0r, z0i]; grind)
  · simp only [lOut, lIn, gone_mul, hB 0 (by omega), hB 1 (by omega), hB0, hA, hA0, x00, x01]
    refine GQ.ext' ?_ ?_ <;> (simp only [GQ.add_re, GQ.add_im, GQ.sub_re, GQ.sub_im, GQ.mul_re, GQ.mul_im, GQ.conj_re, GQ.conj_im, z0r, z0i]; grind)
  · simp only [lOut, lIn, gone_mul, hB 0 (by omega), hB0, hA, hA0, x00, x10]
    refine GQ.ext' ?_ ?_ <;> (simp only [GQ.add_re, GQ.add_im, GQ.sub_re, GQ.sub_im, GQ.mul_re, GQ.mul_im, GQ.conj_re, GQ.conj_im, z0r, z0i]; grind)
  · simp only [lOut, lIn, gone_mul, hB 0 (by omega), hB 1 (by omega), hB0, hA, hA0, x00, x01, x10, x11]
    refine GQ.ext' ?_ ?_ <;> (simp only [GQ.add_re, GQ.add_im, GQ.sub_re, GQ.sub_im, GQ.mul_re, GQ.mul_im, GQ.conj_re, GQ.conj_im, z0r, z0i]; grind)
end NL

/-! text M5 -/
set_option Elab.async false
set_option linter.all false
set_option maxRecDepth 100000
set_option maxHeartbeats 2000000
/-! Plain law: the law's table is the program's table. -/
namespace NL
theorem mat_ext {n : Nat} {a b : Mat} (sa : Sq n a) (sb : Sq n b) (h : ∀ i j, i < n → j < n → mGet a i j = mGet b i j) : a = b := by
  refine List.ext_getElem (by rw [sa.rows, sb.rows]) fun i h1 h2 => ?_
  have l1 := sa.cols _ (List.getElem_mem h1)
  have l2 := sb.cols _ (List.getElem_mem h2)
  refine List.ext_getElem (by rw [l1, l2]) fun j h3 h4 => ?_
  have := h i j (by rw [← sa.rows]; exact h1) (by rw [← l1]; exact h3)
  unfold mGet at this
  rw [List.getD_eq_getElem?_getD (l := a), List.getElem?_eq_getElem h1, List.getD_eq_getElem?_getD (l := b), List.getElem?_eq_getElem h2] at this
  simpa [List.getD_eq_getElem?_getD, List.getElem?_eq_getElem h3, List.getElem?_eq_getElem h4] using this
theorem sub_at {n : Nat} {a b : Mat} (sa : Sq n a) (sb : Sq n b) {i j : Nat} (hi : i < n) (hj : j < n) : mGet (subM a b) i j = mGet a i j - mGet b i j := by
  have h1 : i < a.length := by rw [sa.rows]; exact hi
  have h2 : i < b.length := by rw [sb.rows]; exact hi
  have l1 := sa.cols _ (List.getElem_mem h1)
  have l2 := sb.cols _ (List.getElem_mem h2)
  unfold mGet subM
  simp [List.getD_eq_getElem?_getD, List.getElem?_zipWith, List.getElem?_eq_getElem h1, List.getElem?_eq_getElem h2, List.getElem?_eq_getElem (show j < a[i].length by omega), List.getElem?_eq_getElem (show j < b[i].length by omega)]
theorem spAt_of {ts : List Told} {p s : Nat} (h : p < ts.length) (hs : s < (tAt ts p).2.length) : spAt ts (firstOf ts p + s) = (p, s) := by
  unfold spAt
  rw [List.getD_eq_getElem?_getD, spots_at h hs]; rfl
theorem matOf_at {n a b : Nat} {f : Nat → Nat → GQ} (ha : a < n) (hb : b < n) : mGet (matOf n f) a b = f a b := by
  unfold mGet
  rw [List.getD_eq_getElem?_getD (l := matOf n f), matOf_row ha]
  show ((List.range n).map _).getD b _ = _
  rw [getD_map' _ _ 0 _ (by rw [List.length_range]; exact hb), List.getD_eq_getElem?_getD, List.getElem?_range hb]; rfl
theorem ltab_at {ts : List Told} {a b : Nat} (ha : a < (spots ts).length) (hb : b < (spots ts).length) : mGet (ltabM ts) a b = ltabV ts (spAt ts a) (spAt ts b) := by
  unfold mGet ltabM spAt
  rw [getD_map' _ _ (0, 0) _ ha, getD_map' _ _ (0, 0) _ hb]
theorem out_at {ts : List Told} {m : Mat} {Bn : Nat} (ok : TsOk ts) (sq : Sq (spots ts).length m) (bm : MBd Bn m) {a b : Nat} (ha : a < (spots ts).length) (hb : b < (spots ts).length) : mGet (outM ts m) a b = (ansV ts (turnM (answM ts m)) (spAt ts b).1 (spAt ts b).2 a ((spAt ts b).2 + 1)).conj := by
  obtain ⟨s1, b1⟩ := answM_ok ok sq bm
  obtain ⟨s2, b2⟩ := turnM_ok s1 b1 (by omega)
  obtain ⟨s3, b3⟩ := answM_ok ok s2 b2
  unfold outM
  rw [turn_at s3 ha hb, answ_at s2 hb ha]
theorem tab_eq {ts : List Told} (ok : TsOk ts) : ltabM ts = tableM ts := by
  refine mat_ext (ltabM_ok ok).1 (tableM_ok ok).1 fun a b ha hb => ?_
  obtain ⟨sf, bf⟩ := forceM_ok ok
  obtain ⟨so, bo⟩ := outM_ok ok sf bf
  obtain ⟨sA, bA⟩ := answM_ok ok sf bf
  obtain ⟨pa, qa⟩ := spAt_mem ha
  obtain ⟨pb, qb⟩ := spAt_mem hb
  have ja := spAt_one ok ha
  have jb := spAt_one ok hb
  unfold tableM
  rw [ltab_at ha hb, sub_at sf so ha hb, out_at ok sf bf ha hb]
  have e1 : mGet (forceM ts) a b = toneL (tAt ts (spAt ts a).1).1 (tAt ts (spAt ts b).1).1 (spAt ts a).2 (spAt ts b).2 := by
    unfold forceM
    rw [matOf_at ha hb, forceV_eq, tone_entry]; rfl
  rw [e1]
  unfold ltabV entL
  refine tab_alg _ _ ja jb _ _ _ _ (fun s t => toneL (tAt ts (spAt ts a).1).1 (tAt ts (spAt ts b).1).1 s t) (fun _ _ _ _ => rfl)
    (fun t s => Nat.rec (GQ.ofInt 0) (fun s r => r + (tAt ts (spAt ts a).1).2.getD ((spAt ts a).2 - s) (GQ.ofInt 0) * toneL (tAt ts (spAt ts a).1).1 (tAt ts (spAt ts b).1).1 s t) s) (fun _ => rfl) (fun _ _ => rfl)
    (fun t => ansV ts (turnM (answM ts (forceM ts))) (spAt ts b).1 (spAt ts b).2 a t) rfl fun t ht => ?_
  have hk := spots_lt pb (show t < (tAt ts (spAt ts b).1).2.length by omega)
  show ansV _ _ _ _ _ t + _ * mGet _ _ _ = _
  rw [turn_at sA hk ha, answ_at sf ha hk]
  congr 3
  have key : ∀ s, s ≤ (spAt ts a).2 + 1 → ansV ts (forceM ts) (spAt ts a).1 (spAt ts a).2 (firstOf ts (spAt ts b).1 + t) s = Nat.rec (GQ.ofInt 0) (fun s r => r + (tAt ts (spAt ts a).1).2.getD ((spAt ts a).2 - s) (GQ.ofInt 0) * toneL (tAt ts (spAt ts a).1).1 (tAt ts (spAt ts b).1).1 s t) s := by
    intro s
    induction s with
    | zero => intro _; rfl
    | succ s ih =>
      intro hs
      have hl := spots_lt pa (show s < (tAt ts (spAt ts a).1).2.length by omega)
      show ansV _ _ _ _ _ s + _ * mGet _ _ _ = _
      rw [ih (by omega)]
      have : mGet (forceM ts) (firstOf ts (spAt ts a).1 + s) (firstOf ts (spAt ts b).1 + t) = toneL (tAt ts (spAt ts a).1).1 (tAt ts (spAt ts b).1).1 s t := by
        unfold forceM
        rw [matOf_at hl hk, forceV_eq, tone_entry]
        unfold entE
        rw [spAt_of pa (by omega), spAt_of pb (by omega)]
      rw [this]
  exact key _ (by omega)
end NL

/-! text M6 -/
set_option Elab.async false
set_option linter.all false
set_option maxRecDepth 100000
set_option maxHeartbeats 2000000
/-! Plain law: the table is its own mirror. -/
namespace NL
theorem conj_tone (z w : GQ) (j l : Nat) : (toneL z w j l).conj = toneL w z l j := by rw [tone_entry, tone_entry, conj_entry]
theorem conj_entL (z y : GQ) (a b : List GQ) (j l : Nat) (hj : j ≤ 1) (hl : l ≤ 1) : (entL z y a b j l).conj = entL y z b a l j := by
  have h1 : j = 0 ∨ j = 1 := by omega
  have h2 : l = 0 ∨ l = 1 := by omega
  unfold entL
  rcases h1 with rfl | rfl <;> rcases h2 with rfl | rfl
  all_goals
    simp only [lOut, lIn, gone_mul, ← conj_tone z y]
    refine GQ.ext' ?_ ?_ <;> (simp only [GQ.sub_re, GQ.sub_im, GQ.mul_re, GQ.mul_im, GQ.conj_re, GQ.conj_im]; grind)
/-- a square table that is its own mirror -/
def Herm (n : Nat) (m : Mat) : Prop := ∀ a b, a < n → b < n → (mGet m a b).conj = mGet m b a
theorem ltab_herm {ts : List Told} (ok : TsOk ts) : Herm (spots ts).length (ltabM ts) := fun a b ha hb => by
  rw [ltab_at ha hb, ltab_at hb ha]
  exact conj_entL _ _ _ _ _ _ (spAt_one ok ha) (spAt_one ok hb)
theorem tab_herm {ts : List Told} (ok : TsOk ts) : Herm (spots ts).length (tableM ts) := tab_eq ok ▸ ltab_herm ok
end NL

/-! text M7 -/
set_option Elab.async false
set_option linter.all false
set_option maxRecDepth 100000
set_option maxHeartbeats 1000000
/-! Plain law: sums and forms. -/
namespace NL
def gS : List Nat → (Nat → GQ) → GQ
  | [], _ => GQ.ofInt 0
  | a :: l, f => f a + gS l f
theorem gS_congr {f g : Nat → GQ} : ∀ {l : List Nat}, (∀ a ∈ l, f a = g a) → gS l f = gS l g
  | [], _ => rfl
  | a :: l, h => by unfold gS; rw [h a (List.mem_cons_self ..), gS_congr fun b hb => h b (List.mem_cons_of_mem _ hb)]
theorem gzero_add (x : GQ) : GQ.ofInt 0 + x = x := GQ.ext' (by rw [GQ.add_re, GQ.ofInt_re]; grind) (by rw [GQ.add_im, GQ.ofInt_im]; grind)
theorem gadd_zero (x : GQ) : x + GQ.ofInt 0 = x := GQ.ext' (by rw [GQ.add_re, GQ.ofInt_re]; grind) (by rw [GQ.add_im, GQ.ofInt_im]; grind)
theorem gmul_zero (x : GQ) : x * GQ.ofInt 0 = GQ.ofInt 0 := GQ.ext' (by rw [GQ.mul_re, GQ.ofInt_re, GQ.ofInt_im]; grind) (by rw [GQ.mul_im, GQ.ofInt_re, GQ.ofInt_im]; grind)
theorem gzero_mul (x : GQ) : GQ.ofInt 0 * x = GQ.ofInt 0 := by rw [gmul_comm, gmul_zero]
theorem gadd_comm (x y : GQ) : x + y = y + x := GQ.ext' (by grind) (by grind)
theorem gadd_assoc (x y z : GQ) : x + y + z = x + (y + z) := GQ.ext' (by grind) (by grind)
theorem gmul_add (x y z : GQ) : x * (y + z) = x * y + x * z := GQ.ext' (by grind) (by grind)
theorem gadd_mul (x y z : GQ) : (x + y) * z = x * z + y * z := GQ.ext' (by grind) (by grind)
theorem gS_add (f g : Nat → GQ) : ∀ l, gS l (fun a => f a + g a) = gS l f + gS l g
  | [] => (gzero_add _).symm
  | a :: l => by unfold gS; rw [gS_add f g l]; exact GQ.ext' (by grind) (by grind)
theorem gS_mul (c : GQ) (f : Nat → GQ) : ∀ l, gS l (fun a => c * f a) = c * gS l f
  | [] => (gmul_zero c).symm
  | a :: l => by unfold gS; rw [gS_mul c f l, gmul_add]
theorem gS_conj (f : Nat → GQ) : ∀ l, (gS l f).conj = gS l fun a => (f a).conj
  | [] => conj_int 0
  | a :: l => by unfold gS; rw [conj_add, gS_conj f l]
theorem gS_perm {l l' : List Nat} (h : l.Perm l') (f : Nat → GQ) : gS l f = gS l' f := by
  induction h with
  | nil => rfl
  | cons x _ ih => unfold gS; rw [ih]
  | swap x y l => unfold gS; unfold gS; rw [← gadd_assoc, ← gadd_assoc, gadd_comm (f y)]
  | trans _ _ i1 i2 => exact i1.trans i2
theorem gS_zero {f : Nat → GQ} {l : List Nat} (h : ∀ a ∈ l, f a = GQ.ofInt 0) : gS l f = GQ.ofInt 0 := by
  rw [gS_congr h]
  induction l with
  | nil => rfl
  | cons a l ih => unfold gS; rw [ih fun b hb => h b (List.mem_cons_of_mem _ hb), gadd_zero]
/-- the form of a table (given by its entries) on places -/
def qF (m : Nat → Nat → GQ) (S : List Nat) (x : Nat → GQ) : GQ := gS S fun a => (x a).conj * gS S fun b => m a b * x b
def Psd (m : Nat → Nat → GQ) (S : List Nat) : Prop := ∀ x, 0 ≤ (qF m S x).re
def HermOn (m : Nat → Nat → GQ) (S : List Nat) : Prop := ∀ a ∈ S, ∀ b ∈ S, (m a b).conj = m b a
theorem psd_perm {m : Nat → Nat → GQ} {S S' : List Nat} (h : S.Perm S') : Psd m S ↔ Psd m S' := by
  have : ∀ x, qF m S x = qF m S' x := fun x => by
    unfold qF
    rw [gS_perm h]
    exact gS_congr fun a _ => by rw [gS_perm h]
  unfold Psd
  exact ⟨fun k x => this x ▸ k x, fun k x => this x ▸ k x⟩
theorem psd_congr {m m' : Nat → Nat → GQ} {S : List Nat} (h : ∀ a ∈ S, ∀ b ∈ S, m a b = m' a b) : Psd m S ↔ Psd m' S := by
  have : ∀ x, qF m S x = qF m' S x := fun x => gS_congr fun a ha => by rw [gS_congr fun b hb => by rw [h a ha b hb]]
  unfold Psd
  exact ⟨fun k x => this x ▸ k x, fun k x => this x ▸ k x⟩
/-- one place ahead -/
theorem qF_cons {m : Nat → Nat → GQ} {p : Nat} {S : List Nat} (h : ∀ a ∈ S, (m p a).conj = m a p) (x : Nat → GQ) : qF m (p :: S) x = (x p).conj * (m p p * x p) + (x p).conj * (gS S fun b => m p b * x b) + (gS S fun b => m p b * x b).conj * x p + qF m S x := by
  have e1 : ∀ a, (x a).conj * gS (p :: S) (fun b => m a b * x b) = (x a).conj * (m a p * x p) + (x a).conj * gS S fun b => m a b * x b := fun a => gmul_add _ _ _
  unfold qF
  rw [gS_congr fun a _ => e1 a]
  show _ + gS S _ = _
  rw [gS_add, gS_conj]
  have e2 : gS S (fun a => (x a).conj * (m a p * x p)) = gS S (fun a => (m p a * x a).conj) * x p := by
    rw [gmul_comm, ← gS_mul]
    exact gS_congr fun a ha => by rw [conj_mul, h a ha]; exact GQ.ext' (by grind) (by grind)
  rw [e2]
  simp only [gadd_assoc]
end NL

/-! text M8 -/
set_option Elab.async false
set_option linter.all false
set_option maxRecDepth 100000
set_option maxHeartbeats 1000000
/-! Plain law: one step of squares. -/
namespace NL
variable {m : Nat → Nat → GQ} {p : Nat} {S : List Nat}
def upX (x : Nat → GQ) (p : Nat) (c : GQ) : Nat → GQ := fun a => if a = p then c else x a
theorem upX_S {x : Nat → GQ} {c : GQ} (hp : p ∉ S) : ∀ a ∈ S, upX x p c a = x a := fun a ha => if_neg (c := a = p) fun e => hp (e ▸ ha)
theorem qF_upX {x : Nat → GQ} {c : GQ} (hp : p ∉ S) : qF m S (upX x p c) = qF m S x :=
  gS_congr fun a ha => by rw [upX_S hp a ha, gS_congr fun b hb => by rw [upX_S hp b hb]]
/-- the step -/
def stepM (m : Nat → Nat → GQ) (p : Nat) : Nat → Nat → GQ := fun a b => m a b - m a p / m p p * m p b
theorem real_of (h : (m p p).conj = m p p) : (m p p).im = 0 := by
  have : (m p p).conj.im = (m p p).im := by rw [h]
  rw [GQ.conj_im] at this; grind
/-- what is under the diagonal is not psd -/
theorem psd_neg (h : (m p p).re < 0) (hr : (m p p).conj = m p p) (hh : ∀ a ∈ S, (m p a).conj = m a p) (hp : p ∉ S) : ¬ Psd m (p :: S) := fun k => by
  have := k (upX (fun _ => GQ.ofInt 0) p (GQ.ofInt 1))
  rw [qF_cons hh, qF_upX hp] at this
  have z1 : gS S (fun b => m p b * upX (fun _ => GQ.ofInt 0) p (GQ.ofInt 1) b) = GQ.ofInt 0 := gS_zero fun a ha => by rw [upX_S hp a ha, gmul_zero]
  have z2 : qF m S (fun _ => GQ.ofInt 0) = GQ.ofInt 0 := gS_zero fun a _ => by rw [conj_int, gzero_mul]
  have z3 : upX (fun _ => GQ.ofInt 0) p (GQ.ofInt 1) p = GQ.ofInt 1 := if_pos rfl
  rw [z1, z2, z3, conj_int, gone_mul, gmul_one, gmul_zero, conj_int, gzero_mul, gadd_zero, gadd_zero, gadd_zero] at this
  grind
/-- fewer places -/
theorem psd_tail (hh : ∀ a ∈ S, (m p a).conj = m a p) (hp : p ∉ S) (k : Psd m (p :: S)) : Psd m S := fun x => by
  have := k (upX x p (GQ.ofInt 0))
  rw [qF_cons hh, qF_upX hp] at this
  have z3 : upX x p (GQ.ofInt 0) p = GQ.ofInt 0 := if_pos rfl
  rw [z3, conj_int, gzero_mul, gzero_mul, gmul_zero, gzero_add, gzero_add, gzero_add] at this
  exact this
end NL

/-! text M9 -/
set_option Elab.async false
set_option linter.all false
set_option maxRecDepth 100000
set_option maxHeartbeats 1000000
/-! Plain law: the step at a place above nought. -/
namespace NL
variable {m : Nat → Nat → GQ} {p : Nat} {S : List Nat}
theorem gS_sub (f g : Nat → GQ) : ∀ l, gS l (fun a => f a - g a) = gS l f - gS l g
  | [] => GQ.ext' (by show _ = (GQ.ofInt 0).re - _; rw [GQ.ofInt_re]; grind [gS]) (by show _ = (GQ.ofInt 0).im - _; rw [GQ.ofInt_im]; grind [gS])
  | a :: l => by unfold gS; rw [gS_sub f g l]; exact GQ.ext' (by grind) (by grind)
/-- the form after the step -/
theorem qF_step (hh : ∀ a ∈ S, (m p a).conj = m a p) (hr : (m p p).conj = m p p) (x : Nat → GQ) : qF (stepM m p) S x = qF m S x - ((gS S fun b => m p b * x b).conj / m p p) * (gS S fun b => m p b * x b) := by
  have e1 : ∀ a, gS S (fun b => stepM m p a b * x b) = gS S (fun b => m a b * x b) - m a p / m p p * gS S (fun b => m p b * x b) := fun a => by
    rw [← gS_mul, ← gS_sub]
    exact gS_congr fun b _ => by unfold stepM; exact GQ.ext' (by grind) (by grind)
  have e2 : ∀ a, (x a).conj * gS S (fun b => stepM m p a b * x b) = (x a).conj * gS S (fun b => m a b * x b) - ((GQ.ofInt 1 / m p p) * gS S (fun b => m p b * x b)) * ((x a).conj * m a p) := fun a => by
    rw [e1, gdiv_eq (m a p)]
    exact GQ.ext' (by simp only [GQ.sub_re, GQ.mul_re, GQ.mul_im, GQ.sub_im]; grind) (by simp only [GQ.sub_re, GQ.mul_re, GQ.mul_im, GQ.sub_im]; grind)
  unfold qF
  rw [gS_congr fun a _ => e2 a, gS_sub, gS_mul, gS_conj, gdiv_eq (gS S _)]
  rw [gS_congr (f := fun a => (x a).conj * m a p) (g := fun a => (m p a * x a).conj) fun a ha => by rw [conj_mul, hh a ha, gmul_comm]]
  congr 1
  rw [gmul_comm, ← gmul_assoc]
end NL

/-! text M10 -/
set_option Elab.async false
set_option linter.all false
set_option maxRecDepth 100000
set_option maxHeartbeats 1000000
/-! Plain law: psd goes through a step, both ways. -/
namespace NL
variable {m : Nat → Nat → GQ} {p : Nat} {S : List Nat}
/-- d |y|^2 + y* s + s* y = |d y + s|^2 / d - |s|^2 / d, d real -/
theorem square_alg (d y s : GQ) (hi : d.im = 0) (hd : 0 < d.re) : (y.conj * (d * y) + y.conj * s + s.conj * y).re = ((d * y + s).sz - s.sz) / d.re := by
  have hne : d.re ≠ 0 := by grind
  have : (y.conj * (d * y) + y.conj * s + s.conj * y).re * d.re = (d * y + s).sz - s.sz := by
    simp only [GQ.sz_eq, GQ.add_re, GQ.add_im, GQ.mul_re, GQ.mul_im, GQ.conj_re, GQ.conj_im, hi]; grind
  rw [← this, Rat.div_def, Rat.mul_assoc, Rat.mul_inv_cancel _ hne, Rat.mul_one]
theorem quot_alg (d s : GQ) (hi : d.im = 0) (hd : 0 < d.re) : (s.conj / d * s).re = s.sz / d.re := by
  have hne : d.re ≠ 0 := by grind
  rw [GQ.mul_re, GQ.div_re, GQ.div_im, GQ.sz_eq d, hi, GQ.sz_eq, GQ.conj_re, GQ.conj_im]
  simp only [Rat.div_def]
  have e : (d.re * d.re + 0 * 0) = d.re * d.re := by grind
  rw [e, Rat.inv_mul_rev]
  have k := Rat.mul_inv_cancel _ hne
  grind
theorem psd_step (hh : ∀ a ∈ S, (m p a).conj = m a p) (hr : (m p p).conj = m p p) (hp : p ∉ S) (hd : 0 < (m p p).re) : Psd m (p :: S) ↔ Psd (stepM m p) S := by
  have hi := real_of hr
  have hne : (m p p).re ≠ 0 := by grind
  have split : ∀ x, (qF m (p :: S) x).re = (m p p * x p + gS S fun b => m p b * x b).sz / (m p p).re + (qF (stepM m p) S x).re := fun x => by
    rw [qF_cons hh, qF_step hh hr, GQ.add_re, square_alg _ _ _ hi hd, GQ.sub_re, quot_alg _ _ hi hd, Rat.div_def, Rat.div_def, Rat.div_def]; grind
  constructor
  · intro k x
    have := k (upX x p (GQ.ofInt 0 - (gS S fun b => m p b * x b) / m p p))
    rw [split] at this
    have z1 : (gS S fun b => m p b * upX x p (GQ.ofInt 0 - (gS S fun b => m p b * x b) / m p p) b) = gS S fun b => m p b * x b := gS_congr fun b hb => by rw [upX_S hp b hb]
    have z2 : upX x p (GQ.ofInt 0 - (gS S fun b => m p b * x b) / m p p) p = GQ.ofInt 0 - (gS S fun b => m p b * x b) / m p p := if_pos rfl
    have z3 : m p p * (GQ.ofInt 0 - (gS S fun b => m p b * x b) / m p p) + (gS S fun b => m p b * x b) = GQ.ofInt 0 := by
      generalize (gS S fun b => m p b * x b) = s
      have kk := Rat.mul_inv_cancel _ hne
      have e : (m p p).re * (m p p).re + 0 * 0 = (m p p).re * (m p p).re := by grind
      refine GQ.ext' ?_ ?_ <;> (simp only [GQ.add_re, GQ.add_im, GQ.mul_re, GQ.mul_im, GQ.sub_re, GQ.sub_im, GQ.div_re, GQ.div_im, GQ.sz_eq, hi, GQ.ofInt_re, GQ.ofInt_im, Rat.div_def, e, Rat.inv_mul_rev]; grind)
    rw [z1, z2, z3, sz_ofInt0, qF_upX hp, Rat.div_def] at this
    grind
  · intro k x
    rw [split]
    have h1 := k x
    have h2 : 0 ≤ (m p p * x p + gS S fun b => m p b * x b).sz / (m p p).re := by
      rw [Rat.div_def]
      exact Rat.mul_nonneg (GQ.sz_nonneg _) (Rat.le_of_lt (Rat.inv_pos.mpr hd))
    grind
end NL

/-! text M11 -/
set_option Elab.async false
set_option linter.all false
set_option maxRecDepth 100000
set_option maxHeartbeats 1000000
/-! Plain law: psd at a place of nought. -/
namespace NL
variable {m : Nat → Nat → GQ} {p : Nat} {S : List Nat}
theorem psd_nought (hh : ∀ a ∈ S, (m p a).conj = m a p) (hp : p ∉ S) (h0 : m p p = GQ.ofInt 0) (hz : ∀ b ∈ S, m p b = GQ.ofInt 0) : Psd m (p :: S) ↔ Psd m S := by
  refine ⟨psd_tail hh hp, fun k x => ?_⟩
  rw [qF_cons hh, h0, gS_zero fun a ha => by rw [hz a ha, gzero_mul], gzero_mul, gmul_zero, conj_int, gzero_mul, gzero_add, gzero_add, gzero_add]
  exact k x
end NL

/-! text M12 -/
set_option Elab.async false
set_option linter.all false
set_option maxRecDepth 100000
set_option maxHeartbeats 1000000
/-! Plain law: a nought with something beside it is not psd. -/
namespace NL
variable {m : Nat → Nat → GQ} {p q : Nat} {S : List Nat}
theorem gS_ind {f : Nat → GQ} {q : Nat} : ∀ {S : List Nat}, S.Nodup → q ∈ S → (∀ b ∈ S, b ≠ q → f b = GQ.ofInt 0) → gS S f = f q
  | a :: l, nd, hq, h => by
    unfold gS
    obtain ⟨h1, h2⟩ := List.nodup_cons.mp nd
    by_cases e : a = q
    · subst e
      rw [gS_zero fun b hb => h b (List.mem_cons_of_mem _ hb) fun z => h1 (z ▸ hb), gadd_zero]
    · have hq' : q ∈ l := (List.mem_cons.mp hq).resolve_left fun z => e z.symm
      rw [h a (List.mem_cons_self ..) e, gzero_add, gS_ind h2 hq' fun b hb => h b (List.mem_cons_of_mem _ hb)]
theorem psd_off (nd : S.Nodup) (hh : ∀ a ∈ S, (m p a).conj = m a p) (hp : p ∉ S) (h0 : m p p = GQ.ofInt 0) (hq : q ∈ S) (hz : m p q ≠ GQ.ofInt 0) : ¬ Psd m (p :: S) := fun k => by
  let u : Nat → GQ := fun b => if b = q then GQ.ofInt 1 else GQ.ofInt 0
  have uq : u q = GQ.ofInt 1 := if_pos rfl
  have un : ∀ b, b ≠ q → u b = GQ.ofInt 0 := fun b h => if_neg h
  have s1 : gS S (fun b => m p b * u b) = m p q := by rw [gS_ind nd hq fun b _ e => by rw [un b e, gmul_zero], uq, gmul_one]
  have s2 : qF m S u = m q q := by
    unfold qF
    rw [gS_ind nd hq fun b _ e => by rw [un b e, conj_int, gzero_mul], uq, conj_int, gone_mul, gS_ind nd hq fun b _ e => by rw [un b e, gmul_zero], uq, gmul_one]
  let r := (m q q).re
  have hs := GQ.sz_pos hz
  let c : GQ := ⟨-(r * r + 1) / (m p q).sz * (m p q).re, -(r * r + 1) / (m p q).sz * (m p q).im⟩
  have k1 := k (upX u p c)
  have z1 : gS S (fun b => m p b * upX u p c b) = m p q := by rw [← s1]; exact gS_congr fun b hb => by rw [upX_S hp b hb]
  have z2 : upX u p c p = c := if_pos rfl
  rw [qF_cons hh, qF_upX hp, z1, z2, s2, h0, gzero_mul, gmul_zero, gzero_add] at k1
  have e : (c.conj * m p q + (m p q).conj * c + m q q).re = -2 * (r * r + 1) + r := by
    have hne : (m p q).sz ≠ 0 := by grind
    have kk := Rat.mul_inv_cancel _ hne
    simp only [GQ.add_re, GQ.mul_re, GQ.conj_re, GQ.conj_im, c, r, Rat.div_def]
    have e3 := GQ.sz_eq (m p q)
    grind
  rw [e] at k1
  have := sq_nonneg r
  have := sq_nonneg (r - 1)
  grind
end NL

/-! text M13 -/
set_option Elab.async false
set_option linter.all false
set_option maxRecDepth 100000
set_option maxHeartbeats 1000000
/-! Plain law: the law's way through a table tells psd. -/
namespace NL
theorem takeS_get {n : Nat} {m : Mat} {p a b : Nat} {S : List Nat} (sq : Sq n m) (hp : p < n) (ha : a < n) (hb : b < n) (hS : a ∈ S) : mGet (takeS m p S) a b = stepM (mGet m) p a b := by
  have la := sq_row sq ha
  have lp := sq_row sq hp
  show ((takeS m p S).getD a []).getD b _ = _
  rw [takeS_at (by rw [sq.rows]; exact ha), if_pos hS]
  unfold takeRow lessRow
  rw [List.getD_eq_getElem?_getD, List.getElem?_zipWith, List.getElem?_eq_getElem (by omega), List.getElem?_eq_getElem (by omega)]
  unfold stepM
  show _ = (m.getD a []).getD b _ - _ * (m.getD p []).getD b _
  rw [List.getD_eq_getElem?_getD (l := m.getD a []) (i := b), List.getElem?_eq_getElem (by omega), List.getD_eq_getElem?_getD (l := m.getD p []) (i := b), List.getElem?_eq_getElem (by omega)]
  rfl
theorem takeS_sq {n : Nat} {m : Mat} {p : Nat} {S : List Nat} (sq : Sq n m) (hp : p < n) : Sq n (takeS m p S) := by
  refine ⟨by rw [takeS_len]; exact sq.rows, fun r hr => ?_⟩
  obtain ⟨i, hi, rfl⟩ := List.mem_map.mp hr
  have hi' : i < n := by rw [← sq.rows]; exact List.mem_range.mp hi
  by_cases e : i ∈ S
  · rw [if_pos e]
    unfold takeRow lessRow
    rw [List.length_zipWith, sq_row sq hi', sq_row sq hp]; omega
  · rw [if_neg e]; exact sq_row sq hi'
theorem herm_step {m : Nat → Nat → GQ} {p : Nat} {S : List Nat} (hS : HermOn m S) (hh : ∀ a ∈ S, (m p a).conj = m a p) (hr : (m p p).conj = m p p) : HermOn (stepM m p) S := fun a ha b hb => by
  unfold stepM
  have h2 : (m a p).conj = m p a := by rw [← hh a ha, conj_conj]
  rw [conj_sub, conj_mul, gdiv_eq, conj_mul, conj_inv, hr, h2, hh b hb, hS a ha b hb, gdiv_eq (m b p)]
  exact GQ.ext' (by grind) (by grind)
theorem lrF_psd {n : Nat} : ∀ (f p : Nat) (m : Mat), p + f = n → Sq n m → HermOn (mGet m) (List.range' p f) → (lrF f p m = true ↔ Psd (mGet m) (List.range' p f))
  | 0, p, m, _, _, _ => ⟨fun _ x => by show 0 ≤ (GQ.ofInt 0).re; decide, fun _ => rfl⟩
  | f + 1, p, m, hf, sq, hm => by
    have e : List.range' p (f + 1) = p :: List.range' (p + 1) f := rfl
    rw [e] at hm ⊢
    have hp : p ∉ List.range' (p + 1) f := fun h => by have := List.mem_range'_1.mp h; omega
    have hh : ∀ a ∈ List.range' (p + 1) f, (mGet m p a).conj = mGet m a p := fun a ha => hm p (List.mem_cons_self ..) a (List.mem_cons_of_mem _ ha)
    have hr : (mGet m p p).conj = mGet m p p := hm p (List.mem_cons_self ..) p (List.mem_cons_self ..)
    have hS : HermOn (mGet m) (List.range' (p + 1) f) := fun a ha b hb => hm a (List.mem_cons_of_mem _ ha) b (List.mem_cons_of_mem _ hb)
    have hi := real_of hr
    unfold lrF
    by_cases c1 : (mGet m p p).re < 0
    · rw [if_pos c1]
      exact ⟨(fun z => nomatch z), fun k => absurd k (psd_neg c1 hr hh hp)⟩
    rw [if_neg c1]
    by_cases c2 : (mGet m p p).re = 0
    · rw [if_pos c2]
      have h0 : mGet m p p = GQ.ofInt 0 := GQ.ext' (by rw [c2]; rfl) (by rw [hi]; rfl)
      by_cases c3 : rowBad m p = true
      · rw [if_pos c3]
        refine ⟨(fun z => nomatch z), fun k => ?_⟩
        obtain ⟨t, ht, h2⟩ := List.any_eq_true.mp c3
        have h3 : mGet m p t ≠ GQ.ofInt 0 := by simpa using h2
        have ht' := List.mem_range'_1.mp ht
        rw [sq.rows] at ht'
        have : t ≠ p := fun z => h3 (z ▸ h0)
        exact absurd k (psd_off List.nodup_range' hh hp h0 (List.mem_range'_1.mpr (by omega)) h3)
      · rw [if_neg c3, lrF_psd f (p + 1) m (by omega) sq hS]
        refine (psd_nought hh hp h0 fun b hb => ?_).symm
        have hb' := List.mem_range'_1.mp hb
        refine Classical.byContradiction fun z => c3 (List.any_eq_true.mpr ⟨b, List.mem_range'_1.mpr (by rw [sq.rows]; omega), by simpa using z⟩)
    · rw [if_neg c2]
      have hd : 0 < (mGet m p p).re := by grind
      have eb : behind m.length p = List.range' (p + 1) f := by unfold behind; rw [sq.rows, show n - (p + 1) = f by omega]
      rw [eb]
      have hg : ∀ a ∈ List.range' (p + 1) f, ∀ b ∈ List.range' (p + 1) f, mGet (takeS m p (List.range' (p + 1) f)) a b = stepM (mGet m) p a b := fun a ha b hb => by
        have ha' := List.mem_range'_1.mp ha
        have hb' := List.mem_range'_1.mp hb
        exact takeS_get sq (by omega) (by omega) (by omega) ha
      have hst := herm_step hS hh hr
      rw [lrF_psd f (p + 1) _ (by omega) (takeS_sq sq (by omega)) fun a ha b hb => by rw [hg a ha b hb, hg b hb a ha]; exact hst a ha b hb]
      rw [psd_congr hg]
      exact (psd_step hh hr hp hd).symm
end NL

/-! text M14 -/
set_option Elab.async false
set_option linter.all false
set_option maxRecDepth 100000
set_option maxHeartbeats 1000000
/-! Plain law: the program's way through a table tells psd. -/
namespace NL
theorem sgn_cases (x : Rat) : (x < 0 ∧ sgn x = -1) ∨ (x = 0 ∧ sgn x = 0) ∨ (0 < x ∧ sgn x = 1) := by
  unfold sgn
  by_cases h1 : x < 0
  · left; exact ⟨h1, by grind⟩
  · by_cases h2 : x = 0
    · right; left; exact ⟨h2, by grind⟩
    · right; right; exact ⟨by grind, by grind⟩
theorem split_perm {l : List Nat} (nd : l.Nodup) {p : Nat} (h : p ∈ l) : l.Perm (p :: l.filter (· ≠ p)) := by
  have e := nd.erase_eq_filter p
  have : l.filter (· ≠ p) = l.erase p := by
    rw [e]
    exact List.filter_congr fun x _ => by by_cases z : x = p <;> simp [z]
  rw [this]
  exact List.perm_cons_erase h
theorem herm_split {m : Mat} {l : List Nat} (hm : HermOn (mGet m) l) {p : Nat} (h : p ∈ l) : (∀ a ∈ l.filter (· ≠ p), (mGet m p a).conj = mGet m a p) ∧ (mGet m p p).conj = mGet m p p ∧ HermOn (mGet m) (l.filter (· ≠ p)) ∧ p ∉ l.filter (· ≠ p) :=
  ⟨fun a ha => hm p h a (List.mem_filter.mp ha).1, hm p h p h, fun a ha b hb => hm a (List.mem_filter.mp ha).1 b (List.mem_filter.mp hb).1, fun k => by have := (List.mem_filter.mp k).2; simp at this⟩
theorem sqF_neg {m : Mat} {l : List Nat} (nd : l.Nodup) (hm : HermOn (mGet m) l) (h : fw m l (-1) ≠ none) : ¬ Psd (mGet m) l := fun k => by
  obtain ⟨p, hp⟩ := Option.ne_none_iff_exists'.mp h
  have h1 := List.mem_of_find?_eq_some hp
  have h2 := List.find?_some hp
  obtain ⟨a, b, c, d⟩ := herm_split hm h1
  have h3 : (mGet m p p).re < 0 := by
    have := of_decide_eq_true h2
    rcases sgn_cases (mGet m p p).re with z | z | z
    · exact z.1
    · rw [z.2] at this; exact absurd this (by decide)
    · rw [z.2] at this; exact absurd this (by decide)
  exact psd_neg h3 b a d ((psd_perm (split_perm nd h1)).mp k)
theorem sqF_flat {m : Mat} {l : List Nat} (nd : l.Nodup) (hm : HermOn (mGet m) l) (h : fw m l (-1) = none) (h' : fw m l 1 = none) : (!besideB m l) = true ↔ Psd (mGet m) l := by
  have hz : ∀ a ∈ l, mGet m a a = GQ.ofInt 0 := fun a ha => by
    have h1 := List.find?_eq_none.mp h a ha
    have h2 := List.find?_eq_none.mp h' a ha
    have hi := real_of (hm a ha a ha)
    refine GQ.ext' ?_ (by rw [hi]; rfl)
    rcases sgn_cases (mGet m a a).re with z | z | z
    · exact absurd (decide_eq_true z.2) h1
    · rw [z.1]; rfl
    · exact absurd (decide_eq_true z.2) h2
  have e : besideB m l = true ↔ ∃ a ∈ l, ∃ b ∈ l, mGet m a b ≠ GQ.ofInt 0 := by
    unfold besideB
    rw [List.any_eq_true]
    constructor
    · rintro ⟨a, ha, h2⟩
      obtain ⟨b, hb, h3⟩ := List.any_eq_true.mp h2
      exact ⟨a, ha, b, hb, by simpa using ((Bool.and_eq_true _ _).mp h3).2⟩
    · rintro ⟨a, ha, b, hb, h3⟩
      refine ⟨a, ha, List.any_eq_true.mpr ⟨b, hb, ?_⟩⟩
      rw [Bool.and_eq_true]
      refine ⟨decide_eq_true ?_, by simpa using h3⟩
      rw [hz a ha]; decide
  constructor
  · intro hb x
    have hb' : besideB m l = false := by simpa using hb
    have : qF (mGet m) l x = GQ.ofInt 0 := gS_zero fun a ha => by
      rw [gS_zero fun b hb2 => ?_, gmul_zero]
      have : mGet m a b = GQ.ofInt 0 := Classical.byContradiction fun z => by rw [e.mpr ⟨a, ha, b, hb2, z⟩] at hb'; exact absurd hb' (by decide)
      rw [this, gzero_mul]
    rw [this]; decide
  · intro k
    cases hb : besideB m l with
    | false => rfl
    | true =>
      obtain ⟨a, ha, b, hb2, h3⟩ := e.mp hb
      obtain ⟨h1, h2, h4, h5⟩ := herm_split hm ha
      have hba : b ≠ a := fun z => h3 (z ▸ hz a ha)
      exact absurd ((psd_perm (split_perm nd ha)).mp k) (psd_off (nd.filter _) h1 h5 (hz a ha) (List.mem_filter.mpr ⟨hb2, by simpa using hba⟩) h3)
theorem sqF_psd {n : Nat} : ∀ (f : Nat) (m : Mat) (l : List Nat), l.length ≤ f → Sq n m → l.Nodup → (∀ p ∈ l, p < n) → HermOn (mGet m) l → (sqF f m l = true ↔ Psd (mGet m) l)
  | f, m, l, hf, sq, nd, hl, hm => by
    by_cases h : fw m l (-1) = none
    · cases h' : fw m l 1 with
      | none =>
        rw [← sqF_flat nd hm h h']
        cases f with
        | zero => unfold sqF; rw [h]; simp
        | succ f => unfold sqF; rw [h, h']; simp
      | some p =>
        have hp := List.mem_of_find?_eq_some h'
        have h2 : sgn (mGet m p p).re = 1 := of_decide_eq_true (List.find?_some (p := fun p => decide (sgn (mGet m p p).re = 1)) h')
        obtain ⟨h1, hr, hS, hn⟩ := herm_split hm hp
        have hd : 0 < (mGet m p p).re := by
          rcases sgn_cases (mGet m p p).re with z | z | z
          · rw [z.2] at h2; exact absurd h2 (by decide)
          · rw [z.2] at h2; exact absurd h2 (by decide)
          · exact z.1
        have hpm := split_perm nd hp
        have hlen := hpm.length_eq
        rw [List.length_cons] at hlen
        match f, hf with
        | 0, hf => omega
        | f + 1, hf =>
          have hg : ∀ a ∈ l.filter (· ≠ p), ∀ b ∈ l.filter (· ≠ p), mGet (takeS m p (l.filter (· ≠ p))) a b = stepM (mGet m) p a b := fun a ha b hb => takeS_get sq (hl p hp) (hl a (List.mem_filter.mp ha).1) (hl b (List.mem_filter.mp hb).1) ha
          have hst := herm_step hS h1 hr
          rw [sqF_go h' h, sqF_psd f _ _ (by omega) (takeS_sq sq (hl p hp)) (nd.filter _) (fun a ha => hl a (List.mem_filter.mp ha).1) fun a ha b hb => by rw [hg a ha b hb, hg b hb a ha]; exact hst a ha b hb]
          rw [psd_congr hg, psd_perm hpm]
          exact (psd_step h1 hr hn hd).symm
    · refine ⟨fun z => ?_, fun k => absurd k (sqF_neg nd hm h)⟩
      have : decide (fw m l (-1) = none) = false := decide_eq_false h
      cases f with
      | zero => unfold sqF at z; rw [this] at z; exact absurd z (by simp)
      | succ f => unfold sqF at z; rw [this] at z; exact absurd z (by simp)
end NL

/-! text M15 -/
set_option Elab.async false
set_option linter.all false
set_option maxRecDepth 100000
set_option maxHeartbeats 1000000
/-! Plain law: fewer places; the law's lots are psd. -/
namespace NL
theorem gS_subl {f : Nat → GQ} {T S : List Nat} (h : T.Sublist S) : S.Nodup → (∀ a ∈ S, a ∉ T → f a = GQ.ofInt 0) → gS S f = gS T f := by
  induction h with
  | slnil => intro _ _; rfl
  | @cons T S a h ih =>
    intro nd hz
    obtain ⟨h1, h2⟩ := List.nodup_cons.mp nd
    show f a + gS S f = gS T f
    rw [hz a (List.mem_cons_self ..) (fun k => h1 (h.subset k)), gzero_add, ih h2 fun b hb k => hz b (List.mem_cons_of_mem _ hb) k]
  | @cons_cons T S a h ih =>
    intro nd hz
    obtain ⟨h1, h2⟩ := List.nodup_cons.mp nd
    show f a + gS S f = f a + gS T f
    rw [ih h2 fun b hb k => hz b (List.mem_cons_of_mem _ hb) fun z => by
      rcases List.mem_cons.mp z with rfl | z
      · exact h1 hb
      · exact k z]
theorem psd_sub {m : Nat → Nat → GQ} {T S : List Nat} (h : T.Sublist S) (nd : S.Nodup) (k : Psd m S) : Psd m T := fun x => by
  have := k (fun a => if a ∈ T then x a else GQ.ofInt 0)
  have e : qF m S (fun a => if a ∈ T then x a else GQ.ofInt 0) = qF m T x := by
    unfold qF
    have e1 : ∀ a, gS S (fun b => m a b * (if b ∈ T then x b else GQ.ofInt 0)) = gS T (fun b => m a b * x b) := fun a => by
      rw [gS_subl h nd (fun b _ hb => by show m a b * (if b ∈ T then _ else _) = _; rw [if_neg hb, gmul_zero])]
      exact gS_congr fun b hb => by show m a b * (if b ∈ T then x b else _) = _; rw [if_pos hb]
    rw [gS_subl h nd (fun a _ ha => by show GQ.conj (if a ∈ T then x a else _) * _ = _; rw [if_neg ha, conj_int, gzero_mul])]
    exact gS_congr fun a ha => by
      show GQ.conj (if a ∈ T then x a else _) * gS S (fun b => m a b * (if b ∈ T then x b else GQ.ofInt 0)) = _
      rw [e1, if_pos ha]
  rw [e] at this; exact this
theorem gS_map (r : Nat → Nat) (f : Nat → GQ) : ∀ l : List Nat, gS (l.map r) f = gS l fun i => f (r i)
  | [] => rfl
  | a :: l => by
    show f (r a) + gS (l.map r) f = f (r a) + gS l _
    rw [gS_map r f l]
theorem map_getD (rows : List Nat) : (List.range rows.length).map (fun i => rows.getD i 0) = rows := by
  apply List.ext_getElem?
  intro i
  rw [List.getElem?_map]
  by_cases h : i < rows.length
  · rw [List.getElem?_range h, List.getElem?_eq_getElem h]
    show some (rows.getD i 0) = _
    rw [List.getD_eq_getElem?_getD, List.getElem?_eq_getElem h]; rfl
  · rw [List.getElem?_eq_none (by simpa using h), List.getElem?_eq_none (by omega)]; rfl
theorem subMat_at {m : Mat} {rows : List Nat} {i j : Nat} (hi : i < rows.length) (hj : j < rows.length) : mGet (subMat m rows) i j = mGet m (rows.getD i 0) (rows.getD j 0) := by
  show ((rows.map _).getD i []).getD j _ = _
  rw [getD_map' _ _ 0 _ hi, getD_map' _ _ 0 _ hj]
theorem qF_rows {m : Mat} {rows : List Nat} (x : Nat → GQ) : qF (mGet (subMat m rows)) (List.range rows.length) (fun i => x (rows.getD i 0)) = qF (mGet m) rows x := by
  have e : ∀ f : Nat → GQ, gS rows f = gS (List.range rows.length) fun i => f (rows.getD i 0) := fun f => by
    conv => lhs; rw [← map_getD rows]
    exact gS_map _ _ _
  unfold qF
  rw [e]
  refine gS_congr fun i hi => ?_
  rw [e]
  congr 1
  exact gS_congr fun j hj => by rw [subMat_at (List.mem_range.mp hi) (List.mem_range.mp hj)]
theorem psd_rows {m : Mat} {rows : List Nat} (nd : rows.Nodup) : Psd (mGet (subMat m rows)) (List.range rows.length) ↔ Psd (mGet m) rows := by
  constructor
  · intro k x
    rw [← qF_rows]
    exact k _
  · intro k y
    have := k (fun a => y (rows.idxOf a))
    rw [← qF_rows] at this
    have e : qF (mGet (subMat m rows)) (List.range rows.length) (fun i => y (rows.idxOf (rows.getD i 0))) = qF (mGet (subMat m rows)) (List.range rows.length) y := by
      have ex : ∀ i ∈ List.range rows.length, y (rows.idxOf (rows.getD i 0)) = y i := fun i hi => by
        have h := List.mem_range.mp hi
        rw [List.getD_eq_getElem?_getD, List.getElem?_eq_getElem h]
        show y (rows.idxOf rows[i]) = y i
        rw [nd.idxOf_getElem i h]
      unfold qF
      refine gS_congr fun i hi => ?_
      show GQ.conj (y (rows.idxOf (rows.getD i 0))) * _ = _
      rw [ex i hi]
      congr 1
      exact gS_congr fun j hj => by
        show _ * y (rows.idxOf (rows.getD j 0)) = _
        rw [ex j hj]
    rw [e] at this
    exact this
theorem selR_nodup (sp lot : List Nat) : (selR sp lot).Nodup := List.nodup_range.filter _
theorem selR_sub {sp a b : List Nat} (h : ∀ p ∈ a, p ∈ b) : (selR sp a).Sublist (selR sp b) := by
  have e : selR sp a = (selR sp b).filter fun x => decide (sp.getD x 0 ∈ a) := by
    unfold selR
    rw [List.filter_filter]
    refine List.filter_congr fun x _ => ?_
    by_cases z : sp.getD x 0 ∈ a
    · rw [decide_eq_true z, decide_eq_true (h _ z)]; rfl
    · rw [decide_eq_false z]; rfl
  rw [e]
  exact List.filter_sublist
theorem spP_len (ts : List Told) : (spP ts).length = (spots ts).length := by unfold spP; rw [List.length_map]
theorem sub_herm {n : Nat} {m : Mat} {rows : List Nat} (hm : Herm n m) (hr : ∀ a ∈ rows, a < n) : HermOn (mGet (subMat m rows)) (List.range rows.length) := fun i hi j hj => by
  have hi := List.mem_range.mp hi
  have hj := List.mem_range.mp hj
  have g : ∀ i, i < rows.length → rows.getD i 0 < n := fun i h => by
    rw [List.getD_eq_getElem?_getD, List.getElem?_eq_getElem h]
    exact hr _ (List.getElem_mem h)
  rw [subMat_at hi hj, subMat_at hj hi]
  exact hm _ _ (g i hi) (g j hj)
theorem lrF_sub {n : Nat} {m : Mat} {rows : List Nat} (sq : Sq n m) (bm : MBd 900 m) (hm : Herm n m) (hr : ∀ a ∈ rows, a < n) : lrF rows.length 0 (subMat m rows) = true ↔ Psd (mGet (subMat m rows)) (List.range rows.length) := by
  have e := List.range_eq_range' (n := rows.length)
  rw [e]
  exact lrF_psd rows.length 0 _ (by omega) (subMat_ok sq bm hr).1 (e ▸ sub_herm hm hr)
theorem llotF_psd {ts : List Told} (ok : TsOk ts) (lot : List Nat) : llotF ts lot = true ↔ Psd (mGet (ltabM ts)) (selR (spP ts) lot) := by
  obtain ⟨sq, bm⟩ := ltabM_ok ok
  unfold llotF
  rw [lrF_sub sq bm (ltab_herm ok) fun a ha => by have := selR_lt a ha; rwa [spP_len] at this]
  exact psd_rows (selR_nodup _ _)
theorem llotF_mono {ts : List Told} (ok : TsOk ts) {a b : List Nat} (h : ∀ p ∈ a, p ∈ b) (k : llotF ts b = true) : llotF ts a = true :=
  (llotF_psd ok a).mpr (psd_sub (selR_sub h) (selR_nodup _ _) ((llotF_psd ok b).mp k))
end NL

/-! text M16 -/
set_option Elab.async false
set_option linter.all false
set_option maxRecDepth 100000
set_option maxHeartbeats 1000000
/-! Plain law: the program's lots are the law's. -/
namespace NL
def spF (ts : List Told) (p : Nat) : List (Nat × Nat) := (List.range (tAt ts p).2.length).map fun k => (p, k)
theorem range_lot {n : Nat} {lot : List Nat} (h : LotOk n lot) : (List.range n).filter (fun p => decide (p ∈ lot)) = lot := by
  have s := h.sub
  have nd : lot.Nodup := h.inc.imp fun {a b} z => Nat.ne_of_lt z
  have key : ∀ {l r : List Nat}, l.Sublist r → r.Nodup → r.filter (fun p => decide (p ∈ l)) = l := fun {l r} s => by
    induction s with
    | slnil => intro _; rfl
    | @cons l r a s ih =>
      intro nd
      obtain ⟨h1, h2⟩ := List.nodup_cons.mp nd
      rw [List.filter_cons_of_neg (by simpa using fun z => h1 (s.subset z)), ih h2]
    | @cons_cons l r a s ih =>
      intro nd
      obtain ⟨h1, h2⟩ := List.nodup_cons.mp nd
      rw [List.filter_cons_of_pos (by simp)]
      congr 1
      conv => rhs; rw [← ih h2]
      refine List.filter_congr fun x hx => ?_
      have : x ≠ a := fun z => h1 (z ▸ hx)
      simp [this]
  exact key s List.nodup_range
theorem flat_filter {α : Type} (f : Nat → List α) (q : α → Bool) (p : Nat → Bool) (h : ∀ a, ∀ x ∈ f a, q x = p a) : ∀ l : List Nat, (l.flatMap f).filter q = (l.filter p).flatMap f
  | [] => rfl
  | a :: l => by
    rw [List.flatMap_cons, List.filter_append, flat_filter f q p h l]
    cases e : p a with
    | true =>
      rw [List.filter_cons_of_pos (by rw [e]), List.flatMap_cons]
      congr 1
      exact List.filter_eq_self.mpr fun x hx => by rw [h a x hx, e]
    | false =>
      rw [List.filter_cons_of_neg (by rw [e]; decide)]
      rw [List.filter_eq_nil_iff.mpr fun x hx => by rw [h a x hx, e]; decide]; rfl
theorem subT_at {ts : List Told} {lot : List Nat} {q : Nat} (h : q < lot.length) : tAt (subT ts lot) q = tAt ts (lot.getD q 0) := by
  show ((lot.map (tAt ts)).getD q _) = _
  rw [getD_map' _ _ 0 _ h]
theorem spots_sub {ts : List Told} {lot : List Nat} (hl : LotOk ts.length lot) : (spots ts).filter (fun s => decide (s.1 ∈ lot)) = (spots (subT ts lot)).map fun s => (lot.getD s.1 0, s.2) := by
  have e1 : (spots ts).filter (fun s => decide (s.1 ∈ lot)) = lot.flatMap (spF ts) := by
    show ((List.range ts.length).flatMap (spF ts)).filter _ = _
    rw [flat_filter (spF ts) _ (fun p => decide (p ∈ lot)) fun a x hx => ?_, range_lot hl]
    obtain ⟨k, _, rfl⟩ := List.mem_map.mp hx
    rfl
  have e2 : (spots (subT ts lot)).map (fun s => (lot.getD s.1 0, s.2)) = (List.range lot.length).flatMap fun q => spF ts (lot.getD q 0) := by
    unfold spots
    rw [List.map_flatMap, show (subT ts lot).length = lot.length from List.length_map ..]
    have : ∀ l : List Nat, (∀ q ∈ l, q < lot.length) → l.flatMap (fun q => ((List.range (tAt (subT ts lot) q).2.length).map fun k => (q, k)).map fun s => (lot.getD s.1 0, s.2)) = l.flatMap fun q => spF ts (lot.getD q 0) := fun l => by
      induction l with
      | nil => intro _; rfl
      | cons q l ih =>
        intro h
        rw [List.flatMap_cons, List.flatMap_cons, ih fun x hx => h x (List.mem_cons_of_mem _ hx)]
        congr 1
        rw [List.map_map, subT_at (h q (List.mem_cons_self ..))]; rfl
    exact this _ fun q hq => List.mem_range.mp hq
  rw [e1, e2]
  conv => lhs; rw [← map_getD lot]
  rw [List.flatMap_map]
theorem sel_spots (ts : List Told) (lot : List Nat) : (selR (spP ts) lot).map (spAt ts) = (spots ts).filter fun s => decide (s.1 ∈ lot) := by
  have e0 : (List.range (spots ts).length).map (spAt ts) = spots ts := by
    apply List.ext_getElem?
    intro i
    rw [List.getElem?_map]
    by_cases h : i < (spots ts).length
    · rw [List.getElem?_range h, spAt_get h]; rfl
    · rw [List.getElem?_eq_none (by simpa using h), List.getElem?_eq_none (by omega)]; rfl
  conv => rhs; rw [← e0]
  rw [List.filter_map]
  unfold selR
  rw [spP_len]
  congr 1
  refine List.filter_congr fun a ha => ?_
  have h := List.mem_range.mp ha
  show decide ((spP ts).getD a 0 ∈ lot) = decide ((spAt ts a).1 ∈ lot)
  have : (spP ts).getD a 0 = (spAt ts a).1 := by
    unfold spP spAt
    rw [getD_map' _ _ (0, 0) _ h]
  rw [this]
theorem sub_tab {ts : List Told} {lot : List Nat} (hl : LotOk ts.length lot) : subMat (ltabM ts) (selR (spP ts) lot) = ltabM (subT ts lot) := by
  have hr : ∀ a ∈ selR (spP ts) lot, a < (spots ts).length := fun a ha => by have := selR_lt a ha; rwa [spP_len] at this
  have e1 : subMat (ltabM ts) (selR (spP ts) lot) = ((selR (spP ts) lot).map (spAt ts)).map fun s => ((selR (spP ts) lot).map (spAt ts)).map fun t => ltabV ts s t := by
    unfold subMat
    rw [List.map_map]
    refine List.map_congr_left fun a ha => ?_
    show _ = ((selR (spP ts) lot).map (spAt ts)).map fun t => ltabV ts (spAt ts a) t
    rw [List.map_map]
    exact List.map_congr_left fun b hb => ltab_at (hr a ha) (hr b hb)
  rw [e1, sel_spots, spots_sub hl]
  unfold ltabM
  rw [List.map_map]
  refine List.map_congr_left fun s hs => ?_
  show ((spots (subT ts lot)).map fun s => (lot.getD s.1 0, s.2)).map (fun t => ltabV ts (lot.getD s.1 0, s.2) t) = _
  rw [List.map_map]
  refine List.map_congr_left fun t ht => ?_
  have h1 := (mem_spots.mp hs).1
  have h2 := (mem_spots.mp ht).1
  rw [show (subT ts lot).length = lot.length from List.length_map ..] at h1 h2
  show ltabV ts (lot.getD s.1 0, s.2) (lot.getD t.1 0, t.2) = ltabV (subT ts lot) s t
  unfold ltabV
  rw [subT_at h1, subT_at h2]
theorem let_lot {ts : List Told} (ok : TsOk ts) {lot : List Nat} (hl : LotOk ts.length lot) : letP ts lot = llotF ts lot := by
  have ok' := TsOk.sub (subT_sub hl) ok
  have hr : ∀ a ∈ selR (spP ts) lot, a < (spots ts).length := fun a ha => by have := selR_lt a ha; rwa [spP_len] at this
  obtain ⟨sq, bm⟩ := ltabM_ok ok
  obtain ⟨sq', bm'⟩ := subMat_ok sq bm hr
  have et := sub_tab hl
  have h1 : sqOf (tableM (subT ts lot)) = true ↔ llotF ts lot = true := by
    rw [← tab_eq ok', ← et]
    unfold llotF sqOf
    rw [lrF_sub sq bm (ltab_herm ok) hr, sq'.rows]
    exact sqF_psd _ _ _ (by rw [List.length_range]; exact Nat.le_refl _) sq' List.nodup_range (fun p hp => List.mem_range.mp hp) (sub_herm (ltab_herm ok) hr)
  have h0 : lot.isEmpty = true → llotF ts lot = true := fun z => by
    have : lot = [] := List.isEmpty_iff.mp z
    subst this
    have : selR (spP ts) [] = [] := by unfold selR; exact List.filter_eq_nil_iff.mpr fun x _ => by simp
    unfold llotF
    rw [this]; rfl
  unfold letP
  cases e : lot.isEmpty with
  | true => rw [h0 e]; rfl
  | false =>
    rw [Bool.false_or]
    cases a : sqOf (tableM (subT ts lot)) with
    | true => exact (h1.mp a).symm
    | false =>
      cases b : llotF ts lot with
      | true => rw [h1.mpr b] at a; cases a
      | false => rfl
end NL

/-! text M17 -/
set_option Elab.async false
set_option linter.all false
set_option maxRecDepth 100000
set_option maxHeartbeats 1000000
/-! Plain law: lots. -/
namespace NL
open PySem PySem.Spec PySem.W
theorem ltN_dec (a b : List Nat) : ltN a b = decide ((a.map fun (n : Nat) => (n : Int)) < b.map fun (n : Nat) => (n : Int)) := by
  rw [← dataLt_ints]
  unfold ltN
  rw [pdN_eq, pdN_eq, dataLt_list, List.map_map, List.map_map]
  rfl
theorem ltN_total {a b : List Nat} (h1 : ltN a b = false) (h2 : ltN b a = false) : a = b := by
  rw [ltN_dec] at h1 h2
  have h1 := of_decide_eq_false h1
  have h2 := of_decide_eq_false h2
  have e := List.le_antisymm (List.not_lt.mp h2) (List.not_lt.mp h1)
  have inj : ∀ {a b : List Nat}, (a.map fun (n : Nat) => (n : Int)) = (b.map fun (n : Nat) => (n : Int)) → a = b := fun {a} => by
    induction a with
    | nil => intro b h; cases b <;> first | rfl | cases h
    | cons x a ih =>
      intro b h
      cases b with
      | nil => cases h
      | cons y b =>
        rw [List.map_cons, List.map_cons] at h
        obtain ⟨h1, h2⟩ := List.cons.inj h
        rw [ih h2, show x = y by omega]
  exact inj e
theorem sort_uniq : ∀ {l m : List (List Nat)}, l.Perm m → l.Pairwise (fun x y => ltN y x = false) → m.Pairwise (fun x y => ltN y x = false) → l = m
  | [], m, p, _, _ => (List.Perm.nil_eq p)
  | a :: l, [], p, _, _ => absurd p.length_eq (by simp)
  | a :: l, b :: m, p, h1, h2 => by
    obtain ⟨a1, a2⟩ := List.pairwise_cons.mp h1
    obtain ⟨b1, b2⟩ := List.pairwise_cons.mp h2
    have e : a = b := by
      have ha : a ∈ b :: m := p.mem_iff.mp (List.mem_cons_self ..)
      have hb : b ∈ a :: l := p.mem_iff.mpr (List.mem_cons_self ..)
      rcases List.mem_cons.mp ha with z | z
      · exact z
      rcases List.mem_cons.mp hb with y | y
      · exact y.symm
      exact ltN_total (b1 a z) (a1 b y)
    subst e
    rw [sort_uniq p.cons_inv a2 b2]
theorem nodup_flat {α β : Type} {f : α → List β} (g : β → α) (h : ∀ a, ∀ x ∈ f a, g x = a) (hn : ∀ a, (f a).Nodup) : ∀ l : List α, l.Nodup → (l.flatMap f).Nodup
  | [], _ => List.nodup_nil
  | a :: l, nd => by
    obtain ⟨h1, h2⟩ := List.nodup_cons.mp nd
    rw [List.flatMap_cons]
    refine List.nodup_append.mpr ⟨hn a, nodup_flat g h hn l h2, fun x hx y hy e => ?_⟩
    obtain ⟨b, hb, hy⟩ := List.mem_flatMap.mp hy
    have e1 := h a x hx
    have e2 := h b y hy
    rw [← e, e1] at e2
    exact h1 (e2 ▸ hb)
theorem LotOk.of_sub {n : Nat} {a b : List Nat} (h : a.Sublist b) (ok : LotOk n b) : LotOk n a := ⟨ok.inc.sublist h, fun p hp => ok.lt p (h.subset hp)⟩
theorem LotOk.nd {n : Nat} {l : List Nat} (h : LotOk n l) : l.Nodup := h.inc.imp fun {a b} z => Nat.ne_of_lt z
theorem lot_sub {n : Nat} {a b : List Nat} (ha : LotOk n a) (hb : LotOk n b) (h : ∀ p ∈ a, p ∈ b) : a.Sublist b := by
  have e : a = b.filter fun p => decide (p ∈ a) := by
    conv => lhs; rw [← range_lot ha]
    conv => rhs; rw [← range_lot hb]
    rw [List.filter_filter]
    refine List.filter_congr fun x _ => ?_
    by_cases z : x ∈ a
    · rw [decide_eq_true z, decide_eq_true (h _ z)]; rfl
    · rw [decide_eq_false z]; rfl
  rw [e]
  exact List.filter_sublist
theorem lot_eq {n : Nat} {a b : List Nat} (ha : LotOk n a) (hb : LotOk n b) (h : ∀ p, p ∈ a ↔ p ∈ b) : a = b :=
  (lot_sub ha hb fun p hp => (h p).mp hp).eq_of_length_le (lot_sub hb ha fun p hp => (h p).mpr hp).length_le
theorem lot_split {l : List Nat} (h : l ≠ []) : ∃ i p, l = i ++ [p] := ⟨l.dropLast, l.getLast h, (List.dropLast_concat_getLast h).symm⟩
theorem llot_nil (ts : List Told) : llotF ts [] = true := by
  have : selR (spP ts) [] = [] := by unfold selR; exact List.filter_eq_nil_iff.mpr fun x _ => by simp
  unfold llotF
  rw [this]; rfl
theorem lev_mem {ts : List Told} (ok : TsOk ts) : ∀ (k : Nat) (l : List Nat), l ∈ lev ts k ↔ LotOk ts.length l ∧ l.length = k ∧ llotF ts l = true
  | 0, l => by
    constructor
    · intro h
      obtain ⟨a, b⟩ := lev_ok ts 0 l h
      have : l = [] := List.length_eq_zero_iff.mp b
      exact ⟨a, b, this ▸ llot_nil ts⟩
    · rintro ⟨_, b, _⟩
      exact List.mem_singleton.mpr (List.length_eq_zero_iff.mp b)
  | k + 1, l => by
    constructor
    · intro h
      obtain ⟨a, b⟩ := lev_ok ts _ l h
      exact ⟨a, b, (let_lot ok a) ▸ (List.mem_filter.mp h).2⟩
    · rintro ⟨a, b, c⟩
      obtain ⟨i, p, rfl⟩ := lot_split (l := l) (fun z => by rw [z] at b; cases b)
      have hsub : i.Sublist (i ++ [p]) := List.sublist_append_left _ _
      have oi := LotOk.of_sub hsub a
      have li : i.length = k := by simp at b; exact b
      have hi := (lev_mem ok k i).mpr ⟨oi, li, llotF_mono ok (fun q hq => hsub.subset hq) c⟩
      refine List.mem_filter.mpr ⟨List.mem_flatMap.mpr ⟨i, hi, List.mem_filter.mpr ⟨List.mem_map.mpr ⟨p, List.mem_range'_1.mpr ?_, rfl⟩, List.all_eq_true.mpr fun j hj => decide_eq_true ?_⟩⟩, (let_lot ok a).symm ▸ c⟩
      · have hp : p < ts.length := a.lt p (List.mem_append_right _ (List.mem_singleton.mpr rfl))
        have hs : startP i ≤ p := by
          unfold startP
          split
          · rename_i q e
            exact (List.pairwise_append.mp a.inc).2.2 q (List.mem_of_getLast? e) p (List.mem_singleton.mpr rfl)
          · exact Nat.zero_le _
        omega
      · have hj := List.mem_range.mp hj
        have se := List.eraseIdx_sublist (i ++ [p]) j
        refine (lev_mem ok k _).mpr ⟨LotOk.of_sub se a, ?_, llotF_mono ok (fun q hq => se.subset hq) c⟩
        rw [List.length_eraseIdx_of_lt hj, b]; rfl
theorem lev_nodup (ts : List Told) : ∀ k, (lev ts k).Nodup
  | 0 => by show [[]].Nodup; simp
  | k + 1 => by
    show ((longerP (lev ts k) ts.length).filter (letP ts)).Nodup
    have h1 : (longerP (lev ts k) ts.length).Nodup := by
      refine nodup_flat List.dropLast (fun a x hx => ?_) (fun a => ?_) _ (lev_nodup ts k)
      · obtain ⟨p, _, rfl⟩ := List.mem_map.mp (List.mem_filter.mp hx).1
        exact List.dropLast_concat
      · have h2 : (List.range' (startP a) (ts.length - startP a)).Nodup := List.nodup_range'
        have h3 : ((List.range' (startP a) (ts.length - startP a)).map fun p => a ++ [p]).Nodup := List.Pairwise.map _ (fun x y h e => h (by simpa using e)) h2
        exact h3.filter _
    exact h1.filter _
theorem lev_none {ts : List Told} {K : Nat} (hK : LevK ts K) : ∀ j, lev ts (K + j) = []
  | 0 => hK.at_
  | j + 1 => by
    show (longerP (lev ts (K + j)) ts.length).filter (letP ts) = []
    rw [lev_none hK j]; rfl
theorem lev_lt {ts : List Told} {K i : Nat} (hK : LevK ts K) {l : List Nat} (h : l ∈ lev ts i) : i < K := by
  rcases Nat.lt_or_ge i K with a | a
  · exact a
  · have := lev_none hK (i - K)
    rw [show K + (i - K) = i by omega] at this
    rw [this] at h; cases h
theorem allL_mem : ∀ (n : Nat) (l : List Nat), l ∈ allL n ↔ LotOk n l
  | 0, l => by
    constructor
    · intro h
      rw [List.mem_singleton.mp h]
      exact ⟨List.Pairwise.nil, fun _ z => nomatch z⟩
    · intro h
      cases l with
      | nil => exact List.mem_singleton.mpr rfl
      | cons a l => exact absurd (h.lt a (List.mem_cons_self ..)) (by omega)
  | n + 1, l => by
    show l ∈ allL n ++ (allL n).map (fun l => l ++ [n]) ↔ _
    rw [List.mem_append, List.mem_map, allL_mem n]
    constructor
    · rintro (h | ⟨l', h, rfl⟩)
      · exact ⟨h.inc, fun p hp => Nat.lt_succ_of_lt (h.lt p hp)⟩
      · have h := (allL_mem n l').mp h
        refine ⟨List.pairwise_append.mpr ⟨h.inc, List.pairwise_singleton _ _, fun a ha b hb => by rw [List.mem_singleton.mp hb]; exact h.lt a ha⟩, fun p hp => ?_⟩
        rcases List.mem_append.mp hp with z | z
        · exact Nat.lt_succ_of_lt (h.lt p z)
        · rw [List.mem_singleton.mp z]; exact Nat.lt_succ_self n
    · intro h
      by_cases hn : n ∈ l
      · right
        obtain ⟨i, p, rfl⟩ := lot_split (l := l) (fun z => by rw [z] at hn; cases hn)
        have hc := List.pairwise_append.mp h.inc
        have hp := h.lt p (List.mem_append_right _ (List.mem_singleton.mpr rfl))
        have e : p = n := by
          rcases List.mem_append.mp hn with z | z
          · have := hc.2.2 n z p (List.mem_singleton.mpr rfl)
            omega
          · exact (List.mem_singleton.mp z).symm
        subst e
        exact ⟨i, (allL_mem p i).mpr ⟨hc.1, fun q hq => hc.2.2 q hq p (List.mem_singleton.mpr rfl)⟩, rfl⟩
      · left
        exact ⟨h.inc, fun p hp => by
          have := h.lt p hp
          have : p ≠ n := fun z => hn (z ▸ hp)
          omega⟩
theorem allL_nodup : ∀ n, (allL n).Nodup
  | 0 => by show [[]].Nodup; simp
  | n + 1 => by
    show (allL n ++ (allL n).map fun l => l ++ [n]).Nodup
    refine List.nodup_append.mpr ⟨allL_nodup n, List.Pairwise.map _ (fun x y h e => h (by simpa using e)) (allL_nodup n), fun a ha b hb e => ?_⟩
    obtain ⟨l', _, rfl⟩ := List.mem_map.mp hb
    have := ((allL_mem n a).mp ha).lt n (e ▸ List.mem_append_right _ (List.mem_singleton.mpr rfl))
    omega
theorem llots_mem {ts : List Told} {l : List Nat} : l ∈ llots ts ↔ LotOk ts.length l ∧ llotF ts l = true := by
  unfold llots
  rw [List.mem_filter, allL_mem]
theorem llots_nodup (ts : List Told) : (llots ts).Nodup := (allL_nodup _).filter _
theorem lev_llots {ts : List Told} (ok : TsOk ts) {k : Nat} {l : List Nat} : l ∈ lev ts k ↔ l ∈ llots ts ∧ l.length = k := by
  rw [lev_mem ok, llots_mem]
  exact ⟨fun ⟨a, b, c⟩ => ⟨⟨a, c⟩, b⟩, fun ⟨⟨a, c⟩, b⟩ => ⟨a, b, c⟩⟩
theorem partB_iff {a b : List Nat} : partB a b = true ↔ ∀ p ∈ a, p ∈ b := by
  unfold partB
  rw [List.all_eq_true]
  exact ⟨fun h p hp => of_decide_eq_true (h p hp), fun h p hp => decide_eq_true (h p hp)⟩
/-- the law's greatest lots -/
def lgreat (ts : List Told) : List (List Nat) := (llots ts).filter fun lot => !((llots ts).any fun other => (!decide (lot = other)) && partB lot other)
theorem lgreat_mem {ts : List Told} {l : List Nat} : l ∈ lgreat ts ↔ l ∈ llots ts ∧ ∀ o ∈ llots ts, l ≠ o → ¬ ∀ p ∈ l, p ∈ o := by
  unfold lgreat
  rw [List.mem_filter]
  refine and_congr Iff.rfl ?_
  rw [Bool.not_eq_true', List.any_eq_false]
  refine forall_congr' fun o => forall_congr' fun _ => ?_
  rw [← partB_iff]
  by_cases h : l = o
  · simp [h]
  · simp [h]
theorem great_mem {ts : List Told} {K : Nat} {l : List Nat} : l ∈ great ts K ↔ ∃ i, i < K ∧ l ∈ lev ts i ∧ ∀ o ∈ lev ts (i + 1), ¬ ∀ p ∈ l, p ∈ o := by
  unfold great
  rw [List.mem_flatMap]
  constructor
  · rintro ⟨i, hi, h⟩
    obtain ⟨h1, h2⟩ := List.mem_filter.mp h
    rw [Bool.not_eq_true', List.any_eq_false] at h2
    exact ⟨i, List.mem_range.mp hi, h1, fun o ho z => h2 o ho (partB_iff.mpr z)⟩
  · rintro ⟨i, hi, h1, h2⟩
    refine ⟨i, List.mem_range.mpr hi, List.mem_filter.mpr ⟨h1, ?_⟩⟩
    rw [Bool.not_eq_true', List.any_eq_false]
    exact fun o ho z => h2 o ho (partB_iff.mp z)
theorem great_nodup (ts : List Told) (K : Nat) : (great ts K).Nodup :=
  nodup_flat List.length (fun i x hx => (lev_ok ts i x (List.mem_filter.mp hx).1).2) (fun i => (lev_nodup ts i).filter _) _ List.nodup_range
theorem great_perm {ts : List Told} (ok : TsOk ts) {K : Nat} (hK : LevK ts K) : (great ts K).Perm (lgreat ts) := by
  refine (List.perm_ext_iff_of_nodup (great_nodup ts K) ((llots_nodup ts).filter _)).mpr fun l => ?_
  show l ∈ great ts K ↔ l ∈ lgreat ts
  rw [great_mem, lgreat_mem]
  constructor
  · rintro ⟨i, hi, h1, h2⟩
    obtain ⟨a, b⟩ := (lev_llots ok).mp h1
    refine ⟨a, fun o ho hne hp => ?_⟩
    obtain ⟨oa, _⟩ := llots_mem.mp a
    obtain ⟨oo, lo⟩ := llots_mem.mp ho
    obtain ⟨q, hq, hql⟩ : ∃ q ∈ o, q ∉ l := Classical.byContradiction fun z => hne (lot_eq oa oo fun p => ⟨hp p, fun h => Classical.byContradiction fun y => z ⟨p, h, y⟩⟩)
    let l' := (List.range ts.length).filter fun p => decide (p ∈ l ∨ p = q)
    have mem' : ∀ p, p ∈ l' ↔ p ∈ l ∨ p = q := fun p => by
      show p ∈ (List.range ts.length).filter _ ↔ _
      rw [List.mem_filter, List.mem_range]
      constructor
      · rintro ⟨_, z⟩; exact of_decide_eq_true z
      · intro z
        refine ⟨?_, decide_eq_true z⟩
        rcases z with z | z
        · exact oa.lt p z
        · exact z ▸ oo.lt q hq
    have ok' : LotOk ts.length l' := ⟨List.Pairwise.filter _ List.pairwise_lt_range, fun p hp => List.mem_range.mp (List.mem_filter.mp hp).1⟩
    have len' : l'.length = i + 1 := by
      have pm : l'.Perm (q :: l) := (List.perm_ext_iff_of_nodup ok'.nd (List.nodup_cons.mpr ⟨hql, oa.nd⟩)).mpr fun p => by
        rw [mem', List.mem_cons]
        exact or_comm
      rw [pm.length_eq, List.length_cons, b]
    refine h2 l' ((lev_mem ok (i + 1) l').mpr ⟨ok', len', llotF_mono ok (fun p hp' => ?_) lo⟩) fun p hp' => (mem' p).mpr (.inl hp')
    rcases (mem' p).mp hp' with z | z
    · exact hp p z
    · exact z ▸ hq
  · rintro ⟨h1, h2⟩
    have hl := (lev_llots ok (k := l.length)).mpr ⟨h1, rfl⟩
    refine ⟨l.length, lev_lt hK hl, hl, fun o ho => ?_⟩
    obtain ⟨a, b⟩ := (lev_llots ok).mp ho
    exact h2 o a fun z => by rw [← z] at b; omega
/-! ### the fewest out -/
theorem min_uniq {A B : List (List Nat)} {l m : List Nat} (h : ∀ x, x ∈ A ↔ x ∈ B) (h1 : l ∈ A) (h2 : ∀ y ∈ A, ltN y l = false) (h3 : m ∈ B) (h4 : ∀ y ∈ B, ltN y m = false) : l = m :=
  ltN_total (h4 l ((h l).mp h1)) (h2 m ((h m).mpr h3))
theorem most_lev {ts : List Told} (ok : TsOk ts) {k m : Nat} (hK : LevK ts (k + 1)) (h1 : ∃ l ∈ llots ts, l.length = m) (h2 : ∀ l ∈ llots ts, l.length ≤ m) : m = k := by
  obtain ⟨l, hl, e⟩ := h1
  have a := lev_lt hK ((lev_llots ok (k := m)).mpr ⟨hl, e⟩)
  have hne := hK.lt k (Nat.lt_succ_self k)
  obtain ⟨l', hl'⟩ : ∃ l', l' ∈ lev ts k := by
    cases q : lev ts k with
    | nil => exact absurd q hne
    | cons x r => exact ⟨x, List.mem_cons_self ..⟩
  obtain ⟨c, d⟩ := (lev_llots ok).mp hl'
  have := h2 l' c
  omega
theorem compl_compl {n : Nat} {lot : List Nat} (h : LotOk n lot) : compl n (compl n lot) = lot := by
  conv => rhs; rw [← range_lot h]
  unfold compl
  refine List.filter_congr fun p hp => ?_
  by_cases z : p ∈ lot
  · rw [decide_eq_true z, decide_eq_false (fun h => by have := (List.mem_filter.mp h).2; simp [z] at this)]; rfl
  · rw [decide_eq_false z, decide_eq_true (List.mem_filter.mpr ⟨hp, by simp [z]⟩)]; rfl
/-! ### the whole telling -/
theorem range_ok (n : Nat) : LotOk n (List.range n) := ⟨List.pairwise_lt_range, fun p hp => List.mem_range.mp hp⟩
theorem sub_all (ts : List Told) : subT ts (List.range ts.length) = ts := tAt_range ts
theorem whole_lot {ts : List Told} (ok : TsOk ts) (hne : ts ≠ []) : llotF ts (List.range ts.length) = sqOf (tableM ts) := by
  rw [← let_lot ok (range_ok _)]
  unfold letP
  rw [sub_all]
  have : (List.range ts.length).isEmpty = false := by
    cases ts with
    | nil => exact absurd rfl hne
    | cons t r => rw [List.isEmpty_eq_false_iff]; intro z; have := congrArg List.length z; simp at this
  rw [this]; rfl
theorem whole_great {ts : List Told} (ok : TsOk ts) (hne : ts ≠ []) {g : List (List Nat)} (hg : g.Perm (lgreat ts)) : decide (g = [List.range ts.length]) = sqOf (tableM ts) := by
  rw [← whole_lot ok hne]
  cases e : llotF ts (List.range ts.length) with
  | true =>
    refine decide_eq_true ?_
    have hm : ∀ l, l ∈ lgreat ts ↔ l ∈ [List.range ts.length] := fun l => by
      rw [lgreat_mem, List.mem_singleton]
      have hr : List.range ts.length ∈ llots ts := llots_mem.mpr ⟨range_ok _, e⟩
      constructor
      · rintro ⟨h1, h2⟩
        refine Classical.byContradiction fun z => h2 _ hr z fun p hp => ?_
        exact List.mem_range.mpr ((llots_mem.mp h1).1.lt p hp)
      · rintro rfl
        refine ⟨hr, fun o ho hne hp => hne (lot_eq (range_ok _) (llots_mem.mp ho).1 fun p => ⟨hp p, fun h => List.mem_range.mpr ((llots_mem.mp ho).1.lt p h)⟩)⟩
    have p2 : (lgreat ts).Perm [List.range ts.length] := (List.perm_ext_iff_of_nodup ((llots_nodup ts).filter _) (by simp)).mpr hm
    exact List.perm_singleton.mp (hg.trans p2)
  | false =>
    refine decide_eq_false fun z => ?_
    have : List.range ts.length ∈ lgreat ts := hg.mem_iff.mp (by rw [z]; exact List.mem_singleton.mpr rfl)
    have := (llots_mem.mp (lgreat_mem.mp this).1).2
    rw [e] at this; cases this
end NL

/-! text L9 -/
set_option Elab.async false
set_option linter.all false
set_option maxRecDepth 100000
set_option maxHeartbeats 4000000
/-! The law: odd values. -/
namespace NL
open PySem PySem.Spec L2
open PyProof.Rows (envOfC)
variable {P : Program} {w : World} {K : PySem.W.Frag} {mg : Str → Option Value} {base : Heap}
theorem incB_of : ∀ {ns : List Int}, ns.Pairwise (· < ·) → incB ns = true
  | [], _ => rfl
  | [a], _ => rfl
  | a :: b :: ns, h => by
    obtain ⟨h1, h2⟩ := List.pairwise_cons.mp h
    show (decide (a < b) && incB (b :: ns)) = true
    rw [incB_of h2, decide_eq_true (h1 b (List.mem_cons_self ..))]; rfl
theorem lotB_of {v : D} {n : Nat} {lot : List Nat} (h : LotOk n lot) (hL : isLst v = true) (hi : itemsOf v = some (natL lot)) : lotB v n = true ∧ lotOf v = lot := by
  have e : ((natL lot).map toI) = lot.map fun (p : Nat) => (p : Int) := by
    unfold natL
    rw [List.map_map]; rfl
  refine ⟨?_, ?_⟩
  · unfold lotB
    rw [hL, hi]
    show ((natL lot).all (cntB n) && incB ((natL lot).map toI)) = true
    rw [e, incB_of (List.Pairwise.map _ (fun a b hab => by omega) h.inc), Bool.and_true, List.all_eq_true]
    intro d hd
    obtain ⟨p, hp, rfl⟩ := List.mem_map.mp hd
    have := h.lt p hp
    show (decide ((0 : Int) ≤ (p : Int)) && decide ((p : Int) < (n : Int))) = true
    rw [decide_eq_true (by omega), decide_eq_true (by omega)]; rfl
  · unfold lotOf
    rw [hi]
    show (natL lot).map (fun d => (toI d).toNat) = lot
    unfold natL
    rw [List.map_map]
    exact (List.map_congr_left fun n _ => by simp [toI]).trans (List.map_id' lot)
def lastD (n : Nat) : D := if 1 < n then .lst [.int ((n : Int) - 1), .int 0] else .lst [.int 1]
def oddD (n : Nat) : List D := [.non, .int 0, .str "0", .tup [.non], .lst [.int (n : Int)], .lst [.int (-1)], .lst [.bl true], .lst [.int 0, .int 0], .dict, .lst [.lst [.int 0]], .lst [.str "0"], lastD n]
def oddOk (n : Nat) (d : D) : Prop := okD d = true ∧ (∀ es, itemsOf d = some es → es.length ≤ 100 ∧ ∀ x ∈ es, okD x = true) ∧ lotB d n = false
theorem odd_l {n : Nat} {d : D} {es : List D} (hi : itemsOf d = some es) (hd : okD d = true) (h : es.length ≤ 100) (ho : es.all okD = true) (hb : lotB d n = false) : oddOk n d :=
  ⟨hd, fun fs e => by rw [hi] at e; cases e; exact ⟨h, fun x hx => List.all_eq_true.mp ho x hx⟩, hb⟩
theorem odd_n {n : Nat} {d : D} (hi : itemsOf d = none) (hd : okD d = true) (hb : lotB d n = false) : oddOk n d :=
  ⟨hd, (fun fs e => by rw [hi] at e; cases e), hb⟩
theorem odd_all {n : Nat} (hn : 1 ≤ n) : ∀ d ∈ oddD n, oddOk n d := by
  intro d hd
  unfold oddD at hd
  simp only [List.mem_cons, List.not_mem_nil, or_false] at hd
  rcases hd with rfl | rfl | rfl | rfl | rfl | rfl | rfl | rfl | rfl | rfl | rfl | rfl
  · exact odd_n rfl rfl rfl
  · exact odd_n rfl rfl rfl
  · exact odd_n rfl rfl rfl
  · exact odd_l rfl rfl (by decide) rfl rfl
  · refine odd_l rfl rfl (show 1 ≤ 100 by decide) rfl ?_
    show ((decide ((0 : Int) ≤ (n : Int)) && decide ((n : Int) < (n : Int)) && true) && incB [(n : Int)]) = false
    rw [decide_eq_false (Int.lt_irrefl _)]; simp
  · exact odd_l rfl rfl (by decide) rfl rfl
  · exact odd_l rfl rfl (by decide) rfl rfl
  · refine odd_l rfl rfl (show 2 ≤ 100 by decide) rfl ?_
    show (_ && incB [(0 : Int), 0]) = false
    rw [show incB [(0 : Int), 0] = false from rfl, Bool.and_false]
  · exact odd_n rfl rfl rfl
  · exact odd_l rfl rfl (by decide) rfl rfl
  · exact odd_l rfl rfl (by decide) rfl rfl
  · unfold lastD
    by_cases h : 1 < n
    · rw [if_pos h]
      refine odd_l rfl rfl (show 2 ≤ 100 by decide) rfl ?_
      show (_ && incB [(n : Int) - 1, 0]) = false
      have : incB [(n : Int) - 1, 0] = false := by
        show (decide ((n : Int) - 1 < 0) && true) = false
        rw [decide_eq_false (by omega)]; rfl
      rw [this, Bool.and_false]
    · rw [if_neg h]
      refine odd_l rfl rfl (show 1 ≤ 100 by decide) rfl ?_
      show ((decide ((0 : Int) ≤ 1) && decide ((1 : Int) < (n : Int)) && true) && incB [(1 : Int)]) = false
      rw [decide_eq_false (show ¬ (1 : Int) < (n : Int) by omega)]; simp
theorem last_no (n : Nat) : noOl (lastD n) = true := by unfold lastD; split <;> rfl
def R_Lodd_right : Rel := fun ds T => ∃ ts : List Told, ds = [toldsD ts, lotsD (llots ts), .int (ts.length : Int)] ∧ TelOk ts (toldsD ts) ∧ T = fun z => z = .bl true
theorem ok_Lodd_right (T : Tx P K mg) : Fk P w K mg base "_law_odd_right" 47 R_Lodd_right := by
  obtain ⟨fd, F⟩ := T.F_Lodd_right
  refine mkFk F sc_Lodd_right T.g_Lodd_right ?_ ?_ (fun _ _ _ _ _ _ us hl => match us, hl with | [_, _, _], _ => rfl)
  · rintro ds S ⟨ts, rfl, _⟩; rfl
  · rintro cdv A outer s H E hr ds S ⟨ts, rfl, hT, rfl⟩
    have hnd := sc_Lodd_right.nd
    obtain ⟨_, ok, hne, hdis⟩ := id hT
    have hn : 1 ≤ ts.length := List.length_pos_iff.mpr hne
    have hlen := ok.len
    have hl16 : (llots ts).length ≤ 16 := by
      have h1 : (llots ts).length ≤ (allL ts.length).length := List.length_filter_le _ _
      rw [allL_len] at h1
      exact Nat.le_trans h1 (Nat.le_trans (Nat.pow_le_pow_right (by decide) hlen) (by decide))
    refine xss_set 3 hnd (d := .lst (oddD ts.length)) (xv_lst (xva_cons xv_non (xva_cons xv_int (xva_cons xv_str (xva_cons (xv_tup (xva_cons xv_non xva_nil)) (xva_cons (xv_lst (xva_cons (xv_var 2) xva_nil)) (xva_cons (xv_lst (xva_cons (xv_neg xv_int) xva_nil)) (xva_cons (xv_lst (xva_cons xv_bl xva_nil)) (xva_cons (xv_lst (xva_cons xv_int (xva_cons xv_int xva_nil))) (xva_cons xv_dict0 (xva_cons (xv_lst (xva_cons (xv_lst (xva_cons xv_int xva_nil)) xva_nil)) (xva_cons (xv_lst (xva_cons xv_str xva_nil)) (xva_cons (d := lastD ts.length) ?_ xva_nil)))))))))))) ?_ (show 12 ≤ 1000 by decide)) ?_
    · refine xe_if (k := decide ((1 : Int) < (ts.length : Int))) (xt_gt (xv_var 2) xv_int) (fun hz => ?_) fun hz => ?_
      · have hz := of_decide_eq_true hz
        exact xv_to (xv_lst (xva_cons (xv_sub (xv_var 2) xv_int) (xva_cons xv_int xva_nil))) (by unfold lastD; rw [if_pos (by omega)])
      · have hz := of_decide_eq_false hz
        exact xv_to (xv_lst (xva_cons xv_int xva_nil)) (by unfold lastD; rw [if_neg (by omega)])
    · show (true && (true && (true && (true && (true && (true && (true && (true && (true && (true && (true && (noOl (lastD ts.length) && true)))))))))))) = true
      rw [last_no]; rfl
    refine xss_no (xt_to (xt_val (xv_any (bs := (oddD ts.length).map fun _ => false) rfl T.b_any (xv_of_xf (xf_imp (xf_map (own := [("_law_value_here", 4)]) (τ := tName 4) (ds := oddD ts.length) (fun _ => .bl false) rfl hnd (xi_list (xv_var 3)) (blk_ok rfl (by rfl)) (fun _ _ _ _ _ => xg_name 4 hnd) (show 12 ≤ 10000 by decide) ?_) fun z e => e.trans (by rw [List.map_map]; rfl))))) ?_) ?_
    · intro d hd
      obtain ⟨o1, o2, o3⟩ := odd_all hn d hd
      refine ⟨_, rfl, rfl, fun _ _ _ _ _ => xv_to (xv_call (ok_is_doable_lot T) hr (xva_cons (xv_var 0) (xva_cons (xv_var 4) xva_nil)) ⟨ts, _, d, rfl, hT, o1, o2, rfl⟩ (by rw [List.all_cons, List.all_cons, okD_no o1]; rfl)) (by rw [o3]; rfl)⟩
    · rw [List.any_map]; exact List.any_eq_false.mpr fun _ _ => by simp
    · refine xss_one (xs_retv (xv_to (xv_all (bs := (cutD ((llots ts).map natsD) (some (-2)) none).map fun _ => true) rfl T.b_all (xv_of_xf (xf_imp (xf_map (own := [("_law_lot", 5)]) (τ := tName 5) (ds := cutD ((llots ts).map natsD) (some (-2)) none) (fun _ => .bl true) rfl hnd (xi_list (xv_of_xf (xf_sl (xv_var 1) (xo_some (xv_neg xv_int)) xo_none rfl))) (blk_ok rfl (by rfl)) (fun _ _ _ _ _ => xg_name 5 hnd) ?_ ?_) fun z e => e.trans (by rw [List.map_map]; rfl)))) (congrArg D.bl ?_)) ⟨rfl, rfl⟩)
      · unfold cutD
        rw [List.length_take, List.length_drop, List.length_map]; omega
      · intro d hd
        have hd : d ∈ (llots ts).map natsD := List.mem_of_mem_drop (List.mem_of_mem_take hd)
        obtain ⟨lot, hlot, rfl⟩ := List.mem_map.mp hd
        obtain ⟨lok, lf⟩ := llots_mem.mp hlot
        obtain ⟨b1, b2⟩ := lotB_of (v := .tup (natL lot)) lok rfl rfl
        have l10 := lok.len
        refine ⟨_, rfl, rfl, fun _ _ _ _ _ => xv_isTrue (xe_callK2 (S := fun z => z = .bl true) (d1 := .tup (ts.map toldD)) (d2 := .tup (natL lot)) (okK_is_doable_lot T) hr (xv_tupleOf T.b_tuple (xv_var 5) rfl rfl) (xv_tupleOf T.b_tuple (xv_var 0) rfl rfl) rfl rfl ⟨ts, _, _, rfl, ⟨.inr rfl, hT.2⟩, rfl, fun es e => ?_, rfl⟩ fun z e => ?_)⟩
        · have e : natL lot = es := Option.some.inj e
          subst e
          refine ⟨by unfold natL; rw [List.length_map]; omega, fun x hx => ?_⟩
          obtain ⟨p, _, rfl⟩ := List.mem_map.mp hx
          rfl
        · rw [e, b1, b2, let_lot ok lok, lf]; rfl
      · rw [List.all_map]; exact List.all_eq_true.mpr fun _ _ => rfl
end NL

/-! text L10 -/
set_option Elab.async false
set_option linter.all false
set_option maxRecDepth 100000
set_option maxHeartbeats 4000000
/-! The law: right. -/
namespace NL
open PySem PySem.Spec L2
open PyProof.Rows (envOfC)
variable {P : Program} {w : World} {K : PySem.W.Frag} {mg : Str → Option Value} {base : Heap}
theorem cut_take' (ds : List D) (i : Nat) : cutD ds none (some (i : Int)) = ds.take i := by
  unfold cutD
  rw [HT.sIx_none, HT.sIx_nat]
  simp
theorem Drawn.sub {a b : List Told} (h : a.Sublist b) (d : Drawn b) : Drawn a := ⟨d.nd.sublist (h.map _), fun t ht => d.each t (h.subset ht)⟩
theorem Drawn.ok {ts : List Told} (d : Drawn ts) (h4 : ts.length ≤ 4) (h6 : (spots ts).length ≤ 6) : TsOk ts := ⟨h4, fun t ht => (d.each t ht).pt, fun t ht => (d.each t ht).few, fun t ht => (d.each t ht).bd, h6⟩
theorem Drawn.spots {ts : List Told} (d : Drawn ts) : (NL.spots ts).length ≤ 2 * ts.length := by
  rw [spots_len]
  have key : ∀ l : List Told, (∀ t ∈ l, t.2.length ≤ 2) → (l.map fun t => t.2.length).sum ≤ 2 * l.length := fun l => by
    induction l with
    | nil => intro _; simp
    | cons t l ih =>
      intro h
      have := ih fun x hx => h x (List.mem_cons_of_mem _ hx)
      have := h t (List.mem_cons_self ..)
      rw [List.map_cons, List.sum_cons, List.length_cons]; omega
  exact key ts fun t ht => (d.each t ht).few.2
theorem lotsD_inj {a b : List (List Nat)} (h0 : lotsD a = lotsD b) : a = b := by
  have h : a.map natsD = b.map natsD := D.lst.inj h0
  clear h0
  induction a generalizing b with
  | nil => cases b <;> first | rfl | cases h
  | cons x a ih =>
    cases b with
    | nil => cases h
    | cons y b =>
      rw [List.map_cons, List.map_cons] at h
      obtain ⟨h1, h2⟩ := List.cons.inj h
      rw [natsD_inj h1, ih h2]
theorem pdD_lots (ls : List (List Nat)) : pdD 2 (lotsD ls) = true := by
  show (ls.map natsD).all (pdD 1) = true
  rw [List.all_map]
  exact List.all_eq_true.mpr fun l _ => pdD_nats l
theorem llots_len {ts : List Told} (h : ts.length ≤ 4) : (llots ts).length ≤ 16 := by
  have h1 : (llots ts).length ≤ (allL ts.length).length := List.length_filter_le _ _
  rw [allL_len] at h1
  exact Nat.le_trans h1 (Nat.le_trans (Nat.pow_le_pow_right (by decide) h) (by decide))
section
variable {X : Cx} {ρ : Env} {pos : Pos} {a b : Expr} {k : Nat}
/-- a != b, the two known to be alike -/
theorem xt_neSame (n : Nat) {Sa : D → Prop} {y : D} (hr : Room k X.A) (ha : XE X a ρ Sa) (hb : XV X b ρ y) (h : ∀ x, Sa x → x = y) (hy : pdD n y = true) (hn : n ≤ 10 := by decide) (hm : behindInMarks .NotEq b = false := by exact nomark _) : XT X (.Compare a [.NotEq] [b] pos) ρ (fun z => z = false) :=
  xt_cmpE (op_neD (by have := room_in hr; omega)) ha hb (fun x z sx sz => by
    obtain rfl := h x sx
    subst sz
    exact fun H0 G H v u l i1 i2 Q q => ⟨pd n z, pd n z, pd_dp l n hy (i1.da (pd_no hy)), pd_dp l n hy (i2.da (pd_no hy)), pd_shaped hn _, pd_shaped hn _, q G H _ _ (Tr.refl l) (Is.of (.bl _)) ⟨_, rfl, by rw [pd_eqv n z z hy hy]; simp⟩⟩) hm
end
def R_Lright : Rel := fun ds T => ds = [.pot] ∧ T = fun z => z = .bl true
def restN (n : Nat) : List (Option D) := List.replicate n none
theorem ok_Lright (T : Tx P K mg) : Fk P w K mg base "_law_right" 48 R_Lright := by
  obtain ⟨fd, F⟩ := T.F_Lright
  refine mkFk F sc_Lright T.g_Lright ?_ ?_ (fun _ _ _ _ _ _ us hl => match us, hl with | [_], _ => rfl)
  · rintro ds S ⟨rfl, _⟩; rfl
  · rintro cdv A outer s H E hr ds S ⟨rfl, rfl⟩
    have hnd := sc_Lright.nd
    -- the telling
    refine xss_setE (S := fun z => ∃ ts : List Told, z = ltoldsD ts ∧ Drawn ts ∧ 1 ≤ ts.length ∧ ts.length ≤ 4) 1 hnd (xe_of_xf (xf_slE (Sa := fun z => ∃ ts : List Told, z = ltoldsD ts ∧ Drawn ts ∧ 1 ≤ ts.length ∧ ts.length ≤ 4) (Sl' := fun o => o = none) (Sh := fun o => ∃ k : Nat, o = some (k : Int) ∧ 3 ≤ k) (Sr := fun ds => ∃ ts : List Told, ds = ts.map ltoldD ∧ Drawn ts ∧ 1 ≤ ts.length ∧ ts.length ≤ 4)
      (xe_call (Ss := fun ds => ∃ m a : Int, ds = [.pot, .int m, .int a, .int 2] ∧ 1 ≤ m ∧ m ≤ 4 ∧ 1 ≤ a ∧ a ≤ 2) (ok_Ltelling T) (hr.mono (by decide)) (xa_cons' (xv_var 0) (xa_cons' (Sa := IR 2 5) (Sr := fun ds => ∃ a : Int, ds = [.int a, .int 2] ∧ 1 ≤ a ∧ a ≤ 2) (S := fun ds => ∃ m a : Int, ds = [.int m, .int a, .int 2] ∧ 1 ≤ m ∧ m ≤ 4 ∧ 1 ≤ a ∧ a ≤ 2) (xe_addE (Sa := fun z => z = .int 2) (Sb := IR 0 3) xv_int (xe_draw T (hr.mono (by decide)) (xv_var 0) xv_int (by decide)) ?a1) (xa_cons' (Sa := IR 1 3) (xe_addE (Sa := fun z => z = .int 1) (Sb := IR 0 2) xv_int (xe_draw T (hr.mono (by decide)) (xv_var 0) xv_int (by decide)) ?a2) (xva_cons xv_int xva_nil) ?a3) ?a4) ?a5) ?a6) xoe_none (xoe_some (Sa := IR 3 5) (xe_addE (Sa := fun z => z = .int 3) (Sb := IR 0 2) xv_int (xe_draw T (hr.mono (by decide)) (xv_var 0) xv_int (by decide)) ?a7) ?a8) ?a9) ?a10) ?_
    case a1 =>
      rintro x y rfl ⟨i, rfl, h1, h2⟩
      exact ⟨_, i, rfl, rfl, _, rfl, by omega, by omega⟩
    case a2 =>
      rintro x y rfl ⟨i, rfl, h1, h2⟩
      exact ⟨_, i, rfl, rfl, _, rfl, by omega, by omega⟩
    case a3 =>
      rintro d ds ⟨i, rfl, h1, h2⟩ rfl
      exact ⟨i, rfl, h1, by omega⟩
    case a4 =>
      rintro d ds ⟨i, rfl, h1, h2⟩ ⟨a, rfl, h3⟩
      exact ⟨i, a, rfl, by omega, by omega, h3⟩
    case a5 =>
      rintro d ds rfl ⟨m, a, rfl, h⟩
      exact ⟨m, a, rfl, h⟩
    case a6 =>
      rintro ds ⟨m, a, rfl, h1, h2, h3, h4⟩
      exact ⟨rfl, _, ⟨m, a, rfl, h1, h2, h3, h4, rfl⟩, fun d h => h⟩
    case a7 =>
      rintro x y rfl ⟨i, rfl, h1, h2⟩
      exact ⟨_, i, rfl, rfl, _, rfl, by omega, by omega⟩
    case a8 =>
      rintro x ⟨i, rfl, h1, h2⟩
      exact ⟨i, rfl, i.toNat, by rw [Int.toNat_of_nonneg (by omega)], by omega⟩
    case a9 =>
      rintro x ⟨ts, rfl, hD, h1, h4⟩
      refine ⟨ts.map ltoldD, rfl, ?_⟩
      rintro l h rfl ⟨k, rfl, hk⟩
      rw [cut_take', ← List.map_take]
      refine ⟨ts.take k, rfl, hD.sub (List.take_sublist _ _), ?_, ?_⟩ <;> rw [List.length_take] <;> omega
    case a10 =>
      rintro ds ⟨ts, rfl, h⟩
      exact ⟨ts, rfl, h⟩
    rintro d ⟨ts0, rfl, hD0, h10, h40⟩
    refine ⟨rfl, ?_⟩
    -- the while
    refine xss_cons (M := fun ρ => ∃ ts : List Told, Drawn ts ∧ 1 ≤ ts.length ∧ ts.length ≤ 4 ∧ (spots ts).length ≤ 6 ∧ ρ = some .pot :: some (ltoldsD ts) :: restN 10) (xs_while PassesOwn.never (fun m ρ => ∃ ts : List Told, m = ts.length ∧ Drawn ts ∧ 1 ≤ ts.length ∧ ts.length ≤ 4 ∧ ρ = some .pot :: some (ltoldsD ts) :: restN 10) ts0.length ⟨ts0, rfl, hD0, h10, h40, rfl⟩ ?_) ?_
    · rintro m ρ1 ⟨ts, rfl, hD, h1, h4, rfl⟩
      have few : ∀ t ∈ ts, t.2.length ≤ 10 := fun t ht => by have := (hD.each t ht).few.2; omega
      refine ⟨decide ((6 : Int) < (((spots ts).map (lrD ts)).length : Nat)), xt_gt (xv_len T.b_len (xv_call (ok_Lrows T) (hr.mono (by decide)) (xva_cons (xv_var 1) xva_nil) ⟨ts, rfl, by omega, few, rfl⟩) rfl) xv_int, fun hb => ?_, fun hb => ?_⟩
      · have hb := of_decide_eq_true hb
        rw [List.length_map] at hb
        have hsp := hD.spots
        refine xss_set 1 hnd (d := ltoldsD (ts.drop 1)) (xv_to (xv_of_xf (xf_sl (xv_var 1) (xo_some xv_int) xo_none rfl)) ?_) (xss_nil ⟨(ts.drop 1).length, by rw [List.length_drop]; omega, ts.drop 1, rfl, hD.sub (List.drop_sublist _ _), by rw [List.length_drop]; omega, by rw [List.length_drop]; omega, rfl⟩)
        rw [cut_one]
        show D.lst _ = D.lst _
        rw [List.map_drop]
      · have hb := of_decide_eq_false hb
        rw [List.length_map] at hb
        exact ⟨ts, hD, h1, h4, by omega, rfl⟩
    rintro ρ1 ⟨ts, hD, h1, h4, h6, rfl⟩
    have ok := hD.ok h4 h6
    have hne : ts ≠ [] := List.length_pos_iff.mp h1
    have hTl : TelOk ts (toldsD ts) := ⟨.inl rfl, ok, hne, hD.nd⟩
    have hTt : TelOk ts (.tup (ts.map toldD)) := ⟨.inr rfl, ok, hne, hD.nd⟩
    have hl16 := llots_len h4
    obtain ⟨K1, hK, hKp, hKn⟩ := levK_ex ts
    obtain ⟨k, rfl⟩ : ∃ k, K1 = k + 1 := ⟨K1 - 1, by omega⟩
    refine xss_asgG (xv_tup (xva_cons (xv_call (ok_Ltold T) (hr.mono (by decide)) (xva_cons (xv_var 1) xva_nil) ⟨ts, rfl, by omega, fun t ht => ⟨(hD.each t ht).pt.bd, by have := (hD.each t ht).few.2; omega, (hD.each t ht).bd⟩, rfl⟩) (xva_cons (xv_to (d' := .int (ts.length : Int)) (xv_len T.b_len (xv_var 1) rfl) (by rw [List.length_map])) xva_nil))) (L := [2, 3]) (xg_pair 2 3 rfl hnd) ⟨_, _, rfl, rfl⟩ ?_
    refine xss_set 4 hnd (d := lotsD (llots ts)) (xv_call (ok_Llots T) (hr.mono (by decide)) (xva_cons (xv_var 1) xva_nil) ⟨ts, rfl, ok, rfl⟩) ?_
    -- the greatest
    refine xss_setE (S := fun z => ∃ g : List (List Nat), z = lotsD g ∧ g.Perm (lgreat ts) ∧ g.Pairwise (fun x y => ltN y x = false)) 5 hnd (xe_of_xf (xf_sortN (ls := lgreat ts) hr T.b_sorted (xv_to (d' := lotsD (lgreat ts)) (xv_of_xf (xf_fm (own := [("_law_lot", 8)]) (τ := tName 8) (ds := (llots ts).map natsD) (fun d => !((llots ts).any fun other => (!decide (ofN d = other)) && partB (ofN d) other)) (fun d => d) rfl hnd (xi_list (xv_var 4)) (blk_ok rfl (by rfl)) (fun _ _ _ _ _ => xg_name 8 hnd) (by rw [List.length_map]; omega) ?b1)) ?b2) rfl) ?b3) ?_
    case b1 =>
      intro d hd
      obtain ⟨lot, hlot, rfl⟩ := List.mem_map.mp hd
      have lok := (llots_mem.mp hlot).1.len
      refine ⟨_, rfl, fun _ _ _ _ _ => ?_, fun _ => ⟨rfl, fun _ _ _ _ _ => xv_var 8⟩⟩
      rw [ofN_nats]
      refine xt_not (xt_to (xt_val (xv_any (bs := (llots ts).map fun other => (!decide (lot = other)) && partB lot other) rfl T.b_any (xv_of_xf (xf_imp (xf_map (own := [("_law_other", 10)]) (τ := tName 10) (ds := (llots ts).map natsD) (fun d => .bl ((!decide (lot = ofN d)) && partB lot (ofN d))) rfl hnd (xi_list (xv_var 4)) (blk_ok rfl (by rfl)) (fun _ _ _ _ _ => xg_name 10 hnd) (by rw [List.length_map]; omega) ?_) fun z e => e.trans ?_)))) (by rw [List.any_map]; rfl))
      · intro d hd
        obtain ⟨other, ho, rfl⟩ := List.mem_map.mp hd
        refine ⟨_, rfl, rfl, fun _ _ _ _ _ => ?_⟩
        rw [ofN_nats]
        exact xv_call (ok_Lis_part T) (hr.mono (by decide)) (xva_cons (xv_var 8) (xva_cons (xv_var 10) xva_nil)) ⟨lot, other, rfl, by omega, rfl⟩
      · rw [List.map_map, List.map_map]
        refine List.map_congr_left fun other _ => ?_
        show D.bl ((!decide (lot = ofN (natsD other))) && partB lot (ofN (natsD other))) = _
        rw [ofN_nats]; rfl
    case b2 =>
      show D.lst _ = D.lst _
      congr 1
      rw [List.map_id', List.filter_map]
      unfold lgreat
      congr 1
      refine List.filter_congr fun lot _ => ?_
      show (!((llots ts).any fun other => (!decide (ofN (natsD lot) = other)) && partB (ofN (natsD lot)) other)) = _
      rw [ofN_nats]
    case b3 =>
      rintro ds ⟨g, rfl, h⟩
      exact ⟨g, rfl, h⟩
    rintro d ⟨g, rfl, gp, gs⟩
    refine ⟨rfl, ?_⟩
    refine xss_no (xt_neSame 2 (Sa := fun z => ∃ ls' : List (List Nat), z = lotsD ls' ∧ ls'.Perm (great ts (k + 1)) ∧ ls'.Pairwise (fun x y => ltN y x = false)) hr (xe_callK1 (okK_greatest_lots T) hr (xv_tupleOf T.b_tuple (xv_var 2) rfl rfl) rfl ⟨ts, _, k + 1, rfl, hTt, hK, rfl⟩ fun z h => h) (xv_var 5) ?_ (pdD_lots g)) ?_
    · rintro x ⟨ls, rfl, p1, p2⟩
      rw [sort_uniq ((p1.trans (great_perm ok hK)).trans gp.symm) p2 gs]
    -- the most
    have hl0 : 0 < (llots ts).length := List.length_pos_of_mem (llots_mem.mpr ⟨⟨List.Pairwise.nil, fun _ h => nomatch h⟩, llot_nil ts⟩)
    refine xss_setE (S := fun z => z = .int (k : Int)) 6 hnd (xe_imp (xe_maxI (ns := (llots ts).map fun l => (l.length : Int)) rfl T.b_max (xv_of_xf (xf_imp (xf_map (own := [("_law_lot", 8)]) (τ := tName 8) (ds := (llots ts).map natsD) (fun d => .int ((ofN d).length : Int)) rfl hnd (xi_list (xv_var 4)) (blk_ok rfl (by rfl)) (fun _ _ _ _ _ => xg_name 8 hnd) (by rw [List.length_map]; omega) ?c1) fun z e => e.trans ?c2)) rfl (by rw [List.length_map]; exact hl0)) ?c3) ?_
    case c1 =>
      intro d hd
      obtain ⟨lot, hlot, rfl⟩ := List.mem_map.mp hd
      exact ⟨_, rfl, rfl, fun _ _ _ _ _ => xv_to (xv_len T.b_len (xv_var 8) rfl) (by rw [ofN_nats, List.length_map])⟩
    case c2 =>
      rw [List.map_map, List.map_map]
      refine List.map_congr_left fun lot _ => ?_
      show D.int ((ofN (natsD lot)).length : Int) = _
      rw [ofN_nats]; rfl
    case c3 =>
      rintro d ⟨m, rfl, hm, hall⟩
      obtain ⟨l, hl, rfl⟩ := List.mem_map.mp hm
      have : l.length = k := most_lev ok hK ⟨l, hl, rfl⟩ fun l' hl' => by
        have := hall _ (List.mem_map.mpr ⟨l', hl', rfl⟩)
        omega
      rw [this]
    rintro d rfl
    refine ⟨rfl, ?_⟩
    -- the fewest out
    have lkm : ∀ x, x ∈ (lev ts k).map (compl ts.length) ↔ x ∈ ((llots ts).filter fun l => decide (l.length = k)).map (compl ts.length) := fun x => by
      rw [List.mem_map, List.mem_map]
      refine exists_congr fun l => and_congr ?_ Iff.rfl
      rw [List.mem_filter, lev_llots ok]
      exact and_congr Iff.rfl (by simp)
    have hlk : ((llots ts).filter fun l => decide (l.length = k)).map (compl ts.length) ≠ [] := fun z => by
      have h := hK.lt k (Nat.lt_succ_self k)
      cases q : lev ts k with
      | nil => exact h q
      | cons l r =>
        have := (lkm (compl ts.length l)).mp (List.mem_map.mpr ⟨l, by rw [q]; exact List.mem_cons_self .., rfl⟩)
        rw [z] at this; cases this
    refine xss_setE (S := fun z => ∃ l : List Nat, z = natsD l ∧ l ∈ ((llots ts).filter fun l => decide (l.length = k)).map (compl ts.length) ∧ ∀ y ∈ ((llots ts).filter fun l => decide (l.length = k)).map (compl ts.length), ltN y l = false) 7 hnd (xe_minN hr rfl T.b_min (xv_to (d' := lotsD (((llots ts).filter fun l => decide (l.length = k)).map (compl ts.length))) (xv_of_xf (xf_fm (own := [("_law_lot", 8)]) (τ := tName 8) (ds := (llots ts).map natsD) (fun d => decide ((ofN d).length = k)) (fun d => natsD (compl ts.length (ofN d))) rfl hnd (xi_list (xv_var 4)) (blk_ok rfl (by rfl)) (fun _ _ _ _ _ => xg_name 8 hnd) (by rw [List.length_map]; omega) ?d1)) ?d2) rfl hlk) ?_
    case d1 =>
      intro d hd
      obtain ⟨lot, hlot, rfl⟩ := List.mem_map.mp hd
      refine ⟨_, rfl, fun _ _ _ _ _ => ?_, fun _ => ⟨rfl, fun _ _ _ _ _ => ?_⟩⟩
      · rw [ofN_nats]
        exact xt_to (xt_eq (xv_len T.b_len (xv_var 8) rfl) (xv_var 6)) (decide_eq_decide.mpr (by rw [List.length_map]; omega))
      · rw [ofN_nats]
        refine xe_of_xf (xf_fm (own := [("_law_at", 11)]) (τ := tName 11) (ds := rng 0 ts.length) (fun d => match d with | .int i => !decide (i.toNat ∈ lot) | _ => false) (fun d => d) rfl hnd (xi_range1 T.b_range (xv_var 3) (by simp) (by omega)) (blk_ok rfl (by rfl)) (fun _ _ _ _ _ => xg_name 11 hnd) (by rw [rng_len]; omega) ?_) fun z e => ?_
        · intro d hd
          obtain ⟨i, hi, rfl⟩ := mem_rng hd
          rw [show (0 : Int) + (i : Nat) = (i : Int) by omega]
          exact ⟨_, rfl, fun _ _ _ _ _ => xt_to (xt_ninI (xv_var 11) (xv_var 8) (natsD_items lot)) (by rw [in_nats]; rfl), fun _ => ⟨rfl, fun _ _ _ _ _ => xv_var 11⟩⟩
        · rw [e, List.map_id', rng_nats]
          unfold natsD compl
          rw [List.filter_map]
          congr 1
    case d2 =>
      show D.lst _ = D.lst _
      congr 1
      rw [List.filter_map, List.map_map, List.map_map]
      have e1 : (llots ts).filter ((fun d => decide ((ofN d).length = k)) ∘ natsD) = (llots ts).filter fun l => decide (l.length = k) := List.filter_congr fun l _ => by
        show decide ((ofN (natsD l)).length = k) = _
        rw [ofN_nats]
      rw [e1]
      refine List.map_congr_left fun l _ => ?_
      show natsD (compl ts.length (ofN (natsD l))) = _
      rw [ofN_nats]; rfl
    rintro d ⟨out, rfl, ho1, ho2⟩
    refine ⟨rfl, ?_⟩
    refine xss_no (xt_to (xt_or (c := false) (d := false) (xt_neSame 1 (Sa := fun z => ∃ l : List Nat, z = natsD l ∧ l ∈ (lev ts k).map (compl ts.length) ∧ ∀ y ∈ (lev ts k).map (compl ts.length), ltN y l = false) hr (xe_callK1 (okK_fewest_out T) hr (xv_var 2) rfl ⟨ts, _, k, rfl, hTl, hK, rfl⟩ fun z h => h) (xv_var 7) ?e1 (pdD_nats out)) fun _ => pw_or1 (xt_to (xt_not (xt_val (xv_call (ok_Lodd_right T) hr (xva_cons (xv_var 2) (xva_cons (xv_var 4) (xva_cons (xv_var 3) xva_nil))) ⟨ts, rfl, hTl, rfl⟩))) rfl)).pt rfl) ?_
    case e1 =>
      rintro x ⟨l, rfl, h1, h2⟩
      rw [min_uniq lkm h1 h2 ho1 ho2]
    -- each lot
    refine xss_cons (M := fun ρ => ∃ o8 : Option D, ρ = [some .pot, some (ltoldsD ts), some (toldsD ts), some (.int (ts.length : Int)), some (lotsD (llots ts)), some (lotsD g), some (.int (k : Int)), some (natsD out), o8, none, none, none]) (xs_for (L := [8]) PassesOwn.never rfl (xi_list (ds := (allL ts.length).map natsD) (xv_call (ok_Lall T) (hr.mono (by decide)) (xva_cons (xv_var 3) xva_nil) ⟨ts.length, rfl, h4, rfl⟩)) (xg_name 8 hnd) (fun i ρ => ∃ o8 : Option D, ρ = [some .pot, some (ltoldsD ts), some (toldsD ts), some (.int (ts.length : Int)), some (lotsD (llots ts)), some (lotsD g), some (.int (k : Int)), some (natsD out), o8, none, none, none]) ⟨none, rfl⟩ ?_ ?_) ?_
    · rintro i d ρ1 hd ⟨o8, rfl⟩
      rw [List.getElem?_map] at hd
      obtain ⟨lot, hlot, rfl⟩ := Option.map_eq_some_iff.mp hd
      have hmem := List.mem_of_getElem? hlot
      have lok := (allL_mem ts.length lot).mp hmem
      have l10 := lok.len
      obtain ⟨b1, b2⟩ := lotB_of (v := natsD lot) lok rfl rfl
      refine ⟨_, rfl, ?_⟩
      have e1 : (lotB (natsD lot) ts.length && letP ts (lotOf (natsD lot))) = decide (natsD lot ∈ (llots ts).map natsD) := by
        rw [b1, b2, let_lot ok lok, Bool.true_and, mem_lots]
        cases e : llotF ts lot with
        | true => exact (decide_eq_true (llots_mem.mpr ⟨lok, e⟩)).symm
        | false => exact (decide_eq_false fun z => by rw [(llots_mem.mp z).2] at e; cases e).symm
      refine xss_no (xt_to (xt_neS (xv_reprB T.b_repr (xv_call (ok_is_doable_lot T) (hr.mono (by decide)) (xva_cons (xv_var 2) (xva_cons (xv_var 8) xva_nil)) ⟨ts, _, natsD lot, rfl, hTl, rfl, ?_, rfl⟩)) (xv_reprB T.b_repr (xv_inD 1 hr (xv_var 8) (xv_var 4) (pdD_nats lot) ?_))) ?_) (xss_nil ⟨some (natsD lot), rfl⟩)
      · intro es e
        have e : natL lot = es := Option.some.inj e
        subst e
        refine ⟨by unfold natL; rw [List.length_map]; omega, fun x hx => ?_⟩
        obtain ⟨p, _, rfl⟩ := List.mem_map.mp hx
        rfl
      · rw [List.all_map]
        exact List.all_eq_true.mpr fun l _ => pdD_nats l
      · rw [e1, decide_eq_true rfl]; rfl
    · rintro ρ1 ⟨o8, rfl⟩
      exact ⟨o8, rfl⟩
    rintro ρ1 ⟨o8, rfl⟩
    -- what is left
    obtain ⟨lot, hlot, eo⟩ := List.mem_map.mp ho1
    obtain ⟨hll, hlen⟩ := List.mem_filter.mp hlot
    obtain ⟨lok, lf⟩ := llots_mem.mp hll
    have ecc : compl ts.length out = lot := by rw [← eo]; exact compl_compl lok
    refine xss_setL 9 (ds := (subT ts lot).map toldD) (xl_imp (xl_fm (own := [("_law_at", 11)]) (τ := tName 11) (ds := rng 0 ts.length) (fun d => match d with | .int i => !decide (i.toNat ∈ out) | _ => false) (fun d => match d with | .int i => toldD (tAt ts i.toNat) | _ => .non) rfl hnd (xi_range1 T.b_range (xv_var 3) (by simp) (by omega)) (blk_ok rfl (by rfl)) (fun _ _ _ _ _ => xg_name 11 hnd) (by rw [rng_len]; omega) ?_) fun z e => e.trans ?_) ?_
    · intro d hd
      obtain ⟨i, hi, rfl⟩ := mem_rng hd
      rw [show (0 : Int) + (i : Nat) = (i : Int) by omega]
      exact ⟨_, rfl, fun _ _ _ _ _ => xt_to (xt_ninI (xv_var 11) (xv_var 7) (natsD_items out)) (by rw [in_nats]; rfl), fun _ => ⟨rfl, fun _ _ _ _ _ => xv_ixL (xv_var 2) (xv_var 11) rfl (toldsD_at hi)⟩⟩
    · rw [rng_nats, List.filter_map, List.map_map]
      show _ = (lot.map (tAt ts)).map toldD
      rw [List.map_map]
      conv => rhs; rw [← ecc]
      rfl
    have lrest := subT_sub lok
    have htl : lot ≠ [] → TelOk (subT ts lot) (.lst ((subT ts lot).map toldD)) := fun hz => ⟨.inl rfl, TsOk.sub lrest ok, fun z => hz (List.map_eq_nil_iff.mp z), hD.nd.sublist (lrest.map _)⟩
    refine xss_no (xt_to (xt_and (c := !((subT ts lot).map toldD).isEmpty) (d := false) (xt_neNil hr (xv_var 9) rfl (xv_lst xva_nil)) fun hz => ?_).pt (by rw [Bool.and_false])) ?_
    · have hz2 : lot ≠ [] := fun z => by
        subst z
        cases hz
      refine pw_and1 (xt_to (xt_not (xt_val (xv_call (ok_is_doable T) (hr.mono (by decide)) (xva_cons (xv_var 9) xva_nil) ⟨_, _, rfl, htl hz2, rfl⟩))) ?_)
      have : letP ts lot = true := by rw [let_lot ok lok, lf]
      unfold letP at this
      have he : lot.isEmpty = false := by cases lot with
        | nil => exact absurd rfl hz2
        | cons _ _ => rfl
      rw [he, Bool.false_or] at this
      rw [this]; rfl
    -- the end
    refine xss_one (xs_retv (d := .bl true) (xv_to (xv_eqB (xv_call (ok_is_doable T) (hr.mono (by decide)) (xva_cons (xv_var 2) xva_nil) ⟨ts, _, rfl, hTl, rfl⟩) (xv_eqD 2 hr (xv_var 5) (xv_lst (xva_cons (xv_of_xf (xf_listRg rfl T.b_list T.b_range (xv_var 3) (by omega))) xva_nil)) (pdD_lots g) ?_)) ?_) ⟨rfl, rfl⟩)
    · rw [rng_nats]
      exact pdD_lots [List.range ts.length]
    · rw [rng_nats]
      have e1 : decide (lotsD g = .lst [natsD (List.range ts.length)]) = decide (g = [List.range ts.length]) := decide_eq_decide.mpr ⟨fun h => lotsD_inj (b := [List.range ts.length]) h, fun h => by rw [h]; rfl⟩
      show D.bl (decide (sqOf (tableM ts) = decide (lotsD g = .lst [natsD (List.range ts.length)]))) = .bl true
      rw [e1, whole_great ok hne gp, decide_eq_true rfl]
end NL

/-! text L11 -/
set_option Elab.async false
set_option linter.all false
set_option maxRecDepth 100000
set_option maxHeartbeats 4000000
/-! The law itself. -/
namespace NL
open PySem PySem.Spec L2
open PyProof.Rows (envOfC)
variable {P : Program} {w : World} {K : PySem.W.Frag} {mg : Str → Option Value} {base : Heap}
def R_law : Rel := fun ds T => ∃ ns : List Int, ds = [.scr ns] ∧ T = fun z => z = .bl true
theorem ok_law {fd : FuncData} (T : Tx P K mg) (F : Fd_law K (d_law.ad K) fd) : FnOk P w K mg base CX0 49 (d_law.ad K) fd ["_law_script"] (spR K R_law) := by
  refine fn_R F sc_law ?_ ?_
  · rintro ds S ⟨ns, rfl, _⟩; rfl
  · rintro cdv A outer s H E hr ds S ⟨ns, rfl, rfl⟩
    have hnd := sc_law.nd
    have e1 : (if (if ((ns.length : Nat) : Int) < 1 then ((ns.length : Nat) : Int) else 1) > 1 then (if ((ns.length : Nat) : Int) < 1 then ((ns.length : Nat) : Int) else 1) else (1 : Int)) = 1 := by
      split
      · split at * <;> omega
      · rfl
    refine xss_one (xs_retv (d := .bl true) (xv_to (xv_all (bs := [true]) rfl T.b_all (xv_of_xf (xf_imp (xf_map (own := [("_law_k", 1)]) (τ := tName 1) (ds := rng 0 1) (fun _ => .bl true) rfl hnd (xi_range1 (m := 1) T.b_range (xv_to (xv_max2 rfl T.b_max xv_int (xv_min2 rfl T.b_min xv_int (xv_lenS T.b_len (xv_var 0)))) (congrArg D.int e1)) rfl (by decide)) (blk_ok rfl (by rfl)) (fun _ _ _ _ _ => xg_name 1 hnd) (by decide) ?_) fun z e => e.trans rfl))) rfl) ⟨rfl, rfl⟩)
    intro d hd
    obtain ⟨i, hi, rfl⟩ := mem_rng hd
    obtain rfl : i = 0 := by omega
    exact ⟨_, rfl, rfl, fun _ _ _ _ _ => xv_call (ok_Lright T) hr (xva_cons (xv_call (ok_Lpot T) (hr.mono (by decide)) (xva_cons (xv_var 0) (xva_cons (xv_var 1) xva_nil)) ⟨ns, rfl, rfl⟩) xva_nil) ⟨rfl, rfl⟩⟩
theorem law_sp {H : Hp} {a : Addr} {ns : List Int} (hO : Only H) (hS : SqL K H a (ns.map V.int)) : spR K R_law [.ref a] H (fun v _ => v = .bl true) fun _ _ _ => False := by
  have fin : ∀ (G' H' : Hp) (v : V) (d : D), Da K G' v d → d = .bl true → v = .bl true := fun G' H' v d h e => by
    subst e
    cases h
    rfl
  rcases hS with (h | ⟨o, h⟩) | h
  · rcases hO a with z | ⟨o, xs, z⟩
    · rw [z] at h; cases h
    · rw [z] at h; cases h
  · refine ⟨upd (fun _ => none) a (.frz o (.lst (ns.map V.int))), [.scr ns], _, ⟨fun b u q _ => ?_, fun b q => ?_⟩, DaL.cons (.scrF upd_same) DaL.nil, ⟨ns, rfl, rfl⟩, fun G' H' v d _ h e => fin G' H' v d h e⟩
    · by_cases e : b = a
      · subst e; rw [upd_same] at q; rw [h]; exact q
      · rw [upd_ne e] at q; cases q
    · by_cases e : b = a
      · subst e; rw [upd_same] at q; cases q
      · rw [upd_ne e] at q; cases q
  · exact ⟨fun _ => none, [.scr ns], _, ⟨fun b u q _ => (nomatch q), fun b q => (nomatch q)⟩, DaL.cons (.scrK fun _ => .inr h) DaL.nil, ⟨ns, rfl, rfl⟩, fun G' H' v d _ h e => fin G' H' v d h e⟩
theorem facts {P : Program} {w : World} {K : PySem.W.Frag} {h : Heap} {mg : Str → Option Value} {f : Addr} (tree : P.given.tree = none) (X : K.In h) (G : h.Ns mainGlobals mg) (hfa : mg ("law" : Str) = some (.ref f)) (c : SaysN faAll fnAll exB K) :
    ∃ fd : FuncData, (∀ (s : Shared) (v : Value), BindsTo s fd ⟨[v], []⟩ [("_law_script", v)]) ∧ ∀ base : Heap, K.In base → base.Ns mainGlobals mg → FnOk P w K mg base CX0 49 f fd ["_law_script"] (spR K R_law) := by
  have T : Tx P K mg := Tx.of tree X G c
  obtain ⟨fd, F⟩ := T.F_law
  have e := hfa.symm.trans T.g_law
  cases e
  have b := FunD.bindsA (ps := ["_law_script"]) F fun _ _ _ _ _ _ us hl => match us, hl with | [_], _ => rfl
  exact ⟨fd, fun s v => b s [v] rfl, fun base _ _ => ok_law T F⟩
end NL

/-! text Fin -/
set_option Elab.async false
set_option linter.all false
set_option maxRecDepth 100000
set_option maxHeartbeats 0
open PySem PySem.W PySem.Calls PyProof.Rows
theorem PySem.Challenge.cw_neverlouder_k79_whole_lots_of_tolds_holds : PySem.Challenge.rw_neverlouder_k79_whole_lots_of_tolds.Holds := by
  w_on; o_law
  refine HandSHeadRun.head_imp (r := NL.RW) (q := NL.qv) (H := NL.hkN) (ob := NL.obN) (M := 40000) (loose := NL.looseN) (d := HandSHeadRun.topDef NL.RW.prog 96) (kwd := []) NL.obN_eq NL.runN (by kernel_rfl) (by kernel_rfl) (by kernel_rfl) (by rfl) (by first | assumption | decide +kernel) (by decide +kernel) ⟨rfl, rfl, rfl, rfl, rfl, by decide +kernel⟩ ?hw ?hc
  case hw => w_witness2
  case hc =>
    refine L2.walk_ofE (l := PySem.Challenge.rw_neverlouder_k79_whole_lots_of_tolds) (n := 63) (k := 49) (x := "_law_script") (CX := L2.CX0) rfl (by decide) (by kernel_rfl) ⟨rfl, by decide, by decide⟩ ?F (fun _ _ _ _ z => z)
    intro w mg fa h Y G hmg0
    obtain ⟨K, KX, c⟩ := Y
    have hmg : mg ("law" : PySem.Str) = some (.ref fa) := by
      have e : (HandSHeadRun.topDef NL.RW.prog 96).name = ("law" : PySem.Str) := by kernel_rfl
      rw [← e]
      exact hmg0
    obtain ⟨fd, hb, hF⟩ := NL.facts (P := (PySem.Challenge.rw_neverlouder_k79_whole_lots_of_tolds).prog) (w := w) rfl KX G hmg c
    exact ⟨K, fd, NL.spR K NL.R_law, KX, hb, fun H a ns hl hO hS => NL.law_sp hO hS, hF⟩
